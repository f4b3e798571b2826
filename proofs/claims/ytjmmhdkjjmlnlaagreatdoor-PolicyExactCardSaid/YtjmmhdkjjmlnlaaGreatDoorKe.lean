/- Contracts of the package codec. No condition beyond those that each theorem states. -/
import Derived.Test.YtjmmhdkjjmlnlaaGreatDoorKd
import Derived.Test.YtjmmhdkjjmlnlaaGreatDoorXd
import Derived.Test.YtjmmhdkjjmlnlaaGreatDoorProg
set_option linter.unusedSimpArgs false
set_option linter.unusedVariables false
set_option linter.unusedSectionVars false
namespace Px
open Go Go.RowKit Go.Proofs
theorem bt : ByteT Tryz.prog 53 5 := ⟨Tryz.underlying53, Tryz.underlying5, ⟨_, info5, rfl, rfl, rfl⟩, Tryz.sizeOf5⟩
theorem zig_eq (n : Int) (h1 : -9223372036854775808 ≤ n) (h2 : n ≤ 9223372036854775807) :
    IntKind.u64.wrap (BitVec.ofInt 64 (IntKind.u64.wrap (IntKind.u64.wrap n * 2)) ^^^ BitVec.ofInt 64 (IntKind.u64.wrap (n / 9223372036854775808))).toNat = (zig n : Int) := by
  simp only [wrap_u64']
  unfold zig
  by_cases h : 0 ≤ n
  · rw [if_pos h, show n / 9223372036854775808 = 0 by omega]
    have : (0 : Int) % 18446744073709551616 = 0 := by decide
    rw [this, show n % 18446744073709551616 * 2 % 18446744073709551616 = 2 * n by omega]
    have e : BitVec.ofInt 64 0 = 0#64 := rfl
    rw [e, BitVec.xor_zero, BitVec.toNat_ofInt]
    omega
  · rw [if_neg h, show n / 9223372036854775808 = -1 by omega]
    have : (-1 : Int) % 18446744073709551616 = 18446744073709551615 := by decide
    rw [this, show n % 18446744073709551616 * 2 % 18446744073709551616 = 2 * n + 18446744073709551616 by omega]
    have e : BitVec.ofInt 64 18446744073709551615 = BitVec.allOnes 64 := by decide
    rw [e, BitVec.xor_allOnes, BitVec.toNat_not, BitVec.toNat_ofInt]
    omega
theorem zig_lt (n : Int) (h1 : -9223372036854775808 ≤ n) (h2 : n ≤ 9223372036854775807) : zig n < 18446744073709551616 := by unfold zig; split <;> omega
theorem or128 (u : Nat) : IntKind.u8.wrap (BitVec.ofInt IntKind.u8.bits ((u : Int) % 256) ||| BitVec.ofInt IntKind.u8.bits 128).toNat = ((UInt8.ofNat (u % 128 + 128)).toNat : Int) := by
  have key : ∀ v : BitVec 8, (v ||| 128#8).toNat = (v.toNat % 128 + 128) := by decide
  have e : BitVec.ofInt IntKind.u8.bits 128 = 128#8 := rfl
  rw [e]
  have e2 : (BitVec.ofInt 8 ((u : Int) % 256)).toNat = u % 256 := by rw [BitVec.toNat_ofInt]; omega
  have := key (BitVec.ofInt 8 ((u : Int) % 256))
  rw [e2] at this
  show IntKind.u8.wrap (BitVec.ofInt 8 ((u : Int) % 256) ||| 128#8).toNat = _
  rw [this, wrap_u8']
  simp only [UInt8.toNat_ofNat']
  omega
theorem byte_of (u : Nat) (h : u < 256) : ((u : Int) % 256) = ((UInt8.ofNat u).toNat : Int) := by
  simp only [UInt8.toNat_ofNat']
  omega
/-- chartroom/codec.unsigned -/
theorem codec_unsigned (n : Int) (h1 : -9223372036854775808 ≤ n) (h2 : n ≤ 9223372036854775807) (w : World) :
    Calls Tryz.prog 88 #[.int .i64 n] w (Ret w (.int .u64 (zig n : Int))) := by
  
  refine enter (vs := [_]) Tryz.func88 rfl Tryz.ntmps88 rfl ?_
  refine CJ.seq ?_
  refine CJ.region ?_
  refine rv rfl rfl rfl (asg_r rfl) ?_
  refine OJ.done ?_
  refine PJ.next ?_
  refine CJ.seq ?_
  refine CJ.region ?_
  refine rv rfl rfl rfl (mv_r rfl) ?_
  refine rv rfl rfl rfl (cvtW_r Tryz.underlying3 Tryz.underlying148 rfl) ?_
  refine rv rfl rfl rfl (shlC_r 1 2 (by decide) rfl rfl rfl) ?_
  refine rv rfl rfl rfl (mv_r rfl) ?_
  refine rv rfl rfl rfl (shrC_r 63 9223372036854775808 (by decide) rfl rfl rfl) ?_
  refine rv rfl rfl rfl (cvtW_r Tryz.underlying3 Tryz.underlying148 rfl) ?_
  refine rv rfl rfl rfl (xorW_r rfl rfl) ?_
  refine rv rfl rfl rfl (asg_r rfl) ?_
  refine OJ.done ?_
  refine PJ.next ?_
  refine CJ.ret ?_
  refine retV Tryz.results88 rfl (.head _) ?_
  exact congrArg (Value.int .u64) (zig_eq n h1 h2)
/-- chartroom/codec.numeral -/
theorem codec_numeral (xs : List UInt8) (u : Nat) (hu : u < 18446744073709551616) (b cap : Nat) (sp : List Value) (hrow : RowOk xs cap sp) (hlim : xs.length ≤ 900000000000) (w : World) (hb : w.heap[b]? = some (rowC 5 xs sp)) :
    Calls Tryz.prog 87 #[rowV b xs.length cap, .int .u64 (u : Int)] w (RetRow w b 5 (xs ++ num u)) := by
  have hbl := (Array.getElem?_eq_some_iff.1 hb).1
  have hn10 := num_len10 hu
  refine enterG (vs := [_, _]) (Gh.lent (· = b)) [(b, rowC 5 xs sp)] Tryz.func87 rfl Tryz.ntmps87 rfl (st_lent hb) ?_
  refine CJ.seq ?_
  refine CJ.region ?_
  refine rv rfl rfl rfl (asg_r rfl) ?_
  refine OJ.done ?_
  refine PJ.next ?_
  refine CJ.seq ?_
  refine CJ.block ?_
  refine CJ.loop (α := List UInt8 × Nat × Nat × Nat × List Value) (fun p => [(0, rowV p.2.2.1 p.1.length p.2.2.2.1), (1, .int .u64 (p.2.1 : Int))]) (fun p => [(p.2.2.1, rowC 5 p.1 p.2.2.2.2)]) (fun p => [w]) (fun p => Gh.lent (· = b)) (fun p => xs ++ num u = p.1 ++ num p.2.1 ∧ p.2.1 < 18446744073709551616 ∧ Fr (Gh.lent (· = b)) [w] p.2.2.1 ∧ RowOk p.1 p.2.2.2.1 p.2.2.2.2) (fun p => p.2.1) (xs, u, b, cap, sp) ⟨rfl, hu, .inl rfl, hrow⟩ ⟨rfl, rfl, trivial⟩ rfl rfl (by simp) ?_
  rintro ⟨ys, v, b1, c1, sp1⟩ ⟨hinv, hv, hf, hr⟩
  dsimp only at hinv hv hf hr ⊢
  have hll : (ys ++ num v).length ≤ 900000000010 := by rw [← hinv, List.length_append]; omega
  have hvp := num_pos v
  rw [List.length_append] at hll
  refine CJ.seq ?_
  refine CJ.seq ?_
  refine CJ.region ?_
  refine rv rfl rfl rfl (mv_r rfl) ?_
  refine rv rfl rfl rfl (geq_r rfl rfl) ?_
  refine OJ.done ?_
  refine PJ.next ?_
  refine CJ.cond rfl (fun hc1 => ?_) (fun hc1 => ?_)
  · try simp only [decide_eq_true_eq, decide_eq_false_iff_not, Bool.not_eq_true', Bool.not_eq_false'] at hc1
    refine CJ.skip ?_
    refine PJ.next ?_
    refine CJ.seq ?_
    refine CJ.block ?_
    refine CJ.region ?_
    refine rv rfl rfl rfl (mv_r rfl) ?_
    refine rv rfl rfl rfl (mv_r rfl) ?_
    refine rv rfl rfl rfl (cvtB_r Tryz.underlying148 Tryz.underlying5 rfl) ?_
    refine rv rfl rfl rfl (RV.re (v' := .int .u8 ((UInt8.ofNat (v % 128 + 128)).toNat : Int)) (orW_r rfl rfl) (congrArg (Value.int .u8) (or128 v))) ?_
    refine bsB [UInt8.ofNat (v % 128 + 128)] bt Tryz.zeroValue5 rfl rfl rfl rfl rfl rfl rfl rfl rfl ?_
    intro b13 ha13 ho13 hx13 hr13
    simp only [Above] at ha13
    try simp only [Off, List.set_cons_zero, List.set_cons_succ, ne_eq, and_true] at ho13
    refine apB (i := 1) (xs := ys) (zs := [UInt8.ofNat (v % 128 + 128)]) (sp := sp1) rfl bt rfl rfl rfl rfl (SrcB.own (i := 0) Tryz.underlying53 rfl) hr hf (by simp only [List.length_append, List.length_cons, List.length_nil]; omega) ?_
    intro b14 c14 s14 hf14 hr14
    have hg14 := hf14
    simp only [Fr, Gh.lent, Gh.no, Above, and_true, false_or] at hg14
    refine OJ.dropF (i := 0) rfl (.inr ⟨ha13.1, trivial⟩) ?_
    refine rv rfl rfl rfl (asg_r rfl) ?_
    refine OJ.done ?_
    refine PJ.norBlock ?_
    refine PJ.next ?_
    refine CJ.region ?_
    refine rv rfl rfl rfl (mv_r rfl) ?_
    refine rv rfl rfl rfl (RV.re (v' := .int .u64 ((v / 128 : Nat) : Int)) (shrC_r 7 128 (by decide) rfl rfl rfl) (congrArg (Value.int .u64) (by omega))) ?_
    refine rv rfl rfl rfl (asg_r rfl) ?_
    refine OJ.done ?_
    refine PJ.again (ys ++ [UInt8.ofNat (v % 128 + 128)], v / 128, b14, c14, s14) ⟨by dsimp only; rw [hinv, num_ge (by omega), List.append_assoc]; rfl, by dsimp only; omega, hf14, hr14⟩ (by dsimp only; omega) ⟨rfl, rfl, trivial⟩ rfl rfl (by simp)
  · try simp only [decide_eq_true_eq, decide_eq_false_iff_not, Bool.not_eq_true', Bool.not_eq_false'] at hc1
    refine CJ.exit ?_
    refine PJ.exThen ?_
    refine PJ.exThen ?_
    refine PJ.exHit ?_
    refine PJ.next ?_
    refine CJ.seq ?_
    refine CJ.region ?_
    refine rv rfl rfl rfl (mv_r rfl) ?_
    refine rv rfl rfl rfl (mv_r rfl) ?_
    refine rv rfl rfl rfl (RV.re (v' := .int .u8 ((UInt8.ofNat v).toNat : Int)) (cvtB_r Tryz.underlying148 Tryz.underlying5 rfl) (congrArg (Value.int .u8) (byte_of v (by omega)))) ?_
    refine bsB [UInt8.ofNat v] bt Tryz.zeroValue5 rfl rfl rfl rfl rfl rfl rfl rfl rfl ?_
    intro b18 ha18 ho18 hx18 hr18
    simp only [Above] at ha18
    try simp only [Off, List.set_cons_zero, List.set_cons_succ, ne_eq, and_true] at ho18
    refine apB (i := 1) (xs := ys) (zs := [UInt8.ofNat v]) (sp := sp1) rfl bt rfl rfl rfl rfl (SrcB.own (i := 0) Tryz.underlying53 rfl) hr hf (by simp only [List.length_append, List.length_cons, List.length_nil]; omega) ?_
    intro b19 c19 s19 hf19 hr19
    have hg19 := hf19
    simp only [Fr, Gh.lent, Gh.no, Above, and_true, false_or] at hg19
    refine OJ.dropF (i := 0) rfl (.inr ⟨ha18.1, trivial⟩) ?_
    refine rv rfl rfl rfl (asg_r rfl) ?_
    refine OJ.done ?_
    refine PJ.next ?_
    refine CJ.ret ?_
    rw [hinv, num_lt (by omega)]
    exact retRow (i := 0) (.inl rfl) Tryz.results87 rfl rfl (.head _) (by simp only [OverX, List.set_cons_zero, List.set_cons_succ, List.eraseIdx_cons_zero, List.eraseIdx_cons_succ, and_true]; simp only [Fr, Gh.lent, Above] at hf19; omega) hr19
end Px
namespace Px
open Go Go.RowKit Go.Proofs
theorem eqlE_r {C : Cx} {G : Gh} {L : List World} {H : Heap} {E : Env} {T U : Nat} {x y : Operand} (hx : ev E x = some (.string ⟨#[]⟩)) (hy : ev E y = some (.string ⟨#[]⟩)) : RV C G L H E (.binOp .eql T x y U) (.bool true) :=
  RV.re (eqlS_r hx hy) (congrArg Value.bool (by simp))
/-- the elements of a list -/
def ElAt (N : Nat) (w : World) (base : Option Addr) (l : List V) : Prop := ∀ i (h : i < l.length), ∃ bl cs t fr, base = some ⟨bl, 0, none⟩ ∧ bl < N ∧ w.heap[bl]? = some (.cells cs t fr) ∧ 4 * i + 4 ≤ cs.size ∧ ∃ a1 a2 p3 n3 c3, cut cs (4 * i) 4 = #[.int .i64 (l[i]).kind, .int .i64 a1, .string a2, .slice p3 n3 c3] ∧ VAt N w l[i] (.agg #[.int .i64 (l[i]).kind, .int .i64 a1, .string a2, .slice p3 n3 c3])
theorem VAt.list {N : Nat} {w : World} {l : List V} {v : Value} (h : VAt N w (.list l) v) : ∃ base cap, v = vL base l.length cap ∧ l.length ≤ cap ∧ ElAt N w base l := by
  simp only [VAt] at h
  obtain ⟨base, cap, hv, hc, hl⟩ := h
  refine ⟨base, cap, hv, hc, fun i hi => ?_⟩
  rcases hl with rfl | ⟨b, cs, t, fr, hb, hlt, hcs, hs⟩
  · simp at hi
  · obtain ⟨h1, h2⟩ := hs.get i hi
    rw [Nat.zero_add] at h1 h2
    obtain ⟨a1, a2, p3, n3, c3, hsh⟩ := h2.shape
    rw [hsh] at h2
    exact ⟨b, cs, t, fr, hb, hlt, hcs, h1, a1, a2, p3, n3, c3, by injection hsh, h2⟩
def FormedOk (x : V) : Prop := ∀ (N : Nat) (w : World) (v : Value), N ≤ w.heap.size → VAt N w x v → x.fine → Calls Tryz.prog 85 #[v] w (Ret w (.tuple #[.int .i64 (x.depth : Int), .bool true]))
/-- chartroom/codec.formed -/
theorem formed_int (n : Int) (w : World) :
    Calls Tryz.prog 85 #[vI n] w (Ret w (.tuple #[.int .i64 0, .bool true])) := by
  
  refine enter (vs := [_]) Tryz.func85 rfl Tryz.ntmps85 rfl ?_
  refine CJ.seq ?_
  refine CJ.region ?_
  refine boxR rfl rfl rfl ?_
  intro b1 w1 hb1 ha1 ho1 hm1 hz1
  simp only [Above] at ha1
  try simp only [Off, book, List.cons_append, List.nil_append, List.set_cons_zero, List.set_cons_succ, ne_eq] at ho1
  refine rv rfl rfl rfl (asg_r rfl) ?_
  refine rv rfl rfl rfl (asg_r rfl) ?_
  refine OJ.done ?_
  refine PJ.next ?_
  refine CJ.seq ?_
  refine CJ.region ?_
  refine rv rfl rfl rfl (fld_r Tryz.underlying58 rfl Tryz.sizeOf9 rfl) ?_
  refine rv rfl rfl rfl (ldR_r Tryz.isAgg9 rfl (.head _) hb1 hm1 trivial rfl) ?_
  refine rv rfl rfl rfl (eqlE_r rfl rfl) ?_
  refine rv rfl rfl rfl (mv_r rfl) ?_
  refine rv rfl rfl rfl (fld_r Tryz.underlying58 rfl Tryz.sizeOf56 rfl) ?_
  refine rv rfl rfl rfl (ldR_r Tryz.isAgg56 rfl (.head _) hb1 hm1 trivial rfl) ?_
  refine rv rfl rfl rfl (lenS_r Tryz.underlying56 rfl) ?_
  refine rv rfl rfl rfl (RV.re (v' := .bool true) (eqlI_r rfl rfl) (congrArg Value.bool (decide_eq_true (by omega)))) ?_
  refine rv rfl rfl rfl (pkT_r rfl rfl) ?_
  refine rv rfl rfl rfl (fld_r Tryz.underlying58 rfl Tryz.sizeOf3 rfl) ?_
  refine rv rfl rfl rfl (ldR_r Tryz.isAgg3 rfl (.head _) hb1 hm1 trivial rfl) ?_
  refine rv rfl rfl rfl (eqlI_r rfl rfl) ?_
  refine rv rfl rfl rfl (mv_r rfl) ?_
  refine OJ.split (t := 21) rfl (fun hc1 => ?_) (fun hc1 => ?_)
  · try simp only [decide_eq_true_eq, decide_eq_false_iff_not, Bool.not_eq_true', Bool.not_eq_false'] at hc1
    refine rv rfl rfl rfl (fld_r Tryz.underlying58 rfl Tryz.sizeOf56 rfl) ?_
    refine rv rfl rfl rfl (ldR_r Tryz.isAgg56 rfl (.head _) hb1 hm1 trivial rfl) ?_
    refine rv rfl rfl rfl (lenS_r Tryz.underlying56 rfl) ?_
    refine rv rfl rfl rfl (eqlI_r rfl rfl) ?_
    refine rv rfl rfl rfl (pkT_r rfl rfl) ?_
    refine rv rfl rfl rfl (fld_r Tryz.underlying58 rfl Tryz.sizeOf3 rfl) ?_
    refine rv rfl rfl rfl (ldR_r Tryz.isAgg3 rfl (.head _) hb1 hm1 trivial rfl) ?_
    refine rv rfl rfl rfl (eqlI_r rfl rfl) ?_
    refine rv rfl rfl rfl (mv_r rfl) ?_
    refine OJ.split (t := 30) rfl (fun hc2 => ?_) (fun hc2 => ?_)
    · try simp only [decide_eq_true_eq, decide_eq_false_iff_not, Bool.not_eq_true', Bool.not_eq_false'] at hc2
      refine rv rfl rfl rfl (fld_r Tryz.underlying58 rfl Tryz.sizeOf9 rfl) ?_
      refine rv rfl rfl rfl (ldR_r Tryz.isAgg9 rfl (.head _) hb1 hm1 trivial rfl) ?_
      refine rv rfl rfl rfl (eqlE_r rfl rfl) ?_
      refine rv rfl rfl rfl (pkT_r rfl rfl) ?_
      refine rv rfl rfl rfl (bldA_r Tryz.underlying188 Tryz.zeroValue188 Tryz.sizeOf4 rfl rfl) ?_
      refine allW Tryz.zeroValue188 rfl rfl ?_
      intro b4 ha4 ho4
      simp only [Above] at ha4
      try simp only [Off, book, List.cons_append, List.nil_append, List.set_cons_zero, List.set_cons_succ, ne_eq] at ho4
      refine stWw (i := 0) rfl Tryz.sizeOf188 rfl rfl rfl rfl rfl rfl ?_
      refine OJ.done ?_
      refine PJ.next ?_
      refine CJ.seq ?_
      refine CJ.seq ?_
      refine CJ.region ?_
      refine rv rfl rfl rfl (fld_r Tryz.underlying58 rfl Tryz.sizeOf3 rfl) ?_
      refine rv rfl rfl rfl (ldR_r Tryz.isAgg3 rfl (.head _) hb1 hm1 (by first | (simp only [Off, book, List.cons_append, List.nil_append, List.set_cons_zero, List.set_cons_succ, List.eraseIdx_cons_zero, List.eraseIdx_cons_succ, ne_eq, and_true]; omega) | (simp [Off] <;> omega)) rfl) ?_
      refine rv rfl rfl rfl (RV.re (v' := .bool false) (lss_r rfl rfl) (congrArg Value.bool (decide_eq_false (by omega)))) ?_
      refine rv rfl rfl rfl (mv_r rfl) ?_
      refine rv rfl rfl rfl (fld_r Tryz.underlying58 rfl Tryz.sizeOf3 rfl) ?_
      refine rv rfl rfl rfl (ldR_r Tryz.isAgg3 rfl (.head _) hb1 hm1 (by first | (simp only [Off, book, List.cons_append, List.nil_append, List.set_cons_zero, List.set_cons_succ, List.eraseIdx_cons_zero, List.eraseIdx_cons_succ, ne_eq, and_true]; omega) | (simp [Off] <;> omega)) rfl) ?_
      refine rv rfl rfl rfl (RV.re (v' := .bool false) (gtr_r rfl rfl) (congrArg Value.bool (decide_eq_false (by omega)))) ?_
      refine rv rfl rfl rfl (pkF_r rfl rfl) ?_
      refine rv rfl rfl rfl (mv_r rfl) ?_
      refine rv rfl rfl rfl (fld_r Tryz.underlying58 rfl Tryz.sizeOf3 rfl) ?_
      refine rv rfl rfl rfl (ldR_r Tryz.isAgg3 rfl (.head _) hb1 hm1 (by first | (simp only [Off, book, List.cons_append, List.nil_append, List.set_cons_zero, List.set_cons_succ, List.eraseIdx_cons_zero, List.eraseIdx_cons_succ, ne_eq, and_true]; omega) | (simp [Off] <;> omega)) rfl) ?_
      refine rv rfl rfl rfl (idxA_r Tryz.underlying188 Tryz.sizeOf4 rfl rfl (by omega) (by omega)) ?_
      refine rv rfl rfl rfl (ldW_r (i := 0) rfl Tryz.isAgg4 rfl rfl) ?_
      refine rv rfl rfl rfl (notB_r rfl) ?_
      refine rv rfl rfl rfl (pkF_r rfl rfl) ?_
      refine OJ.done ?_
      refine PJ.next ?_
      refine CJ.condF rfl ?_
      refine CJ.skip ?_
      refine PJ.next ?_
      refine CJ.seq ?_
      refine CJ.seq ?_
      refine CJ.region ?_
      refine rv rfl rfl rfl (fld_r Tryz.underlying58 rfl Tryz.sizeOf3 rfl) ?_
      refine rv rfl rfl rfl (ldR_r Tryz.isAgg3 rfl (.head _) hb1 hm1 (by first | (simp only [Off, book, List.cons_append, List.nil_append, List.set_cons_zero, List.set_cons_succ, List.eraseIdx_cons_zero, List.eraseIdx_cons_succ, ne_eq, and_true]; omega) | (simp [Off] <;> omega)) rfl) ?_
      refine rv rfl rfl rfl (RV.re (v' := .bool true) (lss_r rfl rfl) (congrArg Value.bool (decide_eq_true (by omega)))) ?_
      refine OJ.done ?_
      refine PJ.next ?_
      refine CJ.condT rfl ?_
      refine CJ.seq ?_
      refine CJ.region ?_
      refine rv rfl rfl rfl (asg_r rfl) ?_
      refine rv rfl rfl rfl (asg_r rfl) ?_
      refine OJ.done ?_
      refine PJ.next ?_
      refine CJ.ret ?_
      refine PJ.retThen ?_
      refine retO (.inl rfl) Tryz.results85 (RS.t rfl (RS.t rfl (RS.n))) (.tail _ (.head _)) (by first | (simp only [Over, List.set_cons_zero, List.set_cons_succ, List.eraseIdx_cons_zero, List.eraseIdx_cons_succ, and_true]; omega) | (simp [Over] <;> omega)) ?_
      rfl
    · try simp only [decide_eq_true_eq, decide_eq_false_iff_not, Bool.not_eq_true', Bool.not_eq_false'] at hc2
      refine OJ.off rfl (by decide) rfl ?_
      refine OJ.off rfl (by decide) rfl ?_
      refine OJ.off rfl (by decide) rfl ?_
      refine rv rfl rfl rfl (pkF_r rfl rfl) ?_
      refine rv rfl rfl rfl (bldA_r Tryz.underlying188 Tryz.zeroValue188 Tryz.sizeOf4 rfl rfl) ?_
      refine allW Tryz.zeroValue188 rfl rfl ?_
      intro b4 ha4 ho4
      simp only [Above] at ha4
      try simp only [Off, book, List.cons_append, List.nil_append, List.set_cons_zero, List.set_cons_succ, ne_eq] at ho4
      refine stWw (i := 0) rfl Tryz.sizeOf188 rfl rfl rfl rfl rfl rfl ?_
      refine OJ.done ?_
      refine PJ.next ?_
      refine CJ.seq ?_
      refine CJ.seq ?_
      refine CJ.region ?_
      refine rv rfl rfl rfl (fld_r Tryz.underlying58 rfl Tryz.sizeOf3 rfl) ?_
      refine rv rfl rfl rfl (ldR_r Tryz.isAgg3 rfl (.head _) hb1 hm1 (by first | (simp only [Off, book, List.cons_append, List.nil_append, List.set_cons_zero, List.set_cons_succ, List.eraseIdx_cons_zero, List.eraseIdx_cons_succ, ne_eq, and_true]; omega) | (simp [Off] <;> omega)) rfl) ?_
      refine rv rfl rfl rfl (RV.re (v' := .bool false) (lss_r rfl rfl) (congrArg Value.bool (decide_eq_false (by omega)))) ?_
      refine rv rfl rfl rfl (mv_r rfl) ?_
      refine rv rfl rfl rfl (fld_r Tryz.underlying58 rfl Tryz.sizeOf3 rfl) ?_
      refine rv rfl rfl rfl (ldR_r Tryz.isAgg3 rfl (.head _) hb1 hm1 (by first | (simp only [Off, book, List.cons_append, List.nil_append, List.set_cons_zero, List.set_cons_succ, List.eraseIdx_cons_zero, List.eraseIdx_cons_succ, ne_eq, and_true]; omega) | (simp [Off] <;> omega)) rfl) ?_
      refine rv rfl rfl rfl (RV.re (v' := .bool false) (gtr_r rfl rfl) (congrArg Value.bool (decide_eq_false (by omega)))) ?_
      refine rv rfl rfl rfl (pkF_r rfl rfl) ?_
      refine rv rfl rfl rfl (mv_r rfl) ?_
      refine rv rfl rfl rfl (fld_r Tryz.underlying58 rfl Tryz.sizeOf3 rfl) ?_
      refine rv rfl rfl rfl (ldR_r Tryz.isAgg3 rfl (.head _) hb1 hm1 (by first | (simp only [Off, book, List.cons_append, List.nil_append, List.set_cons_zero, List.set_cons_succ, List.eraseIdx_cons_zero, List.eraseIdx_cons_succ, ne_eq, and_true]; omega) | (simp [Off] <;> omega)) rfl) ?_
      refine rv rfl rfl rfl (idxA_r Tryz.underlying188 Tryz.sizeOf4 rfl rfl (by omega) (by omega)) ?_
      refine rv rfl rfl rfl (ldW_r (i := 0) rfl Tryz.isAgg4 rfl rfl) ?_
      refine rv rfl rfl rfl (notB_r rfl) ?_
      refine rv rfl rfl rfl (pkF_r rfl rfl) ?_
      refine OJ.done ?_
      refine PJ.next ?_
      refine CJ.condF rfl ?_
      refine CJ.skip ?_
      refine PJ.next ?_
      refine CJ.seq ?_
      refine CJ.seq ?_
      refine CJ.region ?_
      refine rv rfl rfl rfl (fld_r Tryz.underlying58 rfl Tryz.sizeOf3 rfl) ?_
      refine rv rfl rfl rfl (ldR_r Tryz.isAgg3 rfl (.head _) hb1 hm1 (by first | (simp only [Off, book, List.cons_append, List.nil_append, List.set_cons_zero, List.set_cons_succ, List.eraseIdx_cons_zero, List.eraseIdx_cons_succ, ne_eq, and_true]; omega) | (simp [Off] <;> omega)) rfl) ?_
      refine rv rfl rfl rfl (RV.re (v' := .bool true) (lss_r rfl rfl) (congrArg Value.bool (decide_eq_true (by omega)))) ?_
      refine OJ.done ?_
      refine PJ.next ?_
      refine CJ.condT rfl ?_
      refine CJ.seq ?_
      refine CJ.region ?_
      refine rv rfl rfl rfl (asg_r rfl) ?_
      refine rv rfl rfl rfl (asg_r rfl) ?_
      refine OJ.done ?_
      refine PJ.next ?_
      refine CJ.ret ?_
      refine PJ.retThen ?_
      refine retO (.inl rfl) Tryz.results85 (RS.t rfl (RS.t rfl (RS.n))) (.tail _ (.head _)) (by first | (simp only [Over, List.set_cons_zero, List.set_cons_succ, List.eraseIdx_cons_zero, List.eraseIdx_cons_succ, and_true]; omega) | (simp [Over] <;> omega)) ?_
      rfl
  · try simp only [decide_eq_true_eq, decide_eq_false_iff_not, Bool.not_eq_true', Bool.not_eq_false'] at hc1
    refine OJ.off rfl (by decide) rfl ?_
    refine OJ.off rfl (by decide) rfl ?_
    refine OJ.off rfl (by decide) rfl ?_
    refine OJ.off rfl (by decide) rfl ?_
    refine rv rfl rfl rfl (pkF_r rfl rfl) ?_
    refine rv rfl rfl rfl (fld_r Tryz.underlying58 rfl Tryz.sizeOf3 rfl) ?_
    refine rv rfl rfl rfl (ldR_r Tryz.isAgg3 rfl (.head _) hb1 hm1 trivial rfl) ?_
    refine rv rfl rfl rfl (eqlI_r rfl rfl) ?_
    refine rv rfl rfl rfl (mv_r rfl) ?_
    refine OJ.split (t := 30) rfl (fun hc3 => ?_) (fun hc3 => ?_)
    · try simp only [decide_eq_true_eq, decide_eq_false_iff_not, Bool.not_eq_true', Bool.not_eq_false'] at hc3
      refine rv rfl rfl rfl (fld_r Tryz.underlying58 rfl Tryz.sizeOf9 rfl) ?_
      refine rv rfl rfl rfl (ldR_r Tryz.isAgg9 rfl (.head _) hb1 hm1 trivial rfl) ?_
      refine rv rfl rfl rfl (eqlE_r rfl rfl) ?_
      refine rv rfl rfl rfl (pkT_r rfl rfl) ?_
      refine rv rfl rfl rfl (bldA_r Tryz.underlying188 Tryz.zeroValue188 Tryz.sizeOf4 rfl rfl) ?_
      refine allW Tryz.zeroValue188 rfl rfl ?_
      intro b4 ha4 ho4
      simp only [Above] at ha4
      try simp only [Off, book, List.cons_append, List.nil_append, List.set_cons_zero, List.set_cons_succ, ne_eq] at ho4
      refine stWw (i := 0) rfl Tryz.sizeOf188 rfl rfl rfl rfl rfl rfl ?_
      refine OJ.done ?_
      refine PJ.next ?_
      refine CJ.seq ?_
      refine CJ.seq ?_
      refine CJ.region ?_
      refine rv rfl rfl rfl (fld_r Tryz.underlying58 rfl Tryz.sizeOf3 rfl) ?_
      refine rv rfl rfl rfl (ldR_r Tryz.isAgg3 rfl (.head _) hb1 hm1 (by first | (simp only [Off, book, List.cons_append, List.nil_append, List.set_cons_zero, List.set_cons_succ, List.eraseIdx_cons_zero, List.eraseIdx_cons_succ, ne_eq, and_true]; omega) | (simp [Off] <;> omega)) rfl) ?_
      refine rv rfl rfl rfl (RV.re (v' := .bool false) (lss_r rfl rfl) (congrArg Value.bool (decide_eq_false (by omega)))) ?_
      refine rv rfl rfl rfl (mv_r rfl) ?_
      refine rv rfl rfl rfl (fld_r Tryz.underlying58 rfl Tryz.sizeOf3 rfl) ?_
      refine rv rfl rfl rfl (ldR_r Tryz.isAgg3 rfl (.head _) hb1 hm1 (by first | (simp only [Off, book, List.cons_append, List.nil_append, List.set_cons_zero, List.set_cons_succ, List.eraseIdx_cons_zero, List.eraseIdx_cons_succ, ne_eq, and_true]; omega) | (simp [Off] <;> omega)) rfl) ?_
      refine rv rfl rfl rfl (RV.re (v' := .bool false) (gtr_r rfl rfl) (congrArg Value.bool (decide_eq_false (by omega)))) ?_
      refine rv rfl rfl rfl (pkF_r rfl rfl) ?_
      refine rv rfl rfl rfl (mv_r rfl) ?_
      refine rv rfl rfl rfl (fld_r Tryz.underlying58 rfl Tryz.sizeOf3 rfl) ?_
      refine rv rfl rfl rfl (ldR_r Tryz.isAgg3 rfl (.head _) hb1 hm1 (by first | (simp only [Off, book, List.cons_append, List.nil_append, List.set_cons_zero, List.set_cons_succ, List.eraseIdx_cons_zero, List.eraseIdx_cons_succ, ne_eq, and_true]; omega) | (simp [Off] <;> omega)) rfl) ?_
      refine rv rfl rfl rfl (idxA_r Tryz.underlying188 Tryz.sizeOf4 rfl rfl (by omega) (by omega)) ?_
      refine rv rfl rfl rfl (ldW_r (i := 0) rfl Tryz.isAgg4 rfl rfl) ?_
      refine rv rfl rfl rfl (notB_r rfl) ?_
      refine rv rfl rfl rfl (pkF_r rfl rfl) ?_
      refine OJ.done ?_
      refine PJ.next ?_
      refine CJ.condF rfl ?_
      refine CJ.skip ?_
      refine PJ.next ?_
      refine CJ.seq ?_
      refine CJ.seq ?_
      refine CJ.region ?_
      refine rv rfl rfl rfl (fld_r Tryz.underlying58 rfl Tryz.sizeOf3 rfl) ?_
      refine rv rfl rfl rfl (ldR_r Tryz.isAgg3 rfl (.head _) hb1 hm1 (by first | (simp only [Off, book, List.cons_append, List.nil_append, List.set_cons_zero, List.set_cons_succ, List.eraseIdx_cons_zero, List.eraseIdx_cons_succ, ne_eq, and_true]; omega) | (simp [Off] <;> omega)) rfl) ?_
      refine rv rfl rfl rfl (RV.re (v' := .bool true) (lss_r rfl rfl) (congrArg Value.bool (decide_eq_true (by omega)))) ?_
      refine OJ.done ?_
      refine PJ.next ?_
      refine CJ.condT rfl ?_
      refine CJ.seq ?_
      refine CJ.region ?_
      refine rv rfl rfl rfl (asg_r rfl) ?_
      refine rv rfl rfl rfl (asg_r rfl) ?_
      refine OJ.done ?_
      refine PJ.next ?_
      refine CJ.ret ?_
      refine PJ.retThen ?_
      refine retO (.inl rfl) Tryz.results85 (RS.t rfl (RS.t rfl (RS.n))) (.tail _ (.head _)) (by first | (simp only [Over, List.set_cons_zero, List.set_cons_succ, List.eraseIdx_cons_zero, List.eraseIdx_cons_succ, and_true]; omega) | (simp [Over] <;> omega)) ?_
      rfl
    · try simp only [decide_eq_true_eq, decide_eq_false_iff_not, Bool.not_eq_true', Bool.not_eq_false'] at hc3
      refine OJ.off rfl (by decide) rfl ?_
      refine OJ.off rfl (by decide) rfl ?_
      refine OJ.off rfl (by decide) rfl ?_
      refine rv rfl rfl rfl (pkF_r rfl rfl) ?_
      refine rv rfl rfl rfl (bldA_r Tryz.underlying188 Tryz.zeroValue188 Tryz.sizeOf4 rfl rfl) ?_
      refine allW Tryz.zeroValue188 rfl rfl ?_
      intro b4 ha4 ho4
      simp only [Above] at ha4
      try simp only [Off, book, List.cons_append, List.nil_append, List.set_cons_zero, List.set_cons_succ, ne_eq] at ho4
      refine stWw (i := 0) rfl Tryz.sizeOf188 rfl rfl rfl rfl rfl rfl ?_
      refine OJ.done ?_
      refine PJ.next ?_
      refine CJ.seq ?_
      refine CJ.seq ?_
      refine CJ.region ?_
      refine rv rfl rfl rfl (fld_r Tryz.underlying58 rfl Tryz.sizeOf3 rfl) ?_
      refine rv rfl rfl rfl (ldR_r Tryz.isAgg3 rfl (.head _) hb1 hm1 (by first | (simp only [Off, book, List.cons_append, List.nil_append, List.set_cons_zero, List.set_cons_succ, List.eraseIdx_cons_zero, List.eraseIdx_cons_succ, ne_eq, and_true]; omega) | (simp [Off] <;> omega)) rfl) ?_
      refine rv rfl rfl rfl (RV.re (v' := .bool false) (lss_r rfl rfl) (congrArg Value.bool (decide_eq_false (by omega)))) ?_
      refine rv rfl rfl rfl (mv_r rfl) ?_
      refine rv rfl rfl rfl (fld_r Tryz.underlying58 rfl Tryz.sizeOf3 rfl) ?_
      refine rv rfl rfl rfl (ldR_r Tryz.isAgg3 rfl (.head _) hb1 hm1 (by first | (simp only [Off, book, List.cons_append, List.nil_append, List.set_cons_zero, List.set_cons_succ, List.eraseIdx_cons_zero, List.eraseIdx_cons_succ, ne_eq, and_true]; omega) | (simp [Off] <;> omega)) rfl) ?_
      refine rv rfl rfl rfl (RV.re (v' := .bool false) (gtr_r rfl rfl) (congrArg Value.bool (decide_eq_false (by omega)))) ?_
      refine rv rfl rfl rfl (pkF_r rfl rfl) ?_
      refine rv rfl rfl rfl (mv_r rfl) ?_
      refine rv rfl rfl rfl (fld_r Tryz.underlying58 rfl Tryz.sizeOf3 rfl) ?_
      refine rv rfl rfl rfl (ldR_r Tryz.isAgg3 rfl (.head _) hb1 hm1 (by first | (simp only [Off, book, List.cons_append, List.nil_append, List.set_cons_zero, List.set_cons_succ, List.eraseIdx_cons_zero, List.eraseIdx_cons_succ, ne_eq, and_true]; omega) | (simp [Off] <;> omega)) rfl) ?_
      refine rv rfl rfl rfl (idxA_r Tryz.underlying188 Tryz.sizeOf4 rfl rfl (by omega) (by omega)) ?_
      refine rv rfl rfl rfl (ldW_r (i := 0) rfl Tryz.isAgg4 rfl rfl) ?_
      refine rv rfl rfl rfl (notB_r rfl) ?_
      refine rv rfl rfl rfl (pkF_r rfl rfl) ?_
      refine OJ.done ?_
      refine PJ.next ?_
      refine CJ.condF rfl ?_
      refine CJ.skip ?_
      refine PJ.next ?_
      refine CJ.seq ?_
      refine CJ.seq ?_
      refine CJ.region ?_
      refine rv rfl rfl rfl (fld_r Tryz.underlying58 rfl Tryz.sizeOf3 rfl) ?_
      refine rv rfl rfl rfl (ldR_r Tryz.isAgg3 rfl (.head _) hb1 hm1 (by first | (simp only [Off, book, List.cons_append, List.nil_append, List.set_cons_zero, List.set_cons_succ, List.eraseIdx_cons_zero, List.eraseIdx_cons_succ, ne_eq, and_true]; omega) | (simp [Off] <;> omega)) rfl) ?_
      refine rv rfl rfl rfl (RV.re (v' := .bool true) (lss_r rfl rfl) (congrArg Value.bool (decide_eq_true (by omega)))) ?_
      refine OJ.done ?_
      refine PJ.next ?_
      refine CJ.condT rfl ?_
      refine CJ.seq ?_
      refine CJ.region ?_
      refine rv rfl rfl rfl (asg_r rfl) ?_
      refine rv rfl rfl rfl (asg_r rfl) ?_
      refine OJ.done ?_
      refine PJ.next ?_
      refine CJ.ret ?_
      refine PJ.retThen ?_
      refine retO (.inl rfl) Tryz.results85 (RS.t rfl (RS.t rfl (RS.n))) (.tail _ (.head _)) (by first | (simp only [Over, List.set_cons_zero, List.set_cons_succ, List.eraseIdx_cons_zero, List.eraseIdx_cons_succ, and_true]; omega) | (simp [Over] <;> omega)) ?_
      rfl
/-- chartroom/codec.formed -/
theorem formed_text (x : ByteArray) (w : World) :
    Calls Tryz.prog 85 #[vT x] w (Ret w (.tuple #[.int .i64 0, .bool true])) := by
  
  refine enter (vs := [_]) Tryz.func85 rfl Tryz.ntmps85 rfl ?_
  refine CJ.seq ?_
  refine CJ.region ?_
  refine boxR rfl rfl rfl ?_
  intro b1 w1 hb1 ha1 ho1 hm1 hz1
  simp only [Above] at ha1
  try simp only [Off, book, List.cons_append, List.nil_append, List.set_cons_zero, List.set_cons_succ, ne_eq] at ho1
  refine rv rfl rfl rfl (asg_r rfl) ?_
  refine rv rfl rfl rfl (asg_r rfl) ?_
  refine OJ.done ?_
  refine PJ.next ?_
  refine CJ.seq ?_
  refine CJ.region ?_
  refine rv rfl rfl rfl (fld_r Tryz.underlying58 rfl Tryz.sizeOf9 rfl) ?_
  refine rv rfl rfl rfl (ldR_r Tryz.isAgg9 rfl (.head _) hb1 hm1 trivial rfl) ?_
  refine rv rfl rfl rfl (eqlS_r rfl rfl) ?_
  refine rv rfl rfl rfl (mv_r rfl) ?_
  refine OJ.split (t := 12) rfl (fun hc1 => ?_) (fun hc1 => ?_)
  · try simp only [decide_eq_true_eq, decide_eq_false_iff_not, Bool.not_eq_true', Bool.not_eq_false'] at hc1
    refine rv rfl rfl rfl (fld_r Tryz.underlying58 rfl Tryz.sizeOf56 rfl) ?_
    refine rv rfl rfl rfl (ldR_r Tryz.isAgg56 rfl (.head _) hb1 hm1 trivial rfl) ?_
    refine rv rfl rfl rfl (lenS_r Tryz.underlying56 rfl) ?_
    refine rv rfl rfl rfl (RV.re (v' := .bool true) (eqlI_r rfl rfl) (congrArg Value.bool (decide_eq_true (by omega)))) ?_
    refine rv rfl rfl rfl (pkT_r rfl rfl) ?_
    refine rv rfl rfl rfl (fld_r Tryz.underlying58 rfl Tryz.sizeOf3 rfl) ?_
    refine rv rfl rfl rfl (ldR_r Tryz.isAgg3 rfl (.head _) hb1 hm1 trivial rfl) ?_
    refine rv rfl rfl rfl (RV.re (v' := .bool true) (eqlI_r rfl rfl) (congrArg Value.bool (decide_eq_true (by omega)))) ?_
    refine rv rfl rfl rfl (mv_r rfl) ?_
    refine rv rfl rfl rfl (fld_r Tryz.underlying58 rfl Tryz.sizeOf56 rfl) ?_
    refine rv rfl rfl rfl (ldR_r Tryz.isAgg56 rfl (.head _) hb1 hm1 trivial rfl) ?_
    refine rv rfl rfl rfl (lenS_r Tryz.underlying56 rfl) ?_
    refine rv rfl rfl rfl (RV.re (v' := .bool true) (eqlI_r rfl rfl) (congrArg Value.bool (decide_eq_true (by omega)))) ?_
    refine rv rfl rfl rfl (pkT_r rfl rfl) ?_
    refine rv rfl rfl rfl (fld_r Tryz.underlying58 rfl Tryz.sizeOf3 rfl) ?_
    refine rv rfl rfl rfl (ldR_r Tryz.isAgg3 rfl (.head _) hb1 hm1 trivial rfl) ?_
    refine rv rfl rfl rfl (RV.re (v' := .bool true) (eqlI_r rfl rfl) (congrArg Value.bool (decide_eq_true (by omega)))) ?_
    refine rv rfl rfl rfl (mv_r rfl) ?_
    refine rv rfl rfl rfl (fld_r Tryz.underlying58 rfl Tryz.sizeOf9 rfl) ?_
    refine rv rfl rfl rfl (ldR_r Tryz.isAgg9 rfl (.head _) hb1 hm1 trivial rfl) ?_
    refine rv rfl rfl rfl (eqlS_r rfl rfl) ?_
    refine rv rfl rfl rfl (pkT_r rfl rfl) ?_
    refine rv rfl rfl rfl (bldA_r Tryz.underlying188 Tryz.zeroValue188 Tryz.sizeOf4 rfl rfl) ?_
    refine allW Tryz.zeroValue188 rfl rfl ?_
    intro b4 ha4 ho4
    simp only [Above] at ha4
    try simp only [Off, book, List.cons_append, List.nil_append, List.set_cons_zero, List.set_cons_succ, ne_eq] at ho4
    refine stWw (i := 0) rfl Tryz.sizeOf188 rfl rfl rfl rfl rfl rfl ?_
    refine OJ.done ?_
    refine PJ.next ?_
    refine CJ.seq ?_
    refine CJ.seq ?_
    refine CJ.region ?_
    refine rv rfl rfl rfl (fld_r Tryz.underlying58 rfl Tryz.sizeOf3 rfl) ?_
    refine rv rfl rfl rfl (ldR_r Tryz.isAgg3 rfl (.head _) hb1 hm1 (by first | (simp only [Off, book, List.cons_append, List.nil_append, List.set_cons_zero, List.set_cons_succ, List.eraseIdx_cons_zero, List.eraseIdx_cons_succ, ne_eq, and_true]; omega) | (simp [Off] <;> omega)) rfl) ?_
    refine rv rfl rfl rfl (RV.re (v' := .bool false) (lss_r rfl rfl) (congrArg Value.bool (decide_eq_false (by omega)))) ?_
    refine rv rfl rfl rfl (mv_r rfl) ?_
    refine rv rfl rfl rfl (fld_r Tryz.underlying58 rfl Tryz.sizeOf3 rfl) ?_
    refine rv rfl rfl rfl (ldR_r Tryz.isAgg3 rfl (.head _) hb1 hm1 (by first | (simp only [Off, book, List.cons_append, List.nil_append, List.set_cons_zero, List.set_cons_succ, List.eraseIdx_cons_zero, List.eraseIdx_cons_succ, ne_eq, and_true]; omega) | (simp [Off] <;> omega)) rfl) ?_
    refine rv rfl rfl rfl (RV.re (v' := .bool false) (gtr_r rfl rfl) (congrArg Value.bool (decide_eq_false (by omega)))) ?_
    refine rv rfl rfl rfl (pkF_r rfl rfl) ?_
    refine rv rfl rfl rfl (mv_r rfl) ?_
    refine rv rfl rfl rfl (fld_r Tryz.underlying58 rfl Tryz.sizeOf3 rfl) ?_
    refine rv rfl rfl rfl (ldR_r Tryz.isAgg3 rfl (.head _) hb1 hm1 (by first | (simp only [Off, book, List.cons_append, List.nil_append, List.set_cons_zero, List.set_cons_succ, List.eraseIdx_cons_zero, List.eraseIdx_cons_succ, ne_eq, and_true]; omega) | (simp [Off] <;> omega)) rfl) ?_
    refine rv rfl rfl rfl (idxA_r Tryz.underlying188 Tryz.sizeOf4 rfl rfl (by omega) (by omega)) ?_
    refine rv rfl rfl rfl (ldW_r (i := 0) rfl Tryz.isAgg4 rfl rfl) ?_
    refine rv rfl rfl rfl (notB_r rfl) ?_
    refine rv rfl rfl rfl (pkF_r rfl rfl) ?_
    refine OJ.done ?_
    refine PJ.next ?_
    refine CJ.condF rfl ?_
    refine CJ.skip ?_
    refine PJ.next ?_
    refine CJ.seq ?_
    refine CJ.seq ?_
    refine CJ.region ?_
    refine rv rfl rfl rfl (fld_r Tryz.underlying58 rfl Tryz.sizeOf3 rfl) ?_
    refine rv rfl rfl rfl (ldR_r Tryz.isAgg3 rfl (.head _) hb1 hm1 (by first | (simp only [Off, book, List.cons_append, List.nil_append, List.set_cons_zero, List.set_cons_succ, List.eraseIdx_cons_zero, List.eraseIdx_cons_succ, ne_eq, and_true]; omega) | (simp [Off] <;> omega)) rfl) ?_
    refine rv rfl rfl rfl (RV.re (v' := .bool true) (lss_r rfl rfl) (congrArg Value.bool (decide_eq_true (by omega)))) ?_
    refine OJ.done ?_
    refine PJ.next ?_
    refine CJ.condT rfl ?_
    refine CJ.seq ?_
    refine CJ.region ?_
    refine rv rfl rfl rfl (asg_r rfl) ?_
    refine rv rfl rfl rfl (asg_r rfl) ?_
    refine OJ.done ?_
    refine PJ.next ?_
    refine CJ.ret ?_
    refine PJ.retThen ?_
    refine retO (.inl rfl) Tryz.results85 (RS.t rfl (RS.t rfl (RS.n))) (.tail _ (.head _)) (by first | (simp only [Over, List.set_cons_zero, List.set_cons_succ, List.eraseIdx_cons_zero, List.eraseIdx_cons_succ, and_true]; omega) | (simp [Over] <;> omega)) ?_
    rfl
  · try simp only [decide_eq_true_eq, decide_eq_false_iff_not, Bool.not_eq_true', Bool.not_eq_false'] at hc1
    refine OJ.off rfl (by decide) rfl ?_
    refine OJ.off rfl (by decide) rfl ?_
    refine OJ.off rfl (by decide) rfl ?_
    refine OJ.off rfl (by decide) rfl ?_
    refine rv rfl rfl rfl (pkF_r rfl rfl) ?_
    refine rv rfl rfl rfl (fld_r Tryz.underlying58 rfl Tryz.sizeOf3 rfl) ?_
    refine rv rfl rfl rfl (ldR_r Tryz.isAgg3 rfl (.head _) hb1 hm1 trivial rfl) ?_
    refine rv rfl rfl rfl (RV.re (v' := .bool true) (eqlI_r rfl rfl) (congrArg Value.bool (decide_eq_true (by omega)))) ?_
    refine rv rfl rfl rfl (mv_r rfl) ?_
    refine rv rfl rfl rfl (fld_r Tryz.underlying58 rfl Tryz.sizeOf56 rfl) ?_
    refine rv rfl rfl rfl (ldR_r Tryz.isAgg56 rfl (.head _) hb1 hm1 trivial rfl) ?_
    refine rv rfl rfl rfl (lenS_r Tryz.underlying56 rfl) ?_
    refine rv rfl rfl rfl (RV.re (v' := .bool true) (eqlI_r rfl rfl) (congrArg Value.bool (decide_eq_true (by omega)))) ?_
    refine rv rfl rfl rfl (pkT_r rfl rfl) ?_
    refine rv rfl rfl rfl (fld_r Tryz.underlying58 rfl Tryz.sizeOf3 rfl) ?_
    refine rv rfl rfl rfl (ldR_r Tryz.isAgg3 rfl (.head _) hb1 hm1 trivial rfl) ?_
    refine rv rfl rfl rfl (RV.re (v' := .bool true) (eqlI_r rfl rfl) (congrArg Value.bool (decide_eq_true (by omega)))) ?_
    refine rv rfl rfl rfl (mv_r rfl) ?_
    refine rv rfl rfl rfl (fld_r Tryz.underlying58 rfl Tryz.sizeOf9 rfl) ?_
    refine rv rfl rfl rfl (ldR_r Tryz.isAgg9 rfl (.head _) hb1 hm1 trivial rfl) ?_
    refine rv rfl rfl rfl (eqlS_r rfl rfl) ?_
    refine rv rfl rfl rfl (pkT_r rfl rfl) ?_
    refine rv rfl rfl rfl (bldA_r Tryz.underlying188 Tryz.zeroValue188 Tryz.sizeOf4 rfl rfl) ?_
    refine allW Tryz.zeroValue188 rfl rfl ?_
    intro b4 ha4 ho4
    simp only [Above] at ha4
    try simp only [Off, book, List.cons_append, List.nil_append, List.set_cons_zero, List.set_cons_succ, ne_eq] at ho4
    refine stWw (i := 0) rfl Tryz.sizeOf188 rfl rfl rfl rfl rfl rfl ?_
    refine OJ.done ?_
    refine PJ.next ?_
    refine CJ.seq ?_
    refine CJ.seq ?_
    refine CJ.region ?_
    refine rv rfl rfl rfl (fld_r Tryz.underlying58 rfl Tryz.sizeOf3 rfl) ?_
    refine rv rfl rfl rfl (ldR_r Tryz.isAgg3 rfl (.head _) hb1 hm1 (by first | (simp only [Off, book, List.cons_append, List.nil_append, List.set_cons_zero, List.set_cons_succ, List.eraseIdx_cons_zero, List.eraseIdx_cons_succ, ne_eq, and_true]; omega) | (simp [Off] <;> omega)) rfl) ?_
    refine rv rfl rfl rfl (RV.re (v' := .bool false) (lss_r rfl rfl) (congrArg Value.bool (decide_eq_false (by omega)))) ?_
    refine rv rfl rfl rfl (mv_r rfl) ?_
    refine rv rfl rfl rfl (fld_r Tryz.underlying58 rfl Tryz.sizeOf3 rfl) ?_
    refine rv rfl rfl rfl (ldR_r Tryz.isAgg3 rfl (.head _) hb1 hm1 (by first | (simp only [Off, book, List.cons_append, List.nil_append, List.set_cons_zero, List.set_cons_succ, List.eraseIdx_cons_zero, List.eraseIdx_cons_succ, ne_eq, and_true]; omega) | (simp [Off] <;> omega)) rfl) ?_
    refine rv rfl rfl rfl (RV.re (v' := .bool false) (gtr_r rfl rfl) (congrArg Value.bool (decide_eq_false (by omega)))) ?_
    refine rv rfl rfl rfl (pkF_r rfl rfl) ?_
    refine rv rfl rfl rfl (mv_r rfl) ?_
    refine rv rfl rfl rfl (fld_r Tryz.underlying58 rfl Tryz.sizeOf3 rfl) ?_
    refine rv rfl rfl rfl (ldR_r Tryz.isAgg3 rfl (.head _) hb1 hm1 (by first | (simp only [Off, book, List.cons_append, List.nil_append, List.set_cons_zero, List.set_cons_succ, List.eraseIdx_cons_zero, List.eraseIdx_cons_succ, ne_eq, and_true]; omega) | (simp [Off] <;> omega)) rfl) ?_
    refine rv rfl rfl rfl (idxA_r Tryz.underlying188 Tryz.sizeOf4 rfl rfl (by omega) (by omega)) ?_
    refine rv rfl rfl rfl (ldW_r (i := 0) rfl Tryz.isAgg4 rfl rfl) ?_
    refine rv rfl rfl rfl (notB_r rfl) ?_
    refine rv rfl rfl rfl (pkF_r rfl rfl) ?_
    refine OJ.done ?_
    refine PJ.next ?_
    refine CJ.condF rfl ?_
    refine CJ.skip ?_
    refine PJ.next ?_
    refine CJ.seq ?_
    refine CJ.seq ?_
    refine CJ.region ?_
    refine rv rfl rfl rfl (fld_r Tryz.underlying58 rfl Tryz.sizeOf3 rfl) ?_
    refine rv rfl rfl rfl (ldR_r Tryz.isAgg3 rfl (.head _) hb1 hm1 (by first | (simp only [Off, book, List.cons_append, List.nil_append, List.set_cons_zero, List.set_cons_succ, List.eraseIdx_cons_zero, List.eraseIdx_cons_succ, ne_eq, and_true]; omega) | (simp [Off] <;> omega)) rfl) ?_
    refine rv rfl rfl rfl (RV.re (v' := .bool true) (lss_r rfl rfl) (congrArg Value.bool (decide_eq_true (by omega)))) ?_
    refine OJ.done ?_
    refine PJ.next ?_
    refine CJ.condT rfl ?_
    refine CJ.seq ?_
    refine CJ.region ?_
    refine rv rfl rfl rfl (asg_r rfl) ?_
    refine rv rfl rfl rfl (asg_r rfl) ?_
    refine OJ.done ?_
    refine PJ.next ?_
    refine CJ.ret ?_
    refine PJ.retThen ?_
    refine retO (.inl rfl) Tryz.results85 (RS.t rfl (RS.t rfl (RS.n))) (.tail _ (.head _)) (by first | (simp only [Over, List.set_cons_zero, List.set_cons_succ, List.eraseIdx_cons_zero, List.eraseIdx_cons_succ, and_true]; omega) | (simp [Over] <;> omega)) ?_
    rfl
/-- chartroom/codec.formed -/
theorem formed_list (l : List V) (ih : ∀ y ∈ l, FormedOk y) (hfin : (V.list l).fine) (N : Nat) (base : Option Addr) (cap : Nat) (w : World) (hN : N ≤ w.heap.size) (hel : ElAt N w base l) :
    Calls Tryz.prog 85 #[vL base l.length cap] w (Ret w (.tuple #[.int .i64 ((V.depthL l + 1 : Nat) : Int), .bool true])) := by
  simp only [V.fine] at hfin
  obtain ⟨hf1, hf2, hf3⟩ := hfin
  refine enter (vs := [_]) Tryz.func85 rfl Tryz.ntmps85 rfl ?_
  refine CJ.seq ?_
  refine CJ.region ?_
  refine boxR rfl rfl rfl ?_
  intro b1 w1 hb1 ha1 ho1 hm1 hz1
  simp only [Above] at ha1
  try simp only [Off, book, List.cons_append, List.nil_append, List.set_cons_zero, List.set_cons_succ, ne_eq] at ho1
  refine rv rfl rfl rfl (asg_r rfl) ?_
  refine rv rfl rfl rfl (asg_r rfl) ?_
  refine OJ.done ?_
  refine PJ.next ?_
  refine CJ.seq ?_
  refine CJ.region ?_
  refine rv rfl rfl rfl (fld_r Tryz.underlying58 rfl Tryz.sizeOf9 rfl) ?_
  refine rv rfl rfl rfl (ldR_r Tryz.isAgg9 rfl (.head _) hb1 hm1 trivial rfl) ?_
  refine rv rfl rfl rfl (eqlE_r rfl rfl) ?_
  refine rv rfl rfl rfl (mv_r rfl) ?_
  refine rv rfl rfl rfl (fld_r Tryz.underlying58 rfl Tryz.sizeOf56 rfl) ?_
  refine rv rfl rfl rfl (ldR_r Tryz.isAgg56 rfl (.head _) hb1 hm1 trivial rfl) ?_
  refine rv rfl rfl rfl (lenS_r Tryz.underlying56 rfl) ?_
  refine rv rfl rfl rfl (eqlI_r rfl rfl) ?_
  refine rv rfl rfl rfl (pkT_r rfl rfl) ?_
  refine rv rfl rfl rfl (fld_r Tryz.underlying58 rfl Tryz.sizeOf3 rfl) ?_
  refine rv rfl rfl rfl (ldR_r Tryz.isAgg3 rfl (.head _) hb1 hm1 trivial rfl) ?_
  refine rv rfl rfl rfl (RV.re (v' := .bool true) (eqlI_r rfl rfl) (congrArg Value.bool (decide_eq_true (by omega)))) ?_
  refine rv rfl rfl rfl (mv_r rfl) ?_
  refine rv rfl rfl rfl (fld_r Tryz.underlying58 rfl Tryz.sizeOf56 rfl) ?_
  refine rv rfl rfl rfl (ldR_r Tryz.isAgg56 rfl (.head _) hb1 hm1 trivial rfl) ?_
  refine rv rfl rfl rfl (lenS_r Tryz.underlying56 rfl) ?_
  refine rv rfl rfl rfl (eqlI_r rfl rfl) ?_
  refine rv rfl rfl rfl (pkT_r rfl rfl) ?_
  refine rv rfl rfl rfl (fld_r Tryz.underlying58 rfl Tryz.sizeOf3 rfl) ?_
  refine rv rfl rfl rfl (ldR_r Tryz.isAgg3 rfl (.head _) hb1 hm1 trivial rfl) ?_
  refine rv rfl rfl rfl (RV.re (v' := .bool true) (eqlI_r rfl rfl) (congrArg Value.bool (decide_eq_true (by omega)))) ?_
  refine rv rfl rfl rfl (mv_r rfl) ?_
  refine rv rfl rfl rfl (fld_r Tryz.underlying58 rfl Tryz.sizeOf9 rfl) ?_
  refine rv rfl rfl rfl (ldR_r Tryz.isAgg9 rfl (.head _) hb1 hm1 trivial rfl) ?_
  refine rv rfl rfl rfl (eqlE_r rfl rfl) ?_
  refine rv rfl rfl rfl (pkT_r rfl rfl) ?_
  refine rv rfl rfl rfl (bldA_r Tryz.underlying188 Tryz.zeroValue188 Tryz.sizeOf4 rfl rfl) ?_
  refine allW Tryz.zeroValue188 rfl rfl ?_
  intro b4 ha4 ho4
  simp only [Above] at ha4
  try simp only [Off, book, List.cons_append, List.nil_append, List.set_cons_zero, List.set_cons_succ, ne_eq] at ho4
  refine stWw (i := 0) rfl Tryz.sizeOf188 rfl rfl rfl rfl rfl rfl ?_
  refine OJ.done ?_
  refine PJ.next ?_
  refine CJ.seq ?_
  refine CJ.seq ?_
  refine CJ.region ?_
  refine rv rfl rfl rfl (fld_r Tryz.underlying58 rfl Tryz.sizeOf3 rfl) ?_
  refine rv rfl rfl rfl (ldR_r Tryz.isAgg3 rfl (.head _) hb1 hm1 (by first | (simp only [Off, book, List.cons_append, List.nil_append, List.set_cons_zero, List.set_cons_succ, List.eraseIdx_cons_zero, List.eraseIdx_cons_succ, ne_eq, and_true]; omega) | (simp [Off] <;> omega)) rfl) ?_
  refine rv rfl rfl rfl (RV.re (v' := .bool false) (lss_r rfl rfl) (congrArg Value.bool (decide_eq_false (by omega)))) ?_
  refine rv rfl rfl rfl (mv_r rfl) ?_
  refine rv rfl rfl rfl (fld_r Tryz.underlying58 rfl Tryz.sizeOf3 rfl) ?_
  refine rv rfl rfl rfl (ldR_r Tryz.isAgg3 rfl (.head _) hb1 hm1 (by first | (simp only [Off, book, List.cons_append, List.nil_append, List.set_cons_zero, List.set_cons_succ, List.eraseIdx_cons_zero, List.eraseIdx_cons_succ, ne_eq, and_true]; omega) | (simp [Off] <;> omega)) rfl) ?_
  refine rv rfl rfl rfl (RV.re (v' := .bool false) (gtr_r rfl rfl) (congrArg Value.bool (decide_eq_false (by omega)))) ?_
  refine rv rfl rfl rfl (pkF_r rfl rfl) ?_
  refine rv rfl rfl rfl (mv_r rfl) ?_
  refine rv rfl rfl rfl (fld_r Tryz.underlying58 rfl Tryz.sizeOf3 rfl) ?_
  refine rv rfl rfl rfl (ldR_r Tryz.isAgg3 rfl (.head _) hb1 hm1 (by first | (simp only [Off, book, List.cons_append, List.nil_append, List.set_cons_zero, List.set_cons_succ, List.eraseIdx_cons_zero, List.eraseIdx_cons_succ, ne_eq, and_true]; omega) | (simp [Off] <;> omega)) rfl) ?_
  refine rv rfl rfl rfl (idxA_r Tryz.underlying188 Tryz.sizeOf4 rfl rfl (by omega) (by omega)) ?_
  refine rv rfl rfl rfl (ldW_r (i := 0) rfl Tryz.isAgg4 rfl rfl) ?_
  refine rv rfl rfl rfl (notB_r rfl) ?_
  refine rv rfl rfl rfl (pkF_r rfl rfl) ?_
  refine OJ.done ?_
  refine PJ.next ?_
  refine CJ.condF rfl ?_
  refine CJ.skip ?_
  refine PJ.next ?_
  refine CJ.seq ?_
  refine CJ.seq ?_
  refine CJ.region ?_
  refine rv rfl rfl rfl (fld_r Tryz.underlying58 rfl Tryz.sizeOf3 rfl) ?_
  refine rv rfl rfl rfl (ldR_r Tryz.isAgg3 rfl (.head _) hb1 hm1 (by first | (simp only [Off, book, List.cons_append, List.nil_append, List.set_cons_zero, List.set_cons_succ, List.eraseIdx_cons_zero, List.eraseIdx_cons_succ, ne_eq, and_true]; omega) | (simp [Off] <;> omega)) rfl) ?_
  refine rv rfl rfl rfl (RV.re (v' := .bool false) (lss_r rfl rfl) (congrArg Value.bool (decide_eq_false (by omega)))) ?_
  refine OJ.done ?_
  refine PJ.next ?_
  refine CJ.condF rfl ?_
  refine CJ.skip ?_
  refine PJ.next ?_
  refine CJ.seq ?_
  refine CJ.seq ?_
  refine CJ.region ?_
  refine rv rfl rfl rfl (fld_r Tryz.underlying58 rfl Tryz.sizeOf56 rfl) ?_
  refine rv rfl rfl rfl (ldR_r Tryz.isAgg56 rfl (.head _) hb1 hm1 (by first | (simp only [Off, book, List.cons_append, List.nil_append, List.set_cons_zero, List.set_cons_succ, List.eraseIdx_cons_zero, List.eraseIdx_cons_succ, ne_eq, and_true]; omega) | (simp [Off] <;> omega)) rfl) ?_
  refine rv rfl rfl rfl (lenS_r Tryz.underlying56 rfl) ?_
  refine rv rfl rfl rfl (mv_r rfl) ?_
  refine OJ.done ?_
  refine PJ.next ?_
  refine CJ.block ?_
  refine CJ.dropAt (i := 0) rfl ⟨by omega, by omega, trivial⟩ ?_
  refine CJ.loop (α := Nat) (fun i => [(1, ptr b1 0), (2, .int .i64 ((V.depthL (l.take i) : Nat) : Int)), (55, .slice base l.length cap), (56, .int .i64 (l.length : Int)), (57, .int .i64 (i : Int))]) (fun i => []) (fun i => [w1, w]) (fun i => Gh.no) (fun i => i ≤ l.length ∧ V.depthL (l.take i) ≤ 1000000000) (fun i => l.length - i) 0 ⟨Nat.zero_le _, by simp [V.depthL]⟩ ⟨rfl, rfl, rfl, rfl, rfl, trivial⟩ rfl rfl (by simp) ?_
  rintro i ⟨hi, hdi⟩
  refine CJ.seq ?_
  refine CJ.region ?_
  refine rv rfl rfl rfl (lss_r rfl rfl) ?_
  refine OJ.done ?_
  refine PJ.next ?_
  refine CJ.seq ?_
  refine CJ.cond rfl (fun hc1 => ?_) (fun hc1 => ?_)
  · try simp only [decide_eq_true_eq, decide_eq_false_iff_not, Bool.not_eq_true', Bool.not_eq_false'] at hc1
    refine CJ.skip ?_
    refine PJ.next ?_
    refine CJ.seq ?_
    refine CJ.block ?_
    refine CJ.seq ?_
    obtain ⟨bl, cs, te, fre, rfl, hbl, hcs, hcz, a1, a2, p3, n3, c3, hcut, hva⟩ := hel i (by omega)
    have hbl2 := (Array.getElem?_eq_some_iff.1 hcs).1
    obtain ⟨y, hy⟩ : ∃ y, l[i]'(by omega) = y := ⟨_, rfl⟩
    rw [hy] at hcut hva
    have hym : y ∈ l := hy ▸ List.getElem_mem _
    refine CJ.region ?_
    refine rv rfl rfl rfl (idxS_r Tryz.underlying56 Tryz.sizeOf58 rfl rfl (by omega) (by omega)) ?_
    refine rv rfl rfl rfl (RV.re (v' := .agg #[.int .i64 y.kind, .int .i64 a1, .string a2, .slice p3 n3 c3]) (ldRA_r Tryz.isAgg58 Tryz.sizeOf58 rfl (.tail _ (.head _)) hcs (fun h => h) trivial (by omega)) (congrArg Value.agg (by rw [← hcut]; congr 1; omega))) ?_
    refine allW Tryz.zeroValue58 rfl rfl ?_
    intro b6 ha6 ho6
    simp only [Above] at ha6
    try simp only [Off, book, List.cons_append, List.nil_append, List.set_cons_zero, List.set_cons_succ, ne_eq] at ho6
    refine stWw (i := 0) rfl Tryz.sizeOf58 rfl rfl rfl rfl rfl rfl ?_
    refine OJ.done ?_
    refine PJ.next ?_
    refine CJ.seq ?_
    refine CJ.region ?_
    refine rv rfl rfl rfl (ldWAw_r (i := 0) rfl Tryz.isAgg58 Tryz.sizeOf58 rfl rfl) ?_
    refine call Tryz.call85 rfl rfl rfl (fun W hS => ih y hym N W _ (Nat.le_trans hN (hS.links _ (.tail _ (.head _))).size) (VAt.up (Nat.le_refl _) (hS.same (.tail _ (.head _)) hN (fun _ _ h => h) (by first | exact True.intro | (simp only [Over, List.set_cons_zero, List.set_cons_succ, and_true]; omega))) _ _ hva) (V.fineL_mem hf3 y hym)) ?_
    refine rv rfl rfl rfl (mv_r rfl) ?_
    refine rv rfl rfl rfl (ext_r rfl rfl) ?_
    refine rv rfl rfl rfl (ext_r rfl rfl) ?_
    refine rv rfl rfl rfl (asg_r rfl) ?_
    refine rv rfl rfl rfl (asg_r rfl) ?_
    refine OJ.done ?_
    refine PJ.next ?_
    refine CJ.seq ?_
    refine CJ.seq ?_
    refine CJ.region ?_
    refine rv rfl rfl rfl (mv_r rfl) ?_
    refine rv rfl rfl rfl (notB_r rfl) ?_
    refine OJ.done ?_
    refine PJ.next ?_
    refine CJ.condF rfl ?_
    refine CJ.skip ?_
    refine PJ.next ?_
    refine CJ.region ?_
    refine rv rfl rfl rfl (mv_r rfl) ?_
    refine rv rfl rfl rfl (mv_r rfl) ?_
    refine rv rfl rfl rfl (maxI_r rfl rfl) ?_
    refine rv rfl rfl rfl (asg_r rfl) ?_
    refine OJ.done ?_
    refine PJ.norBlock ?_
    refine PJ.next ?_
    refine CJ.region ?_
    refine rv rfl rfl rfl (addI_r rfl rfl (by omega) (by omega)) ?_
    refine rv rfl rfl rfl (mv_r rfl) ?_
    refine OJ.done ?_
    refine PJ.dropAt (i := 0) rfl ⟨by omega, by omega, trivial⟩ ?_
    refine PJ.again (i + 1) ⟨by omega, by have h1 := V.depthL_take l i (by omega); rw [hy] at h1; have h2 := V.depthL_mem y hym; omega⟩ (by omega) ⟨rfl, congrArg some (congrArg (Value.int .i64) (by rw [V.depthL_take l i (by omega), hy]; omega)), rfl, rfl, rfl, trivial⟩ rfl rfl (by simp)
  · try simp only [decide_eq_true_eq, decide_eq_false_iff_not, Bool.not_eq_true', Bool.not_eq_false'] at hc1
    refine CJ.exit ?_
    refine PJ.exThen ?_
    refine PJ.exThen ?_
    refine PJ.exHit ?_
    refine PJ.next ?_
    refine CJ.seq ?_
    refine CJ.region ?_
    refine rv rfl rfl rfl (mv_r rfl) ?_
    refine rv rfl rfl rfl (addI_r rfl rfl (by omega) (by omega)) ?_
    refine rv rfl rfl rfl (asg_r rfl) ?_
    refine rv rfl rfl rfl (asg_r rfl) ?_
    refine OJ.done ?_
    refine PJ.next ?_
    refine CJ.ret ?_
    refine retV2 Tryz.results85 rfl rfl (.tail _ (.head _)) ?_ ?_
    · have e : i = l.length := by omega
      subst e
      rw [List.take_of_length_le (Nat.le_refl _)]
      rfl
    · rfl
theorem formed_ok : ∀ x, FormedOk x := by
  refine V.ind ?_ ?_ ?_
  · intro n N w v _ hv _
    simp only [VAt] at hv; subst hv
    exact formed_int n w
  · intro s N w v _ hv _
    simp only [VAt] at hv; subst hv
    exact formed_text s w
  · intro l ih N w v hN hv hf
    obtain ⟨base, cap, rfl, hc, hel⟩ := hv.list
    exact formed_list l ih hf N base cap w hN hel
end Px
namespace Px
open Go Go.RowKit Go.Proofs
/-- chartroom/codec.Check -/
theorem codec_Check (x : V) (n1 : Int) (s2 : ByteArray) (p3 : Option Addr) (n3 c3 : Nat) (hfin : x.fine) (hd : x.depth ≤ 16) (N : Nat) (w : World) (hN : N ≤ w.heap.size) (hva : VAt N w x (.agg #[.int .i64 x.kind, .int .i64 n1, .string s2, .slice p3 n3 c3])) :
    Calls Tryz.prog 40 #[.agg #[.int .i64 x.kind, .int .i64 n1, .string s2, .slice p3 n3 c3]] w (Ret w (.int .i64 0)) := by
  
  refine enter (vs := [_]) Tryz.func40 rfl Tryz.ntmps40 rfl ?_
  refine CJ.seq ?_
  refine CJ.region ?_
  refine boxR rfl rfl rfl ?_
  intro b1 w1 hb1 ha1 ho1 hm1 hz1
  simp only [Above] at ha1
  try simp only [Off, book, List.cons_append, List.nil_append, List.set_cons_zero, List.set_cons_succ, ne_eq] at ho1
  refine rv rfl rfl rfl (asg_r rfl) ?_
  refine OJ.done ?_
  refine PJ.next ?_
  refine CJ.seq ?_
  refine CJ.region ?_
  refine rv rfl rfl rfl (ldRAw_r Tryz.isAgg58 Tryz.sizeOf58 rfl (.head _) hb1 hm1 trivial rfl) ?_
  refine call Tryz.call85 rfl rfl rfl (fun W hS => formed_ok x N W _ (Nat.le_trans hN (hS.links _ (.tail _ (.head _))).size) (VAt.up (Nat.le_refl _) (hS.same (.tail _ (.head _)) hN (fun _ _ h => h) (by first | exact True.intro | (simp only [Over, List.set_cons_zero, List.set_cons_succ, and_true]; omega))) _ _ hva) hfin) ?_
  refine rv rfl rfl rfl (mv_r rfl) ?_
  refine rv rfl rfl rfl (ext_r rfl rfl) ?_
  refine rv rfl rfl rfl (ext_r rfl rfl) ?_
  refine rv rfl rfl rfl (asg_r rfl) ?_
  refine rv rfl rfl rfl (asg_r rfl) ?_
  refine OJ.done ?_
  refine PJ.next ?_
  refine CJ.seq ?_
  refine CJ.block ?_
  refine CJ.seq ?_
  refine CJ.region ?_
  refine rv rfl rfl rfl (mv_r rfl) ?_
  refine rv rfl rfl rfl (notB_r rfl) ?_
  refine rv rfl rfl rfl (asg_r rfl) ?_
  refine OJ.done ?_
  refine PJ.next ?_
  refine CJ.condF rfl ?_
  refine CJ.seq ?_
  refine CJ.region ?_
  refine rv rfl rfl rfl (mv_r rfl) ?_
  refine rv rfl rfl rfl (RV.re (v' := .bool false) (gtr_r rfl rfl) (congrArg Value.bool (decide_eq_false (by omega)))) ?_
  refine rv rfl rfl rfl (asg_r rfl) ?_
  refine OJ.done ?_
  refine PJ.next ?_
  refine CJ.condF rfl ?_
  refine CJ.skip ?_
  refine PJ.norBlock ?_
  refine PJ.next ?_
  refine CJ.seq ?_
  refine CJ.region ?_
  refine rv rfl rfl rfl (asg_r rfl) ?_
  refine OJ.done ?_
  refine PJ.next ?_
  refine CJ.ret ?_
  refine retV Tryz.results40 rfl (.tail _ (.head _)) ?_
  rfl
/-- the function that writes values of a kind -/
def V.fn : V → Nat
  | .int _ => 86
  | .text _ => 89
  | .list _ => 90
def V.cap (bv : Nat) : V → List Value
  | .list _ => [ptr bv 0]
  | _ => []
def wrC (bv : Nat) : Array Value := #[.nilFunc, .func (.func 86) #[] #[], .func (.func 89) #[] #[], .func (.func 90) #[] #[ptr bv 0]]
theorem wrC_at (bv : Nat) (x : V) (k : Nat) (hk : (k : Int) = x.kind) : (wrC bv)[k]? = some (.func (.func x.fn) #[] (x.cap bv).toArray) := by
  cases x <;> simp only [V.kind] at hk
  · have : k = 1 := by omega
    subst this; rfl
  · have : k = 2 := by omega
    subst this; rfl
  · have : k = 3 := by omega
    subst this; rfl
theorem V.kind_bd (x : V) : 1 ≤ x.kind ∧ x.kind ≤ 3 := by cases x <;> simp [V.kind]
/-- the writer lies in memory -/
structure Wr (N : Nat) (w : World) (bv bw : Nat) : Prop where
  ltv : bv < N
  ltw : bw < N
  atv : w.heap[bv]? = some (.cells #[ptr bw 0] 96 (0, 0))
  atw : w.heap[bw]? = some (.cells (wrC bv) 146 (0, 0))
theorem Wr.up {N N' : Nat} {w w' : World} {bv bw : Nat} (h : Wr N w bv bw) (hN : N ≤ N') (hw : ∀ k, k < N → w'.heap[k]? = w.heap[k]?) : Wr N' w' bv bw :=
  ⟨by have := h.ltv; omega, by have := h.ltw; omega, (hw _ h.ltv).trans h.atv, (hw _ h.ltw).trans h.atw⟩
/-- chartroom/codec.newWriter -/
theorem codec_newWriter (w : World) :
    Calls Tryz.prog 41 #[] w (RetX w (fun p : Nat × Nat => ptr p.1 0) (fun p w1 => w.heap.size ≤ p.1 ∧ w.heap.size ≤ p.2 ∧ w1.heap[p.2]? = some (.cells #[ptr p.1 0] 96 (0, 0)) ∧ w1.heap[p.1]? = some (.cells (wrC p.2) 146 (0, 0)))) := by
  
  refine enter (vs := []) Tryz.func41 rfl Tryz.ntmps41 rfl ?_
  refine CJ.seq ?_
  refine CJ.region ?_
  refine rv rfl rfl rfl (asg_r rfl) ?_
  refine OJ.done ?_
  refine PJ.next ?_
  refine CJ.seq ?_
  refine CJ.region ?_
  refine rv rfl rfl rfl (bldA_r Tryz.underlying146 Tryz.zeroValue146 Tryz.sizeOf95 rfl rfl) ?_
  refine boxW rfl rfl rfl ?_
  intro b3 ha3 ho3
  simp only [Above] at ha3
  try simp only [Off, book, List.cons_append, List.nil_append, List.set_cons_zero, List.set_cons_succ, ne_eq] at ho3
  refine allW Tryz.zeroValue96 rfl rfl ?_
  intro b1 ha1 ho1
  simp only [Above] at ha1
  try simp only [Off, book, List.cons_append, List.nil_append, List.set_cons_zero, List.set_cons_succ, ne_eq] at ho1
  refine stWw (i := 0) rfl Tryz.sizeOf96 rfl rfl rfl rfl rfl rfl ?_
  refine OJ.done ?_
  refine PJ.next ?_
  refine CJ.seq ?_
  refine CJ.region ?_
  refine rv rfl rfl rfl (ldW_r (i := 0) rfl Tryz.isAgg96 rfl rfl) ?_
  refine rv rfl rfl rfl (nilC_r rfl) ?_
  refine rv rfl rfl rfl (idxA_r Tryz.underlying146 Tryz.sizeOf95 rfl rfl (by omega) (by omega)) ?_
  refine rv rfl rfl rfl (fld_r Tryz.underlying95 rfl Tryz.sizeOf93 rfl) ?_
  refine stW (i := 1) rfl Tryz.sizeOf93 rfl rfl rfl rfl (Nat.le_of_ble_eq_true rfl) rfl ?_
  refine OJ.done ?_
  refine PJ.next ?_
  refine CJ.seq ?_
  refine CJ.region ?_
  refine rv rfl rfl rfl (ldW_r (i := 0) rfl Tryz.isAgg96 rfl rfl) ?_
  refine rv rfl rfl rfl (nilC_r rfl) ?_
  refine rv rfl rfl rfl (idxA_r Tryz.underlying146 Tryz.sizeOf95 rfl rfl (by omega) (by omega)) ?_
  refine rv rfl rfl rfl (fld_r Tryz.underlying95 rfl Tryz.sizeOf93 rfl) ?_
  refine stW (i := 1) rfl Tryz.sizeOf93 rfl rfl rfl rfl (Nat.le_of_ble_eq_true rfl) rfl ?_
  refine OJ.done ?_
  refine PJ.next ?_
  refine CJ.seq ?_
  refine CJ.region ?_
  refine rv rfl rfl rfl (ldW_r (i := 0) rfl Tryz.isAgg96 rfl rfl) ?_
  refine rv rfl rfl rfl (mkF_r rfl) ?_
  refine rv rfl rfl rfl (nilC_r rfl) ?_
  refine rv rfl rfl rfl (idxA_r Tryz.underlying146 Tryz.sizeOf95 rfl rfl (by omega) (by omega)) ?_
  refine rv rfl rfl rfl (fld_r Tryz.underlying95 rfl Tryz.sizeOf93 rfl) ?_
  refine stW (i := 1) rfl Tryz.sizeOf93 rfl rfl rfl rfl (Nat.le_of_ble_eq_true rfl) rfl ?_
  refine OJ.done ?_
  refine PJ.next ?_
  refine CJ.seq ?_
  refine CJ.region ?_
  refine rv rfl rfl rfl (ldW_r (i := 0) rfl Tryz.isAgg96 rfl rfl) ?_
  refine rv rfl rfl rfl (asg_r rfl) ?_
  refine OJ.done ?_
  refine PJ.next ?_
  refine CJ.ret ?_
  exact retG (.inl rfl) Tryz.results41 (RS.t rfl RS.n) (fun W hS => ⟨(b3, b1), rfl, hS.base (.head _) (by simp only [Over, List.set_cons_zero, List.set_cons_succ, and_true]; omega), by simp only [Above] at *; omega, by simp only [Above] at *; omega, hS.own (b1, _) (.head _), hS.own (b3, _) (.tail _ (.head _))⟩)
def WriteOk (x : V) : Prop := ∀ (N b cap bv bw : Nat) (xs : List UInt8) (sp : List Value) (w : World) (v : Value), VAt N w x v → x.fine → Wr N w bv bw → N ≤ b → N ≤ w.heap.size → RowOk xs cap sp → xs.length + x.enc.length ≤ 800000000000 → w.heap[b]? = some (rowC 5 xs sp) →
  Calls Tryz.prog x.fn (rowV b xs.length cap :: v :: x.cap bv).toArray w (RetRow w b 5 (xs ++ x.enc))
/-- chartroom/codec.newWriter$1 -/
theorem write_int (n : Int) (hn : (V.int n).fine) (xs : List UInt8) (b cap : Nat) (sp : List Value) (hrow : RowOk xs cap sp) (w : World) (hb : w.heap[b]? = some (rowC 5 xs sp)) (hlim : xs.length + (V.int n).enc.length ≤ 800000000000) :
    Calls Tryz.prog 86 #[rowV b xs.length cap, vI n] w (RetRow w b 5 (xs ++ (V.int n).enc)) := by
  have hbl := (Array.getElem?_eq_some_iff.1 hb).1
  simp only [V.fine] at hn
  simp only [V.enc, List.length_cons] at hlim
  have hz := zig_lt n hn.1 hn.2
  refine enterG (vs := [_, _]) (Gh.lent (· = b)) [(b, rowC 5 xs sp)] Tryz.func86 rfl Tryz.ntmps86 rfl (st_lent hb) ?_
  refine CJ.seq ?_
  refine CJ.region ?_
  refine boxR rfl rfl rfl ?_
  intro b3 w3 hb3 ha3 ho3 hm3 hz3
  simp only [Above] at ha3
  try simp only [Off, book, List.cons_append, List.nil_append, List.set_cons_zero, List.set_cons_succ, ne_eq] at ho3
  refine rv rfl rfl rfl (asg_r rfl) ?_
  refine OJ.done ?_
  refine PJ.next ?_
  refine CJ.seq ?_
  refine CJ.less (E' := [(0, _), (1, _), (3, _), (4, _)]) ⟨rfl, rfl, rfl, rfl, trivial⟩ ?_
  refine CJ.chn 5 [1, 2] [([], some _), ([], none), ([0, 1], none), ([], some _), ([3], some _)] (fun cv L' H' => match cv with | [] => L' = [w3, w] ∧ H' = [(b, rowC 5 xs sp)] | [v1] => ∃ (b6 : Nat), v1 = rowV b6 ([1] : List UInt8).length 1 ∧ L' = [w3, w] ∧ H' = [(b6, rowC 5 [1] []), (b, rowC 5 xs sp)] ∧ w3.heap.size ≤ b6 ∧ w.heap.size ≤ b6 | [v1, v2] => ∃ (b6 : Nat) (b7 : Nat) (c7 : Nat) (s7 : List Value), v1 = rowV b6 ([1] : List UInt8).length 1 ∧ v2 = rowV b7 (xs ++ [1]).length c7 ∧ L' = [w3, w] ∧ H' = [(b6, rowC 5 [1] []), (b7, rowC 5 (xs ++ [1]) s7)] ∧ w3.heap.size ≤ b6 ∧ w.heap.size ≤ b6 ∧ Fr (Gh.lent (· = b)) [w3, w] b7 ∧ (b7 = b ∨ w3.heap.size ≤ b7 ∧ w.heap.size ≤ b7) ∧ RowOk (xs ++ [1]) c7 s7 | _ => False) (by kernel_rfl) ⟨rfl, rfl⟩ (by kernel_rfl) (by kernel_rfl) (by kernel_rfl) (by kernel_rfl) (by kernel_rfl) (by kernel_rfl) (pc (fun cv L' H' hd hP => X.val rfl rfl (mv_r rfl) (fun _ _ => rfl)) (pk (pk (pc (fun cv L' H' hd hP => X.val rfl rfl (fld_r Tryz.underlying58 rfl Tryz.sizeOf3 rfl) (fun _ _ => rfl)) (pc (fun cv L' H' hd hP => match cv, hd, hP with | [], hd, hP => (by obtain ⟨rfl, rfl⟩ := hP; exact X.val rfl rfl (ldR_r Tryz.isAgg3 rfl (.head _) hb3 hm3 (by first | (simp only [Off, book, List.cons_append, List.nil_append, List.set_cons_zero, List.set_cons_succ, List.eraseIdx_cons_zero, List.eraseIdx_cons_succ, ne_eq, and_true]; omega) | (simp [Off] <;> omega)) rfl) (fun _ _ => rfl)) | [v1], hd, hP => (by obtain ⟨b6, rfl, rfl, rfl, ha6, hA6⟩ := hP; exact X.val rfl rfl (ldR_r Tryz.isAgg3 rfl (.head _) hb3 hm3 (by first | (simp only [Off, book, List.cons_append, List.nil_append, List.set_cons_zero, List.set_cons_succ, List.eraseIdx_cons_zero, List.eraseIdx_cons_succ, ne_eq, and_true]; omega) | (simp [Off] <;> omega)) rfl) (fun _ _ => rfl)) | [v1, v2], hd, hP => (by obtain ⟨b6, b7, c7, s7, rfl, rfl, rfl, rfl, ha6, hA6, hf7, hg7, hr7⟩ := hP; exact X.val rfl rfl (ldR_r Tryz.isAgg3 rfl (.head _) hb3 hm3 (by first | (simp only [Off, book, List.cons_append, List.nil_append, List.set_cons_zero, List.set_cons_succ, List.eraseIdx_cons_zero, List.eraseIdx_cons_succ, ne_eq, and_true]; omega) | (simp [Off] <;> omega)) rfl) (fun _ _ => rfl)) | _ :: _ :: _ :: _, _, hP => hP.elim) (pn)))))) ?_ ?_
  · refine sc rfl rfl rfl ?_ ?_
    · intro cv L' H' hl hP F Q' hk
      obtain rfl := List.eq_nil_of_length_eq_zero hl
      obtain ⟨rfl, rfl⟩ := hP
      refine bsB [1] bt Tryz.zeroValue5 rfl rfl rfl rfl rfl rfl rfl rfl rfl ?_
      intro b6 ha ho hx hr
      exact OJ.done (hk _ _ _ ⟨b6, rfl, rfl, rfl, ha.1, ha.2.1⟩)
    refine sc rfl rfl rfl ?_ ?_
    · intro cv L' H' hl hP F Q' hk
      obtain ⟨v1, rfl⟩ := len1 hl
      obtain ⟨b6, rfl, rfl, rfl, ha6, hA6⟩ := hP
      refine apB (i := 1) (xs := xs) (zs := [1]) (sp := sp) rfl bt rfl rfl rfl rfl (SrcB.own (i := 0) Tryz.underlying53 rfl) hrow (.inl rfl) (by simp only [List.length_append, List.length_cons, List.length_nil]; omega) ?_
      intro b7 c7 s7 hf7 hr7
      exact OJ.done (hk _ _ _ ⟨b6, b7, c7, s7, rfl, rfl, rfl, rfl, ha6, hA6, hf7, by simpa only [Fr, Gh.lent, Above, and_true] using hf7, hr7⟩)
    exact sn
  · intro cv L' H' hl hP
    obtain ⟨v1, v2, rfl⟩ := len2 hl
    obtain ⟨b6, b7, c7, s7, rfl, rfl, rfl, rfl, ha6, hA6, hf7, hg7, hr7⟩ := hP
    refine OJ.dropF (i := 0) rfl (.inr ⟨ha6, hA6, trivial⟩) ?_
    refine call Tryz.call88 rfl rfl rfl (fun W hS => codec_unsigned _ (by omega) (by omega) W) ?_
    refine callR (i := 0) (ys := xs ++ [1] ++ num (zig n)) (first := []) (cap := []) rfl rfl Tryz.call87 rfl rfl rfl hf7 (fun W hS hW => codec_numeral (xs ++ [1]) (zig n) hz b7 c7 s7 hr7 (by simp only [List.length_append, List.length_cons, List.length_nil]; omega) W hW) ?_
    intro b11 c11 s11 hf11 hr11
    have hg11 := hf11
    simp only [Fr, Gh.lent, Gh.no, Above, and_true, false_or] at hg11
    refine rv rfl rfl rfl (asg_r rfl) ?_
    refine OJ.done ?_
    refine PJ.next ?_
    refine CJ.ret ?_
    have henc : xs ++ (V.int n).enc = xs ++ [1] ++ num (zig n) := by simp [V.enc]
    rw [henc]
    exact retRow (i := 0) (.inl rfl) Tryz.results86 rfl rfl (.tail _ (.head _)) (by simp only [OverX, List.set_cons_zero, List.set_cons_succ, List.eraseIdx_cons_zero, List.eraseIdx_cons_succ, and_true]; simp only [Fr, Gh.lent, Above] at hf11; omega) hr11
end Px
