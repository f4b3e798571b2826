/- Contracts of math/bits and of the package group. No condition beyond those that each theorem states. -/
import Derived.Test.YtjmmhdkjjmlnlaaGreatDoorXb
import Derived.Test.YtjmmhdkjjmlnlaaGreatDoorProg
set_option linter.unusedSimpArgs false
set_option linter.unusedVariables false
set_option linter.unusedSectionVars false
namespace Px
open Go Go.RowKit Go.Proofs
/-- math/bits.Mul64 -/
theorem bits_Mul64 (x y : Int) (hx : 0 ≤ x) (hx1 : x < 18446744073709551616) (hy : 0 ≤ y) (hy1 : y < 18446744073709551616) (w : World) :
    Calls Tryz.prog 125 #[.int .u64 x, .int .u64 y] w (Ret w (.tuple #[.int .u64 (x * y / 18446744073709551616), .int .u64 (x * y % 18446744073709551616)])) := by
  have m1 := mul_bd (a := x / 4294967296) (b := y / 4294967296) (A := 4294967295) (B := 4294967295) (by omega) (by omega) (by omega) (by omega)
  have m2 := mul_bd (a := x / 4294967296) (b := y % 4294967296) (A := 4294967295) (B := 4294967295) (by omega) (by omega) (by omega) (by omega)
  have m3 := mul_bd (a := x % 4294967296) (b := y % 4294967296) (A := 4294967295) (B := 4294967295) (by omega) (by omega) (by omega) (by omega)
  have m4 := mul_bd (a := x % 4294967296) (b := y / 4294967296) (A := 4294967295) (B := 4294967295) (by omega) (by omega) (by omega) (by omega)
  refine enter (vs := [_, _]) Tryz.func125 rfl Tryz.ntmps125 rfl ?_
  refine CJ.seq ?_
  refine CJ.region ?_
  refine rv rfl rfl rfl (asg_r rfl) ?_
  refine rv rfl rfl rfl (asg_r rfl) ?_
  refine OJ.done ?_
  refine PJ.next ?_
  refine CJ.seq ?_
  refine CJ.region ?_
  refine rv rfl rfl rfl (mv_r rfl) ?_
  refine rv rfl rfl rfl (mskC_r 32 4294967296 (by decide) rfl rfl rfl rfl (by omega) (by omega)) ?_
  refine rv rfl rfl rfl (asg_r rfl) ?_
  refine OJ.done ?_
  refine PJ.next ?_
  refine CJ.seq ?_
  refine CJ.region ?_
  refine rv rfl rfl rfl (mv_r rfl) ?_
  refine rv rfl rfl rfl (shrC_r 32 4294967296 (by decide) rfl rfl rfl) ?_
  refine rv rfl rfl rfl (asg_r rfl) ?_
  refine OJ.done ?_
  refine PJ.next ?_
  refine CJ.seq ?_
  refine CJ.region ?_
  refine rv rfl rfl rfl (mv_r rfl) ?_
  refine rv rfl rfl rfl (mskC_r 32 4294967296 (by decide) rfl rfl rfl rfl (by omega) (by omega)) ?_
  refine rv rfl rfl rfl (asg_r rfl) ?_
  refine OJ.done ?_
  refine PJ.next ?_
  refine CJ.seq ?_
  refine CJ.region ?_
  refine rv rfl rfl rfl (mv_r rfl) ?_
  refine rv rfl rfl rfl (shrC_r 32 4294967296 (by decide) rfl rfl rfl) ?_
  refine rv rfl rfl rfl (asg_r rfl) ?_
  refine OJ.done ?_
  refine PJ.next ?_
  refine CJ.seq ?_
  refine CJ.region ?_
  refine rv rfl rfl rfl (mv_r rfl) ?_
  refine rv rfl rfl rfl (mv_r rfl) ?_
  refine rv rfl rfl rfl (mulU_r rfl rfl (by omega) (by omega)) ?_
  refine rv rfl rfl rfl (asg_r rfl) ?_
  refine OJ.done ?_
  refine PJ.next ?_
  refine CJ.seq ?_
  refine CJ.region ?_
  refine rv rfl rfl rfl (mv_r rfl) ?_
  refine rv rfl rfl rfl (mv_r rfl) ?_
  refine rv rfl rfl rfl (mulU_r rfl rfl (by omega) (by omega)) ?_
  refine rv rfl rfl rfl (mv_r rfl) ?_
  refine rv rfl rfl rfl (shrC_r 32 4294967296 (by decide) rfl rfl rfl) ?_
  refine rv rfl rfl rfl (addU_r rfl rfl (by omega) (by omega)) ?_
  refine rv rfl rfl rfl (asg_r rfl) ?_
  refine OJ.done ?_
  refine PJ.next ?_
  refine CJ.seq ?_
  refine CJ.region ?_
  refine rv rfl rfl rfl (mv_r rfl) ?_
  refine rv rfl rfl rfl (mskC_r 32 4294967296 (by decide) rfl rfl rfl rfl (by omega) (by omega)) ?_
  refine rv rfl rfl rfl (asg_r rfl) ?_
  refine OJ.done ?_
  refine PJ.next ?_
  refine CJ.seq ?_
  refine CJ.region ?_
  refine rv rfl rfl rfl (mv_r rfl) ?_
  refine rv rfl rfl rfl (shrC_r 32 4294967296 (by decide) rfl rfl rfl) ?_
  refine rv rfl rfl rfl (asg_r rfl) ?_
  refine OJ.done ?_
  refine PJ.next ?_
  refine CJ.seq ?_
  refine CJ.region ?_
  refine rv rfl rfl rfl (mv_r rfl) ?_
  refine rv rfl rfl rfl (mv_r rfl) ?_
  refine rv rfl rfl rfl (mv_r rfl) ?_
  refine rv rfl rfl rfl (mulU_r rfl rfl (by omega) (by omega)) ?_
  refine rv rfl rfl rfl (addU_r rfl rfl (by omega) (by omega)) ?_
  refine rv rfl rfl rfl (asg_r rfl) ?_
  refine OJ.done ?_
  refine PJ.next ?_
  refine CJ.seq ?_
  refine CJ.region ?_
  refine rv rfl rfl rfl (mv_r rfl) ?_
  refine rv rfl rfl rfl (mv_r rfl) ?_
  refine rv rfl rfl rfl (mulU_r rfl rfl (by omega) (by omega)) ?_
  refine rv rfl rfl rfl (mv_r rfl) ?_
  refine rv rfl rfl rfl (addU_r rfl rfl (by omega) (by omega)) ?_
  refine rv rfl rfl rfl (mv_r rfl) ?_
  refine rv rfl rfl rfl (shrC_r 32 4294967296 (by decide) rfl rfl rfl) ?_
  refine rv rfl rfl rfl (addU_r rfl rfl (by omega) (by omega)) ?_
  refine rv rfl rfl rfl (asg_r rfl) ?_
  refine OJ.done ?_
  refine PJ.next ?_
  refine CJ.seq ?_
  refine CJ.region ?_
  refine rv rfl rfl rfl (mv_r rfl) ?_
  refine rv rfl rfl rfl (mv_r rfl) ?_
  refine rv rfl rfl rfl (mulW_r rfl rfl) ?_
  refine rv rfl rfl rfl (asg_r rfl) ?_
  refine OJ.done ?_
  refine PJ.next ?_
  refine CJ.ret ?_
  refine retV2 Tryz.results125 rfl rfl (.head _) ?_ ?_
  · exact congrArg (Value.int .u64) (mul64_hiI x y hx hy hx1 hy1)
  · rw [wrap_u64']
def len8tab : ByteArray := ⟨#[0, 1, 2, 2, 3, 3, 3, 3, 4, 4, 4, 4, 4, 4, 4, 4, 5, 5, 5, 5, 5, 5, 5, 5, 5, 5, 5, 5, 5, 5, 5, 5, 6, 6, 6, 6, 6, 6, 6, 6, 6, 6, 6, 6, 6, 6, 6, 6, 6, 6, 6, 6, 6, 6, 6, 6, 6, 6, 6, 6, 6, 6, 6, 6, 7, 7, 7, 7, 7, 7, 7, 7, 7, 7, 7, 7, 7, 7, 7, 7, 7, 7, 7, 7, 7, 7, 7, 7, 7, 7, 7, 7, 7, 7, 7, 7, 7, 7, 7, 7, 7, 7, 7, 7, 7, 7, 7, 7, 7, 7, 7, 7, 7, 7, 7, 7, 7, 7, 7, 7, 7, 7, 7, 7, 7, 7, 7, 7, 8, 8, 8, 8, 8, 8, 8, 8, 8, 8, 8, 8, 8, 8, 8, 8, 8, 8, 8, 8, 8, 8, 8, 8, 8, 8, 8, 8, 8, 8, 8, 8, 8, 8, 8, 8, 8, 8, 8, 8, 8, 8, 8, 8, 8, 8, 8, 8, 8, 8, 8, 8, 8, 8, 8, 8, 8, 8, 8, 8, 8, 8, 8, 8, 8, 8, 8, 8, 8, 8, 8, 8, 8, 8, 8, 8, 8, 8, 8, 8, 8, 8, 8, 8, 8, 8, 8, 8, 8, 8, 8, 8, 8, 8, 8, 8, 8, 8, 8, 8, 8, 8, 8, 8, 8, 8, 8, 8, 8, 8, 8, 8, 8, 8, 8, 8, 8, 8, 8, 8, 8, 8, 8, 8, 8, 8, 8, 8]⟩
theorem len8tab_at (n : Nat) (h : n < 256) : len8tab[n]? = some (UInt8.ofNat (blen n)) := by
  have : ∀ n : Fin 256, len8tab[n.val]? = some (UInt8.ofNat (blen n.val)) := by decide +kernel
  exact this ⟨n, h⟩
theorem len8_re {x : Int} (h0 : 0 ≤ x) (h : x < 256) : ∃ b, len8tab[x.toNat]? = some b ∧ (b.toNat : Int) = blenI x := by
  refine ⟨_, len8tab_at x.toNat (by omega), ?_⟩
  have := blen_le x.toNat 8 (by omega)
  unfold blenI
  simp
  omega
theorem idx8_r {C : Cx} {E : Env} {G : Gh} {L : List World} {H : Heap} {T : Nat} {x y : Operand} {n : Int} (hU : C.P.underlying T = some .string) (hx : ev E x = some (.string len8tab)) (hy : ev E y = some (.int .u8 n)) (h0 : 0 ≤ n) (h1 : n < 256) :
    RV C G L H E (.index T x y) (.int .u8 (blenI n)) := by
  obtain ⟨b, hb, he⟩ := len8_re h0 h1
  exact he ▸ idxStr_r hU hx hy h0 hb
theorem blen_step (x : Int) (q : Int) (k : Nat) (hq : (2 : Int) ^ k = q) (h : q ≤ x) : blenI x = blenI (x / q) + k := by
  subst hq; exact blenI_shift k h
theorem blen_8 (x : Int) (h0 : 0 ≤ x) (h : x < 256) : 0 ≤ blenI x ∧ blenI x ≤ 8 := by
  have := blenI_le (x := x) 8 h0 (by simpa using h); simpa using this
theorem idx8 {C : Cx} {Q : Post} {E : Env} {D : List Deferred} {G : Gh} {L : List World} {H : Heap} {ops : Array Oper} {l : List Oper} {d T ty : Nat} {pos : String} {aft : Array Edge} {g : Option (Nat × Bool)} {x y : Operand} {n : Int} (hU : C.P.underlying T = some .string) (hx : ev E x = some (.string len8tab)) (hw : wantE ops E g = some true) (hN : Nat.blt d C.N = true) (hy : ev E y = some (.int .u8 n)) (h0 : 0 ≤ n) (h1 : n < 256)
    (k : 0 ≤ blenI n → blenI n ≤ 8 → OJ C ops Q l ((d, .int .u8 (blenI n)) :: E) D G L H) : OJ C ops Q (⟨some d, .index T x y, ty, pos, aft, g⟩ :: l) E D G L H :=
  rv rfl hw hN (idx8_r hU hx hy h0 h1) (k (blen_8 n h0 h1).1 (blen_8 n h0 h1).2)
/-- math/bits.Len64 -/
theorem bits_Len64 (x : Int) (hx : 0 ≤ x) (hx1 : x < 18446744073709551616) (w : World) :
    Calls Tryz.prog 148 #[.int .u64 x] w (Ret w (.int .i64 (blenI x))) := by
  
  refine enter (vs := [_]) Tryz.func148 rfl Tryz.ntmps148 rfl ?_
  refine CJ.seq ?_
  refine CJ.region ?_
  refine rv rfl rfl rfl (asg_r rfl) ?_
  refine OJ.done ?_
  refine PJ.next ?_
  refine CJ.seq ?_
  refine CJ.seq ?_
  refine CJ.region ?_
  refine rv rfl rfl rfl (mv_r rfl) ?_
  refine rv rfl rfl rfl (geq_r rfl rfl) ?_
  refine OJ.done ?_
  refine PJ.next ?_
  refine CJ.cond rfl (fun hc1 => ?_) (fun hc1 => ?_)
  · try simp only [decide_eq_true_eq, decide_eq_false_iff_not, Bool.not_eq_true', Bool.not_eq_false'] at hc1
    refine CJ.seq ?_
    refine CJ.region ?_
    refine rv rfl rfl rfl (mv_r rfl) ?_
    refine rv rfl rfl rfl (shrC_r 32 4294967296 (by decide) rfl rfl rfl) ?_
    refine rv rfl rfl rfl (asg_r rfl) ?_
    refine OJ.done ?_
    refine PJ.next ?_
    refine CJ.region ?_
    refine rv rfl rfl rfl (asg_r rfl) ?_
    refine OJ.done ?_
    refine PJ.next ?_
    refine CJ.seq ?_
    refine CJ.seq ?_
    refine CJ.region ?_
    refine rv rfl rfl rfl (mv_r rfl) ?_
    refine rv rfl rfl rfl (geq_r rfl rfl) ?_
    refine OJ.done ?_
    refine PJ.next ?_
    refine CJ.cond rfl (fun hc2 => ?_) (fun hc2 => ?_)
    · try simp only [decide_eq_true_eq, decide_eq_false_iff_not, Bool.not_eq_true', Bool.not_eq_false'] at hc2
      refine CJ.seq ?_
      refine CJ.region ?_
      refine rv rfl rfl rfl (mv_r rfl) ?_
      refine rv rfl rfl rfl (shrC_r 16 65536 (by decide) rfl rfl rfl) ?_
      refine rv rfl rfl rfl (asg_r rfl) ?_
      refine OJ.done ?_
      refine PJ.next ?_
      refine CJ.region ?_
      refine rv rfl rfl rfl (mv_r rfl) ?_
      refine rv rfl rfl rfl (addI_r rfl rfl (by omega) (by omega)) ?_
      refine rv rfl rfl rfl (asg_r rfl) ?_
      refine OJ.done ?_
      refine PJ.next ?_
      refine CJ.seq ?_
      refine CJ.seq ?_
      refine CJ.region ?_
      refine rv rfl rfl rfl (mv_r rfl) ?_
      refine rv rfl rfl rfl (geq_r rfl rfl) ?_
      refine OJ.done ?_
      refine PJ.next ?_
      refine CJ.cond rfl (fun hc3 => ?_) (fun hc3 => ?_)
      · try simp only [decide_eq_true_eq, decide_eq_false_iff_not, Bool.not_eq_true', Bool.not_eq_false'] at hc3
        refine CJ.seq ?_
        refine CJ.region ?_
        refine rv rfl rfl rfl (mv_r rfl) ?_
        refine rv rfl rfl rfl (shrC_r 8 256 (by decide) rfl rfl rfl) ?_
        refine rv rfl rfl rfl (asg_r rfl) ?_
        refine OJ.done ?_
        refine PJ.next ?_
        refine CJ.region ?_
        refine rv rfl rfl rfl (mv_r rfl) ?_
        refine rv rfl rfl rfl (addI_r rfl rfl (by omega) (by omega)) ?_
        refine rv rfl rfl rfl (asg_r rfl) ?_
        refine OJ.done ?_
        refine PJ.next ?_
        refine CJ.seq ?_
        refine CJ.region ?_
        refine rv rfl rfl rfl (mv_r rfl) ?_
        refine rv rfl rfl rfl (mv_r rfl) ?_
        refine rv rfl rfl rfl (cvtB0_r Tryz.underlying148 Tryz.underlying5 rfl (by omega) (by omega)) ?_
        refine idx8 Tryz.underlying9 (by kernel_rfl) rfl rfl rfl (by omega) (by omega) (fun hl0 hl8 => ?_)
        refine rv rfl rfl rfl (cvtI_r Tryz.underlying5 Tryz.underlying3 rfl (by omega) (by omega)) ?_
        refine rv rfl rfl rfl (addI_r rfl rfl (by omega) (by omega)) ?_
        refine rv rfl rfl rfl (asg_r rfl) ?_
        refine OJ.done ?_
        refine PJ.next ?_
        refine CJ.ret ?_
        refine retV Tryz.results148 rfl (.head _) ?_
        (refine congrArg (Value.int .i64) ?_; (try simp only [blen_step x 4294967296 32 (by decide), blen_step (x / 4294967296) 65536 16 (by decide), blen_step (x / 4294967296 / 65536) 256 8 (by decide), blen_step (x / 4294967296) 256 8 (by decide), blen_step x 65536 16 (by decide), blen_step (x / 65536) 256 8 (by decide), blen_step x 256 8 (by decide), *]); omega)
      · try simp only [decide_eq_true_eq, decide_eq_false_iff_not, Bool.not_eq_true', Bool.not_eq_false'] at hc3
        refine CJ.skip ?_
        refine PJ.next ?_
        refine CJ.seq ?_
        refine CJ.region ?_
        refine rv rfl rfl rfl (mv_r rfl) ?_
        refine rv rfl rfl rfl (mv_r rfl) ?_
        refine rv rfl rfl rfl (cvtB0_r Tryz.underlying148 Tryz.underlying5 rfl (by omega) (by omega)) ?_
        refine idx8 Tryz.underlying9 (by kernel_rfl) rfl rfl rfl (by omega) (by omega) (fun hl0 hl8 => ?_)
        refine rv rfl rfl rfl (cvtI_r Tryz.underlying5 Tryz.underlying3 rfl (by omega) (by omega)) ?_
        refine rv rfl rfl rfl (addI_r rfl rfl (by omega) (by omega)) ?_
        refine rv rfl rfl rfl (asg_r rfl) ?_
        refine OJ.done ?_
        refine PJ.next ?_
        refine CJ.ret ?_
        refine retV Tryz.results148 rfl (.head _) ?_
        (refine congrArg (Value.int .i64) ?_; (try simp only [blen_step x 4294967296 32 (by decide), blen_step (x / 4294967296) 65536 16 (by decide), blen_step (x / 4294967296 / 65536) 256 8 (by decide), blen_step (x / 4294967296) 256 8 (by decide), blen_step x 65536 16 (by decide), blen_step (x / 65536) 256 8 (by decide), blen_step x 256 8 (by decide), *]); omega)
    · try simp only [decide_eq_true_eq, decide_eq_false_iff_not, Bool.not_eq_true', Bool.not_eq_false'] at hc2
      refine CJ.skip ?_
      refine PJ.next ?_
      refine CJ.seq ?_
      refine CJ.seq ?_
      refine CJ.region ?_
      refine rv rfl rfl rfl (mv_r rfl) ?_
      refine rv rfl rfl rfl (geq_r rfl rfl) ?_
      refine OJ.done ?_
      refine PJ.next ?_
      refine CJ.cond rfl (fun hc4 => ?_) (fun hc4 => ?_)
      · try simp only [decide_eq_true_eq, decide_eq_false_iff_not, Bool.not_eq_true', Bool.not_eq_false'] at hc4
        refine CJ.seq ?_
        refine CJ.region ?_
        refine rv rfl rfl rfl (mv_r rfl) ?_
        refine rv rfl rfl rfl (shrC_r 8 256 (by decide) rfl rfl rfl) ?_
        refine rv rfl rfl rfl (asg_r rfl) ?_
        refine OJ.done ?_
        refine PJ.next ?_
        refine CJ.region ?_
        refine rv rfl rfl rfl (mv_r rfl) ?_
        refine rv rfl rfl rfl (addI_r rfl rfl (by omega) (by omega)) ?_
        refine rv rfl rfl rfl (asg_r rfl) ?_
        refine OJ.done ?_
        refine PJ.next ?_
        refine CJ.seq ?_
        refine CJ.region ?_
        refine rv rfl rfl rfl (mv_r rfl) ?_
        refine rv rfl rfl rfl (mv_r rfl) ?_
        refine rv rfl rfl rfl (cvtB0_r Tryz.underlying148 Tryz.underlying5 rfl (by omega) (by omega)) ?_
        refine idx8 Tryz.underlying9 (by kernel_rfl) rfl rfl rfl (by omega) (by omega) (fun hl0 hl8 => ?_)
        refine rv rfl rfl rfl (cvtI_r Tryz.underlying5 Tryz.underlying3 rfl (by omega) (by omega)) ?_
        refine rv rfl rfl rfl (addI_r rfl rfl (by omega) (by omega)) ?_
        refine rv rfl rfl rfl (asg_r rfl) ?_
        refine OJ.done ?_
        refine PJ.next ?_
        refine CJ.ret ?_
        refine retV Tryz.results148 rfl (.head _) ?_
        (refine congrArg (Value.int .i64) ?_; (try simp only [blen_step x 4294967296 32 (by decide), blen_step (x / 4294967296) 65536 16 (by decide), blen_step (x / 4294967296 / 65536) 256 8 (by decide), blen_step (x / 4294967296) 256 8 (by decide), blen_step x 65536 16 (by decide), blen_step (x / 65536) 256 8 (by decide), blen_step x 256 8 (by decide), *]); omega)
      · try simp only [decide_eq_true_eq, decide_eq_false_iff_not, Bool.not_eq_true', Bool.not_eq_false'] at hc4
        refine CJ.skip ?_
        refine PJ.next ?_
        refine CJ.seq ?_
        refine CJ.region ?_
        refine rv rfl rfl rfl (mv_r rfl) ?_
        refine rv rfl rfl rfl (mv_r rfl) ?_
        refine rv rfl rfl rfl (cvtB0_r Tryz.underlying148 Tryz.underlying5 rfl (by omega) (by omega)) ?_
        refine idx8 Tryz.underlying9 (by kernel_rfl) rfl rfl rfl (by omega) (by omega) (fun hl0 hl8 => ?_)
        refine rv rfl rfl rfl (cvtI_r Tryz.underlying5 Tryz.underlying3 rfl (by omega) (by omega)) ?_
        refine rv rfl rfl rfl (addI_r rfl rfl (by omega) (by omega)) ?_
        refine rv rfl rfl rfl (asg_r rfl) ?_
        refine OJ.done ?_
        refine PJ.next ?_
        refine CJ.ret ?_
        refine retV Tryz.results148 rfl (.head _) ?_
        (refine congrArg (Value.int .i64) ?_; (try simp only [blen_step x 4294967296 32 (by decide), blen_step (x / 4294967296) 65536 16 (by decide), blen_step (x / 4294967296 / 65536) 256 8 (by decide), blen_step (x / 4294967296) 256 8 (by decide), blen_step x 65536 16 (by decide), blen_step (x / 65536) 256 8 (by decide), blen_step x 256 8 (by decide), *]); omega)
  · try simp only [decide_eq_true_eq, decide_eq_false_iff_not, Bool.not_eq_true', Bool.not_eq_false'] at hc1
    refine CJ.skip ?_
    refine PJ.next ?_
    refine CJ.seq ?_
    refine CJ.seq ?_
    refine CJ.region ?_
    refine rv rfl rfl rfl (mv_r rfl) ?_
    refine rv rfl rfl rfl (geq_r rfl rfl) ?_
    refine OJ.done ?_
    refine PJ.next ?_
    refine CJ.cond rfl (fun hc5 => ?_) (fun hc5 => ?_)
    · try simp only [decide_eq_true_eq, decide_eq_false_iff_not, Bool.not_eq_true', Bool.not_eq_false'] at hc5
      refine CJ.seq ?_
      refine CJ.region ?_
      refine rv rfl rfl rfl (mv_r rfl) ?_
      refine rv rfl rfl rfl (shrC_r 16 65536 (by decide) rfl rfl rfl) ?_
      refine rv rfl rfl rfl (asg_r rfl) ?_
      refine OJ.done ?_
      refine PJ.next ?_
      refine CJ.region ?_
      refine rv rfl rfl rfl (mv_r rfl) ?_
      refine rv rfl rfl rfl (addI_r rfl rfl (by omega) (by omega)) ?_
      refine rv rfl rfl rfl (asg_r rfl) ?_
      refine OJ.done ?_
      refine PJ.next ?_
      refine CJ.seq ?_
      refine CJ.seq ?_
      refine CJ.region ?_
      refine rv rfl rfl rfl (mv_r rfl) ?_
      refine rv rfl rfl rfl (geq_r rfl rfl) ?_
      refine OJ.done ?_
      refine PJ.next ?_
      refine CJ.cond rfl (fun hc6 => ?_) (fun hc6 => ?_)
      · try simp only [decide_eq_true_eq, decide_eq_false_iff_not, Bool.not_eq_true', Bool.not_eq_false'] at hc6
        refine CJ.seq ?_
        refine CJ.region ?_
        refine rv rfl rfl rfl (mv_r rfl) ?_
        refine rv rfl rfl rfl (shrC_r 8 256 (by decide) rfl rfl rfl) ?_
        refine rv rfl rfl rfl (asg_r rfl) ?_
        refine OJ.done ?_
        refine PJ.next ?_
        refine CJ.region ?_
        refine rv rfl rfl rfl (mv_r rfl) ?_
        refine rv rfl rfl rfl (addI_r rfl rfl (by omega) (by omega)) ?_
        refine rv rfl rfl rfl (asg_r rfl) ?_
        refine OJ.done ?_
        refine PJ.next ?_
        refine CJ.seq ?_
        refine CJ.region ?_
        refine rv rfl rfl rfl (mv_r rfl) ?_
        refine rv rfl rfl rfl (mv_r rfl) ?_
        refine rv rfl rfl rfl (cvtB0_r Tryz.underlying148 Tryz.underlying5 rfl (by omega) (by omega)) ?_
        refine idx8 Tryz.underlying9 (by kernel_rfl) rfl rfl rfl (by omega) (by omega) (fun hl0 hl8 => ?_)
        refine rv rfl rfl rfl (cvtI_r Tryz.underlying5 Tryz.underlying3 rfl (by omega) (by omega)) ?_
        refine rv rfl rfl rfl (addI_r rfl rfl (by omega) (by omega)) ?_
        refine rv rfl rfl rfl (asg_r rfl) ?_
        refine OJ.done ?_
        refine PJ.next ?_
        refine CJ.ret ?_
        refine retV Tryz.results148 rfl (.head _) ?_
        (refine congrArg (Value.int .i64) ?_; (try simp only [blen_step x 4294967296 32 (by decide), blen_step (x / 4294967296) 65536 16 (by decide), blen_step (x / 4294967296 / 65536) 256 8 (by decide), blen_step (x / 4294967296) 256 8 (by decide), blen_step x 65536 16 (by decide), blen_step (x / 65536) 256 8 (by decide), blen_step x 256 8 (by decide), *]); omega)
      · try simp only [decide_eq_true_eq, decide_eq_false_iff_not, Bool.not_eq_true', Bool.not_eq_false'] at hc6
        refine CJ.skip ?_
        refine PJ.next ?_
        refine CJ.seq ?_
        refine CJ.region ?_
        refine rv rfl rfl rfl (mv_r rfl) ?_
        refine rv rfl rfl rfl (mv_r rfl) ?_
        refine rv rfl rfl rfl (cvtB0_r Tryz.underlying148 Tryz.underlying5 rfl (by omega) (by omega)) ?_
        refine idx8 Tryz.underlying9 (by kernel_rfl) rfl rfl rfl (by omega) (by omega) (fun hl0 hl8 => ?_)
        refine rv rfl rfl rfl (cvtI_r Tryz.underlying5 Tryz.underlying3 rfl (by omega) (by omega)) ?_
        refine rv rfl rfl rfl (addI_r rfl rfl (by omega) (by omega)) ?_
        refine rv rfl rfl rfl (asg_r rfl) ?_
        refine OJ.done ?_
        refine PJ.next ?_
        refine CJ.ret ?_
        refine retV Tryz.results148 rfl (.head _) ?_
        (refine congrArg (Value.int .i64) ?_; (try simp only [blen_step x 4294967296 32 (by decide), blen_step (x / 4294967296) 65536 16 (by decide), blen_step (x / 4294967296 / 65536) 256 8 (by decide), blen_step (x / 4294967296) 256 8 (by decide), blen_step x 65536 16 (by decide), blen_step (x / 65536) 256 8 (by decide), blen_step x 256 8 (by decide), *]); omega)
    · try simp only [decide_eq_true_eq, decide_eq_false_iff_not, Bool.not_eq_true', Bool.not_eq_false'] at hc5
      refine CJ.skip ?_
      refine PJ.next ?_
      refine CJ.seq ?_
      refine CJ.seq ?_
      refine CJ.region ?_
      refine rv rfl rfl rfl (mv_r rfl) ?_
      refine rv rfl rfl rfl (geq_r rfl rfl) ?_
      refine OJ.done ?_
      refine PJ.next ?_
      refine CJ.cond rfl (fun hc7 => ?_) (fun hc7 => ?_)
      · try simp only [decide_eq_true_eq, decide_eq_false_iff_not, Bool.not_eq_true', Bool.not_eq_false'] at hc7
        refine CJ.seq ?_
        refine CJ.region ?_
        refine rv rfl rfl rfl (mv_r rfl) ?_
        refine rv rfl rfl rfl (shrC_r 8 256 (by decide) rfl rfl rfl) ?_
        refine rv rfl rfl rfl (asg_r rfl) ?_
        refine OJ.done ?_
        refine PJ.next ?_
        refine CJ.region ?_
        refine rv rfl rfl rfl (mv_r rfl) ?_
        refine rv rfl rfl rfl (addI_r rfl rfl (by omega) (by omega)) ?_
        refine rv rfl rfl rfl (asg_r rfl) ?_
        refine OJ.done ?_
        refine PJ.next ?_
        refine CJ.seq ?_
        refine CJ.region ?_
        refine rv rfl rfl rfl (mv_r rfl) ?_
        refine rv rfl rfl rfl (mv_r rfl) ?_
        refine rv rfl rfl rfl (cvtB0_r Tryz.underlying148 Tryz.underlying5 rfl (by omega) (by omega)) ?_
        refine idx8 Tryz.underlying9 (by kernel_rfl) rfl rfl rfl (by omega) (by omega) (fun hl0 hl8 => ?_)
        refine rv rfl rfl rfl (cvtI_r Tryz.underlying5 Tryz.underlying3 rfl (by omega) (by omega)) ?_
        refine rv rfl rfl rfl (addI_r rfl rfl (by omega) (by omega)) ?_
        refine rv rfl rfl rfl (asg_r rfl) ?_
        refine OJ.done ?_
        refine PJ.next ?_
        refine CJ.ret ?_
        refine retV Tryz.results148 rfl (.head _) ?_
        (refine congrArg (Value.int .i64) ?_; (try simp only [blen_step x 4294967296 32 (by decide), blen_step (x / 4294967296) 65536 16 (by decide), blen_step (x / 4294967296 / 65536) 256 8 (by decide), blen_step (x / 4294967296) 256 8 (by decide), blen_step x 65536 16 (by decide), blen_step (x / 65536) 256 8 (by decide), blen_step x 256 8 (by decide), *]); omega)
      · try simp only [decide_eq_true_eq, decide_eq_false_iff_not, Bool.not_eq_true', Bool.not_eq_false'] at hc7
        refine CJ.skip ?_
        refine PJ.next ?_
        refine CJ.seq ?_
        refine CJ.region ?_
        refine rv rfl rfl rfl (mv_r rfl) ?_
        refine rv rfl rfl rfl (mv_r rfl) ?_
        refine rv rfl rfl rfl (cvtB0_r Tryz.underlying148 Tryz.underlying5 rfl (by omega) (by omega)) ?_
        refine idx8 Tryz.underlying9 (by kernel_rfl) rfl rfl rfl (by omega) (by omega) (fun hl0 hl8 => ?_)
        refine rv rfl rfl rfl (cvtI_r Tryz.underlying5 Tryz.underlying3 rfl (by omega) (by omega)) ?_
        refine rv rfl rfl rfl (addI_r rfl rfl (by omega) (by omega)) ?_
        refine rv rfl rfl rfl (asg_r rfl) ?_
        refine OJ.done ?_
        refine PJ.next ?_
        refine CJ.ret ?_
        refine retV Tryz.results148 rfl (.head _) ?_
        (refine congrArg (Value.int .i64) ?_; (try simp only [blen_step x 4294967296 32 (by decide), blen_step (x / 4294967296) 65536 16 (by decide), blen_step (x / 4294967296 / 65536) 256 8 (by decide), blen_step (x / 4294967296) 256 8 (by decide), blen_step x 65536 16 (by decide), blen_step (x / 65536) 256 8 (by decide), blen_step x 256 8 (by decide), *]); omega)
/-- math/bits.LeadingZeros64 -/
theorem bits_LeadingZeros64 (x : Int) (hx : 0 ≤ x) (hx1 : x < 18446744073709551616) (w : World) :
    Calls Tryz.prog 150 #[.int .u64 x] w (Ret w (.int .i64 (64 - blenI x))) := by
  have hb := blenI_le (x := x) 64 hx (by simpa using hx1)
  refine enter (vs := [_]) Tryz.func150 rfl Tryz.ntmps150 rfl ?_
  refine CJ.seq ?_
  refine CJ.region ?_
  refine rv rfl rfl rfl (asg_r rfl) ?_
  refine OJ.done ?_
  refine PJ.next ?_
  refine CJ.seq ?_
  refine CJ.region ?_
  refine rv rfl rfl rfl (mv_r rfl) ?_
  refine call Tryz.call148 rfl rfl rfl (fun W hS => bits_Len64 _ (by omega) (by omega) W) ?_
  refine rv rfl rfl rfl (subI_r rfl rfl (by omega) (by omega)) ?_
  refine rv rfl rfl rfl (asg_r rfl) ?_
  refine OJ.done ?_
  refine PJ.next ?_
  refine CJ.ret ?_
  refine retV Tryz.results150 rfl (.head _) ?_
  rfl
theorem dig_sub (u q y1 r : Nat) (h : q * y1 + r = u) : ((u : Int) - (q : Int) * (y1 : Int)) = (r : Int) := by
  have : ((q * y1 + r : Nat) : Int) = u := by rw [h]
  simp at this; omega
/-- math/bits.Div64 -/
theorem bits_Div64n (hi lo y : Nat) (hhi : hi < y) (hlo : lo < 18446744073709551616) (hy : y < 18446744073709551616) (h0 : 0 < hi) (w : World) :
    Calls Tryz.prog 126 #[.int .u64 (hi : Int), .int .u64 (lo : Int), .int .u64 (y : Int)] w (Ret w (.tuple #[.int .u64 (((hi * 2 ^ 64 + lo) / y : Nat) : Int), .int .u64 (((hi * 2 ^ 64 + lo) % y : Nat) : Int)])) := by
  obtain ⟨hb1, hb2, hb3⟩ := norm_shift y (by omega) hy
  have hbp := (blen_pos y (by omega)).2.2
  obtain ⟨s, hs⟩ : ∃ s, 64 - blen y = s := ⟨_, rfl⟩
  rw [hs] at hb2 hb3
  have hsI : (64 - blenI (y : Int)) = (s : Int) := by unfold blenI; simp; omega
  obtain ⟨Y, hY⟩ : ∃ Y, y * 2 ^ s = Y := ⟨_, rfl⟩
  rw [hY] at hb2 hb3
  obtain ⟨y1, hy1⟩ : ∃ z, Y / 4294967296 = z := ⟨_, rfl⟩
  obtain ⟨y0, hy0⟩ : ∃ z, Y % 4294967296 = z := ⟨_, rfl⟩
  have hYe : y1 * 2 ^ 32 + y0 = Y := by omega
  obtain ⟨hN, hlt⟩ := div64_norm hi lo y s (by omega) hhi hlo
  obtain ⟨u, hu⟩ : ∃ z, hi * 2 ^ s + lo / 2 ^ (64 - s) = z := ⟨_, rfl⟩
  obtain ⟨v, hv⟩ : ∃ z, lo * 2 ^ s % 2 ^ 64 = z := ⟨_, rfl⟩
  rw [hu, hv] at hN
  rw [hu, hY] at hlt
  have hv64 : v < 18446744073709551616 := by rw [← hv]; exact Nat.mod_lt _ (by decide)
  obtain ⟨v1, hv1⟩ : ∃ z, v / 4294967296 = z := ⟨_, rfl⟩
  obtain ⟨v0, hv0⟩ : ∃ z, v % 4294967296 = z := ⟨_, rfl⟩
  have hy1a : 2 ^ 31 ≤ y1 := by omega
  have hv1a : v1 < 2 ^ 32 := by omega
  have hv0a : v0 < 2 ^ 32 := by omega
  have huY : u < y1 * 2 ^ 32 + y0 := by omega
  have d1 := Dig.start hy1a (by omega) (by omega) hv1a huY
  have hhi2 : hi * 2 ^ s ≤ u := by rw [← hu]; exact Nat.le_add_right _ _
  have hq0 : u / y1 * y1 ≤ u := Nat.div_mul_le_self u y1
  refine enter (vs := [_, _, _]) Tryz.func126 rfl Tryz.ntmps126 rfl ?_
  refine CJ.seq ?_
  refine CJ.region ?_
  refine rv rfl rfl rfl (asg_r rfl) ?_
  refine rv rfl rfl rfl (asg_r rfl) ?_
  refine OJ.done ?_
  refine PJ.next ?_
  refine CJ.seq ?_
  refine CJ.seq ?_
  refine CJ.region ?_
  refine rv rfl rfl rfl (mv_r rfl) ?_
  refine rv rfl rfl rfl (RV.re (v' := .bool false) (eqlI_r rfl rfl) (congrArg Value.bool (decide_eq_false (by omega)))) ?_
  refine OJ.done ?_
  refine PJ.next ?_
  refine CJ.condF rfl ?_
  refine CJ.skip ?_
  refine PJ.next ?_
  refine CJ.seq ?_
  refine CJ.seq ?_
  refine CJ.region ?_
  refine rv rfl rfl rfl (mv_r rfl) ?_
  refine rv rfl rfl rfl (mv_r rfl) ?_
  refine rv rfl rfl rfl (RV.re (v' := .bool false) (leq_r rfl rfl) (congrArg Value.bool (decide_eq_false (by omega)))) ?_
  refine OJ.done ?_
  refine PJ.next ?_
  refine CJ.condF rfl ?_
  refine CJ.skip ?_
  refine PJ.next ?_
  refine CJ.seq ?_
  refine CJ.seq ?_
  refine CJ.region ?_
  refine rv rfl rfl rfl (mv_r rfl) ?_
  refine rv rfl rfl rfl (RV.re (v' := .bool false) (eqlI_r rfl rfl) (congrArg Value.bool (decide_eq_false (by omega)))) ?_
  refine OJ.done ?_
  refine PJ.next ?_
  refine CJ.condF rfl ?_
  refine CJ.skip ?_
  refine PJ.next ?_
  refine CJ.seq ?_
  refine CJ.region ?_
  refine rv rfl rfl rfl (mv_r rfl) ?_
  refine call Tryz.call150 rfl rfl rfl (fun W hS => bits_LeadingZeros64 _ (by omega) (by omega) W) ?_
  refine rv rfl rfl rfl (RV.re (v' := .int .u64 (s : Int)) (cvtU_r Tryz.underlying3 Tryz.underlying189 rfl (by omega) (by omega)) (congrArg (Value.int .u64) hsI)) ?_
  refine rv rfl rfl rfl (asg_r rfl) ?_
  refine OJ.done ?_
  refine PJ.next ?_
  refine CJ.seq ?_
  refine CJ.region ?_
  refine rv rfl rfl rfl (mv_r rfl) ?_
  refine rv rfl rfl rfl (mv_r rfl) ?_
  refine rv rfl rfl rfl (RV.re (v' := .int .u64 (Y : Int)) (shlW_r rfl rfl (by omega)) (congrArg (Value.int .u64) ((shl_re y s (by omega) (by omega)).trans (by rw [hY])))) ?_
  refine rv rfl rfl rfl (asg_r rfl) ?_
  refine OJ.done ?_
  refine PJ.next ?_
  refine CJ.seq ?_
  refine CJ.region ?_
  refine rv rfl rfl rfl (mv_r rfl) ?_
  refine rv rfl rfl rfl (RV.re (v' := .int .u64 (y1 : Int)) (shrC_r 32 4294967296 (by decide) rfl rfl rfl) (congrArg (Value.int .u64) (by omega))) ?_
  refine rv rfl rfl rfl (asg_r rfl) ?_
  refine OJ.done ?_
  refine PJ.next ?_
  refine CJ.seq ?_
  refine CJ.region ?_
  refine rv rfl rfl rfl (mv_r rfl) ?_
  refine rv rfl rfl rfl (RV.re (v' := .int .u64 (y0 : Int)) (mskC_r 32 4294967296 (by decide) rfl rfl rfl rfl (by omega) (by omega)) (congrArg (Value.int .u64) (by omega))) ?_
  refine rv rfl rfl rfl (asg_r rfl) ?_
  refine OJ.done ?_
  refine PJ.next ?_
  refine CJ.seq ?_
  refine CJ.region ?_
  refine rv rfl rfl rfl (mv_r rfl) ?_
  refine rv rfl rfl rfl (mv_r rfl) ?_
  refine rv rfl rfl rfl (RV.re (v' := .int .u64 ((hi * 2 ^ s : Nat) : Int)) (shlW_r rfl rfl (by omega)) (congrArg (Value.int .u64) (shl_re hi s (by omega) (by omega)))) ?_
  refine rv rfl rfl rfl (mv_r rfl) ?_
  refine rv rfl rfl rfl (mv_r rfl) ?_
  refine rv rfl rfl rfl (subU_r rfl rfl (by omega) (by omega)) ?_
  refine rv rfl rfl rfl (RV.re (v' := .int .u64 ((lo / 2 ^ (64 - s) : Nat) : Int)) (shrW_r rfl rfl (by omega)) (congrArg (Value.int .u64) (shr_re lo s _ (by omega)))) ?_
  refine rv rfl rfl rfl (RV.re (v' := .int .u64 (u : Int)) (orW_r rfl rfl) (congrArg (Value.int .u64) ((or_re hi _ s (lo_shift lo s (by omega) hlo) (by omega)).trans (by rw [hu])))) ?_
  refine rv rfl rfl rfl (asg_r rfl) ?_
  refine OJ.done ?_
  refine PJ.next ?_
  refine CJ.seq ?_
  refine CJ.region ?_
  refine rv rfl rfl rfl (mv_r rfl) ?_
  refine rv rfl rfl rfl (mv_r rfl) ?_
  refine rv rfl rfl rfl (RV.re (v' := .int .u64 (v : Int)) (shlW_r rfl rfl (by omega)) (congrArg (Value.int .u64) ((shl_mod lo s (by omega)).trans (by rw [hv])))) ?_
  refine rv rfl rfl rfl (asg_r rfl) ?_
  refine OJ.done ?_
  refine PJ.next ?_
  refine CJ.seq ?_
  refine CJ.region ?_
  refine rv rfl rfl rfl (mv_r rfl) ?_
  refine rv rfl rfl rfl (RV.re (v' := .int .u64 (v1 : Int)) (shrC_r 32 4294967296 (by decide) rfl rfl rfl) (congrArg (Value.int .u64) (by omega))) ?_
  refine rv rfl rfl rfl (asg_r rfl) ?_
  refine OJ.done ?_
  refine PJ.next ?_
  refine CJ.seq ?_
  refine CJ.region ?_
  refine rv rfl rfl rfl (mv_r rfl) ?_
  refine rv rfl rfl rfl (RV.re (v' := .int .u64 (v0 : Int)) (mskC_r 32 4294967296 (by decide) rfl rfl rfl rfl (by omega) (by omega)) (congrArg (Value.int .u64) (by omega))) ?_
  refine rv rfl rfl rfl (asg_r rfl) ?_
  refine OJ.done ?_
  refine PJ.next ?_
  refine CJ.seq ?_
  refine CJ.region ?_
  refine rv rfl rfl rfl (mv_r rfl) ?_
  refine rv rfl rfl rfl (mv_r rfl) ?_
  refine rv rfl rfl rfl (RV.re (v' := .int .u64 ((u / y1 : Nat) : Int)) (quoU_r rfl rfl (by omega) (by omega) (by omega)) (congrArg (Value.int .u64) (castdiv u y1))) ?_
  refine rv rfl rfl rfl (asg_r rfl) ?_
  refine OJ.done ?_
  refine PJ.next ?_
  refine CJ.seq ?_
  refine CJ.region ?_
  refine rv rfl rfl rfl (mv_r rfl) ?_
  refine rv rfl rfl rfl (mv_r rfl) ?_
  refine rv rfl rfl rfl (mv_r rfl) ?_
  refine rv rfl rfl rfl (mulU_r rfl rfl (by omega) (by omega)) ?_
  refine rv rfl rfl rfl (RV.re (v' := .int .u64 ((u % y1 : Nat) : Int)) (subU_r rfl rfl (by omega) (by omega)) (congrArg (Value.int .u64) (dig_sub _ _ _ _ d1.eq))) ?_
  refine rv rfl rfl rfl (asg_r rfl) ?_
  refine OJ.done ?_
  refine PJ.next ?_
  refine CJ.seq ?_
  refine CJ.block ?_
  refine CJ.loop (α := Nat × Nat) (fun p => [(2, .int .u64 (Y : Int)), (8, .int .u64 (s : Int)), (9, .int .u64 (y1 : Int)), (10, .int .u64 (y0 : Int)), (11, .int .u64 (u : Int)), (13, .int .u64 (v1 : Int)), (14, .int .u64 (v0 : Int)), (15, .int .u64 (p.1 : Int)), (16, .int .u64 (p.2 : Int))]) (fun p => []) (fun p => [w]) (fun p => Gh.no) (fun p => Dig u y1 y0 v1 p.1 p.2) (fun p => p.1) (u / y1, u % y1) d1 ⟨rfl, rfl, rfl, rfl, rfl, rfl, rfl, rfl, rfl, trivial⟩ rfl rfl (by simp) ?_
  rintro ⟨q, r⟩ hd
  dsimp only
  replace hd : Dig u y1 y0 v1 q r := hd
  have hdl := hd.lt
  have hde := hd.le
  have hqn : (0 : Int) ≤ (q : Int) * (y0 : Int) := Int.mul_nonneg (by omega) (by omega)
  have hqy : (q : Int) ≤ 4294967295 → (q : Int) * (y0 : Int) ≤ 4294967295 * 4294967295 := fun h => (mul_bd (by omega) h (by omega) (by omega)).2
  refine CJ.seq ?_
  refine CJ.seq ?_
  refine CJ.region ?_
  refine rv rfl rfl rfl (mv_r rfl) ?_
  refine rv rfl rfl rfl (geq_r rfl rfl) ?_
  refine rv rfl rfl rfl (mv_r rfl) ?_
  refine OJ.split (t := 69) rfl (fun hc1 => ?_) (fun hc1 => ?_)
  · try simp only [decide_eq_true_eq, decide_eq_false_iff_not, Bool.not_eq_true', Bool.not_eq_false'] at hc1
    refine OJ.off rfl (by decide) rfl ?_
    refine OJ.off rfl (by decide) rfl ?_
    refine OJ.off rfl (by decide) rfl ?_
    refine OJ.off rfl (by decide) rfl ?_
    refine OJ.off rfl (by decide) rfl ?_
    refine OJ.off rfl (by decide) rfl ?_
    refine OJ.off rfl (by decide) rfl ?_
    refine OJ.off rfl (by decide) rfl ?_
    refine rv rfl rfl rfl (pkT_r rfl rfl) ?_
    refine OJ.done ?_
    refine PJ.next ?_
    refine CJ.condT rfl ?_
    refine CJ.skip ?_
    refine PJ.next ?_
    refine CJ.block ?_
    refine CJ.seq ?_
    refine CJ.region ?_
    refine rv rfl rfl rfl (mv_r rfl) ?_
    obtain ⟨hm1, hm2, hm3⟩ := hd.more hy1a huY hv1a (by omega)
    refine rv rfl rfl rfl (RV.re (v' := .int .u64 ((q - 1 : Nat) : Int)) (subU_r rfl rfl (by omega) (by omega)) (congrArg (Value.int .u64) (by omega))) ?_
    refine rv rfl rfl rfl (asg_r rfl) ?_
    refine OJ.done ?_
    refine PJ.next ?_
    refine CJ.seq ?_
    refine CJ.region ?_
    refine rv rfl rfl rfl (mv_r rfl) ?_
    refine rv rfl rfl rfl (mv_r rfl) ?_
    refine rv rfl rfl rfl (RV.re (v' := .int .u64 ((r + y1 : Nat) : Int)) (addU_r rfl rfl (by omega) (by omega)) (congrArg (Value.int .u64) (by omega))) ?_
    refine rv rfl rfl rfl (asg_r rfl) ?_
    refine OJ.done ?_
    refine PJ.next ?_
    refine CJ.seq ?_
    refine CJ.region ?_
    refine rv rfl rfl rfl (mv_r rfl) ?_
    refine rv rfl rfl rfl (geq_r rfl rfl) ?_
    refine OJ.done ?_
    refine PJ.next ?_
    refine CJ.cond rfl (fun hc2 => ?_) (fun hc2 => ?_)
    · try simp only [decide_eq_true_eq, decide_eq_false_iff_not, Bool.not_eq_true', Bool.not_eq_false'] at hc2
      refine CJ.exit ?_
      refine PJ.exMiss rfl ?_
      refine PJ.exThen ?_
      refine PJ.exHit ?_
      refine PJ.next ?_
      refine CJ.seq ?_
      first | (have hD1 := hd.stop hy1a (by omega); obtain ⟨q1, rfl⟩ : ∃ q1, q1 = q := ⟨_, rfl⟩) | (have hD1 := dig_break (by omega) (by omega) hm2 hm3 hy1a (by omega); generalize q - 1 = q1 at *)
      rw [hYe] at hD1
      obtain ⟨r1, hr1⟩ : ∃ z, (u * 2 ^ 32 + v1) % Y = z := ⟨_, rfl⟩
      have hr1Y : r1 < Y := by rw [← hr1]; exact Nat.mod_lt _ (by omega)
      have hz1 : q1 * Y + r1 = u * 2 ^ 32 + v1 := by have := Nat.div_add_mod (u * 2 ^ 32 + v1) Y; rw [hD1, hr1, Nat.mul_comm] at this; exact this
      have d2 := Dig.start hy1a (by omega) (by omega) hv0a (show r1 < y1 * 2 ^ 32 + y0 by omega)
      have hq0b : r1 / y1 * y1 ≤ r1 := Nat.div_mul_le_self r1 y1
      have hur1 : r1 < y1 * 2 ^ 32 + y0 := by omega
      clear hd
      try clear hm1 hm2 hm3
      refine CJ.region ?_
      refine rv rfl rfl rfl (mv_r rfl) ?_
      refine rv rfl rfl rfl (mulW_r rfl rfl) ?_
      refine rv rfl rfl rfl (mv_r rfl) ?_
      refine rv rfl rfl rfl (addW_r rfl rfl) ?_
      refine rv rfl rfl rfl (mv_r rfl) ?_
      refine rv rfl rfl rfl (mv_r rfl) ?_
      refine rv rfl rfl rfl (mulW_r rfl rfl) ?_
      refine rv rfl rfl rfl (RV.re (v' := .int .u64 (r1 : Int)) (subW_r rfl rfl) (congrArg (Value.int .u64) (by simp only [wrap_u64']; omega))) ?_
      refine rv rfl rfl rfl (asg_r rfl) ?_
      refine OJ.done ?_
      refine PJ.next ?_
      refine CJ.seq ?_
      refine CJ.region ?_
      refine rv rfl rfl rfl (mv_r rfl) ?_
      refine rv rfl rfl rfl (mv_r rfl) ?_
      refine rv rfl rfl rfl (RV.re (v' := .int .u64 ((r1 / y1 : Nat) : Int)) (quoU_r rfl rfl (by omega) (by omega) (by omega)) (congrArg (Value.int .u64) (castdiv r1 y1))) ?_
      refine rv rfl rfl rfl (asg_r rfl) ?_
      refine OJ.done ?_
      refine PJ.next ?_
      refine CJ.seq ?_
      refine CJ.region ?_
      refine rv rfl rfl rfl (mv_r rfl) ?_
      refine rv rfl rfl rfl (mv_r rfl) ?_
      refine rv rfl rfl rfl (mv_r rfl) ?_
      refine rv rfl rfl rfl (mulU_r rfl rfl (by omega) (by omega)) ?_
      refine rv rfl rfl rfl (RV.re (v' := .int .u64 ((r1 % y1 : Nat) : Int)) (subU_r rfl rfl (by omega) (by omega)) (congrArg (Value.int .u64) (dig_sub _ _ _ _ d2.eq))) ?_
      refine rv rfl rfl rfl (asg_r rfl) ?_
      refine OJ.done ?_
      refine PJ.next ?_
      refine CJ.seq ?_
      refine CJ.block ?_
      refine CJ.loop (α := Nat × Nat) (fun p => [(2, .int .u64 (Y : Int)), (8, .int .u64 (s : Int)), (9, .int .u64 (y1 : Int)), (10, .int .u64 (y0 : Int)), (17, .int .u64 (r1 : Int)), (14, .int .u64 (v0 : Int)), (15, .int .u64 (q1 : Int)), (18, .int .u64 (p.1 : Int)), (16, .int .u64 (p.2 : Int))]) (fun p => []) (fun p => [w]) (fun p => Gh.no) (fun p => Dig r1 y1 y0 v0 p.1 p.2) (fun p => p.1) (r1 / y1, r1 % y1) d2 ⟨rfl, rfl, rfl, rfl, rfl, rfl, rfl, rfl, rfl, trivial⟩ rfl rfl (by simp) ?_
      rintro ⟨q, r⟩ hd
      dsimp only
      replace hd : Dig r1 y1 y0 v0 q r := hd
      have hdl := hd.lt
      have hde := hd.le
      have hqn : (0 : Int) ≤ (q : Int) * (y0 : Int) := Int.mul_nonneg (by omega) (by omega)
      have hqy : (q : Int) ≤ 4294967295 → (q : Int) * (y0 : Int) ≤ 4294967295 * 4294967295 := fun h => (mul_bd (by omega) h (by omega) (by omega)).2
      refine CJ.seq ?_
      refine CJ.seq ?_
      refine CJ.region ?_
      refine rv rfl rfl rfl (mv_r rfl) ?_
      refine rv rfl rfl rfl (geq_r rfl rfl) ?_
      refine rv rfl rfl rfl (mv_r rfl) ?_
      refine OJ.split (t := 104) rfl (fun hc3 => ?_) (fun hc3 => ?_)
      · try simp only [decide_eq_true_eq, decide_eq_false_iff_not, Bool.not_eq_true', Bool.not_eq_false'] at hc3
        refine OJ.off rfl (by decide) rfl ?_
        refine OJ.off rfl (by decide) rfl ?_
        refine OJ.off rfl (by decide) rfl ?_
        refine OJ.off rfl (by decide) rfl ?_
        refine OJ.off rfl (by decide) rfl ?_
        refine OJ.off rfl (by decide) rfl ?_
        refine OJ.off rfl (by decide) rfl ?_
        refine OJ.off rfl (by decide) rfl ?_
        refine rv rfl rfl rfl (pkT_r rfl rfl) ?_
        refine OJ.done ?_
        refine PJ.next ?_
        refine CJ.condT rfl ?_
        refine CJ.skip ?_
        refine PJ.next ?_
        refine CJ.block ?_
        refine CJ.seq ?_
        refine CJ.region ?_
        refine rv rfl rfl rfl (mv_r rfl) ?_
        obtain ⟨hm1, hm2, hm3⟩ := hd.more hy1a hur1 hv0a (by omega)
        refine rv rfl rfl rfl (RV.re (v' := .int .u64 ((q - 1 : Nat) : Int)) (subU_r rfl rfl (by omega) (by omega)) (congrArg (Value.int .u64) (by omega))) ?_
        refine rv rfl rfl rfl (asg_r rfl) ?_
        refine OJ.done ?_
        refine PJ.next ?_
        refine CJ.seq ?_
        refine CJ.region ?_
        refine rv rfl rfl rfl (mv_r rfl) ?_
        refine rv rfl rfl rfl (mv_r rfl) ?_
        refine rv rfl rfl rfl (RV.re (v' := .int .u64 ((r + y1 : Nat) : Int)) (addU_r rfl rfl (by omega) (by omega)) (congrArg (Value.int .u64) (by omega))) ?_
        refine rv rfl rfl rfl (asg_r rfl) ?_
        refine OJ.done ?_
        refine PJ.next ?_
        refine CJ.seq ?_
        refine CJ.region ?_
        refine rv rfl rfl rfl (mv_r rfl) ?_
        refine rv rfl rfl rfl (geq_r rfl rfl) ?_
        refine OJ.done ?_
        refine PJ.next ?_
        refine CJ.cond rfl (fun hc4 => ?_) (fun hc4 => ?_)
        · try simp only [decide_eq_true_eq, decide_eq_false_iff_not, Bool.not_eq_true', Bool.not_eq_false'] at hc4
          refine CJ.exit ?_
          refine PJ.exMiss rfl ?_
          refine PJ.exThen ?_
          refine PJ.exHit ?_
          refine PJ.next ?_
          refine CJ.seq ?_
          first | (have hD0 := hd.stop hy1a (by omega); obtain ⟨q2, rfl⟩ : ∃ q2, q2 = q := ⟨_, rfl⟩) | (have hD0 := dig_break (by omega) (by omega) hm2 hm3 hy1a (by omega); generalize q - 1 = q2 at *)
          rw [hYe] at hD0
          obtain ⟨r0, hr0⟩ : ∃ z, (r1 * 2 ^ 32 + v0) % Y = z := ⟨_, rfl⟩
          have hr0Y : r0 < Y := by rw [← hr0]; exact Nat.mod_lt _ (by omega)
          have hz0 : q2 * Y + r0 = r1 * 2 ^ 32 + v0 := by have := Nat.div_add_mod (r1 * 2 ^ 32 + v0) Y; rw [hD0, hr0, Nat.mul_comm] at this; exact this
          have hall : u * 2 ^ 64 + v = (q1 * 2 ^ 32 + q2) * Y + r0 := by have := div64_two u v Y r1 (by rw [← hr1, ← hv1]); rw [show v / 2 ^ 32 = v1 from hv1, show v % 2 ^ 32 = v0 from hv0, hD1, hD0, hr0] at this; exact this
          obtain ⟨hf1, hf2⟩ := div64_fin hi lo y s (q1 * 2 ^ 32 + q2) r0 (by rw [hY]; exact hr0Y) (by rw [hY, ← hN]; exact hall)
          have hq1s := Dig.small (un := v1) hy1a huY hv1a
          rw [hYe, hD1] at hq1s
          have hq2s := Dig.small (un := v0) hy1a hur1 hv0a
          rw [hYe, hD0] at hq2s
          refine CJ.region ?_
          refine rv rfl rfl rfl (mv_r rfl) ?_
          refine rv rfl rfl rfl (mulW_r rfl rfl) ?_
          refine rv rfl rfl rfl (mv_r rfl) ?_
          refine rv rfl rfl rfl (addW_r rfl rfl) ?_
          refine rv rfl rfl rfl (mv_r rfl) ?_
          refine rv rfl rfl rfl (mulW_r rfl rfl) ?_
          refine rv rfl rfl rfl (mv_r rfl) ?_
          refine rv rfl rfl rfl (addW_r rfl rfl) ?_
          refine rv rfl rfl rfl (mv_r rfl) ?_
          refine rv rfl rfl rfl (mv_r rfl) ?_
          refine rv rfl rfl rfl (mulW_r rfl rfl) ?_
          refine rv rfl rfl rfl (RV.re (v' := .int .u64 (r0 : Int)) (subW_r rfl rfl) (congrArg (Value.int .u64) (by simp only [wrap_u64']; omega))) ?_
          refine rv rfl rfl rfl (mv_r rfl) ?_
          refine rv rfl rfl rfl (RV.re (v' := .int .u64 ((r0 / 2 ^ s : Nat) : Int)) (shrW_r rfl rfl (by omega)) (congrArg (Value.int .u64) (shr_re' r0 s (by omega)))) ?_
          refine rv rfl rfl rfl (asg_r rfl) ?_
          refine rv rfl rfl rfl (asg_r rfl) ?_
          refine OJ.done ?_
          refine PJ.next ?_
          refine CJ.ret ?_
          refine retV2 Tryz.results126 rfl rfl (.head _) ?_ ?_
          · rw [hf1]; exact congrArg (Value.int .u64) (by simp only [wrap_u64']; omega)
          · rw [hf2]
        · try simp only [decide_eq_true_eq, decide_eq_false_iff_not, Bool.not_eq_true', Bool.not_eq_false'] at hc4
          refine CJ.skip ?_
          refine PJ.norBlock ?_
          refine PJ.again (q - 1, r + y1) ⟨hm2, by omega, hm3, by omega⟩ (by show q - 1 < q; omega) ⟨rfl, rfl, rfl, rfl, rfl, rfl, rfl, rfl, rfl, trivial⟩ rfl rfl (by simp)
      · try simp only [decide_eq_true_eq, decide_eq_false_iff_not, Bool.not_eq_true', Bool.not_eq_false'] at hc3
        refine rv rfl rfl rfl (mv_r rfl) ?_
        refine rv rfl rfl rfl (mv_r rfl) ?_
        refine rv rfl rfl rfl (mulU_r rfl rfl (by omega) (by have := hqy (by omega); omega)) ?_
        refine rv rfl rfl rfl (mv_r rfl) ?_
        refine rv rfl rfl rfl (mulU_r rfl rfl (by omega) (by omega)) ?_
        refine rv rfl rfl rfl (mv_r rfl) ?_
        refine rv rfl rfl rfl (addU_r rfl rfl (by omega) (by omega)) ?_
        refine rv rfl rfl rfl (gtr_r rfl rfl) ?_
        refine rv rfl rfl rfl (pkF_r rfl rfl) ?_
        refine OJ.done ?_
        refine PJ.next ?_
        refine CJ.cond rfl (fun hc5 => ?_) (fun hc5 => ?_)
        · try simp only [decide_eq_true_eq, decide_eq_false_iff_not, Bool.not_eq_true', Bool.not_eq_false'] at hc5
          refine CJ.skip ?_
          refine PJ.next ?_
          refine CJ.block ?_
          refine CJ.seq ?_
          refine CJ.region ?_
          refine rv rfl rfl rfl (mv_r rfl) ?_
          obtain ⟨hm1, hm2, hm3⟩ := hd.more hy1a hur1 hv0a (by omega)
          refine rv rfl rfl rfl (RV.re (v' := .int .u64 ((q - 1 : Nat) : Int)) (subU_r rfl rfl (by omega) (by omega)) (congrArg (Value.int .u64) (by omega))) ?_
          refine rv rfl rfl rfl (asg_r rfl) ?_
          refine OJ.done ?_
          refine PJ.next ?_
          refine CJ.seq ?_
          refine CJ.region ?_
          refine rv rfl rfl rfl (mv_r rfl) ?_
          refine rv rfl rfl rfl (mv_r rfl) ?_
          refine rv rfl rfl rfl (RV.re (v' := .int .u64 ((r + y1 : Nat) : Int)) (addU_r rfl rfl (by omega) (by omega)) (congrArg (Value.int .u64) (by omega))) ?_
          refine rv rfl rfl rfl (asg_r rfl) ?_
          refine OJ.done ?_
          refine PJ.next ?_
          refine CJ.seq ?_
          refine CJ.region ?_
          refine rv rfl rfl rfl (mv_r rfl) ?_
          refine rv rfl rfl rfl (geq_r rfl rfl) ?_
          refine OJ.done ?_
          refine PJ.next ?_
          refine CJ.cond rfl (fun hc6 => ?_) (fun hc6 => ?_)
          · try simp only [decide_eq_true_eq, decide_eq_false_iff_not, Bool.not_eq_true', Bool.not_eq_false'] at hc6
            refine CJ.exit ?_
            refine PJ.exMiss rfl ?_
            refine PJ.exThen ?_
            refine PJ.exHit ?_
            refine PJ.next ?_
            refine CJ.seq ?_
            first | (have hD0 := hd.stop hy1a (by omega); obtain ⟨q2, rfl⟩ : ∃ q2, q2 = q := ⟨_, rfl⟩) | (have hD0 := dig_break (by omega) (by omega) hm2 hm3 hy1a (by omega); generalize q - 1 = q2 at *)
            rw [hYe] at hD0
            obtain ⟨r0, hr0⟩ : ∃ z, (r1 * 2 ^ 32 + v0) % Y = z := ⟨_, rfl⟩
            have hr0Y : r0 < Y := by rw [← hr0]; exact Nat.mod_lt _ (by omega)
            have hz0 : q2 * Y + r0 = r1 * 2 ^ 32 + v0 := by have := Nat.div_add_mod (r1 * 2 ^ 32 + v0) Y; rw [hD0, hr0, Nat.mul_comm] at this; exact this
            have hall : u * 2 ^ 64 + v = (q1 * 2 ^ 32 + q2) * Y + r0 := by have := div64_two u v Y r1 (by rw [← hr1, ← hv1]); rw [show v / 2 ^ 32 = v1 from hv1, show v % 2 ^ 32 = v0 from hv0, hD1, hD0, hr0] at this; exact this
            obtain ⟨hf1, hf2⟩ := div64_fin hi lo y s (q1 * 2 ^ 32 + q2) r0 (by rw [hY]; exact hr0Y) (by rw [hY, ← hN]; exact hall)
            have hq1s := Dig.small (un := v1) hy1a huY hv1a
            rw [hYe, hD1] at hq1s
            have hq2s := Dig.small (un := v0) hy1a hur1 hv0a
            rw [hYe, hD0] at hq2s
            refine CJ.region ?_
            refine rv rfl rfl rfl (mv_r rfl) ?_
            refine rv rfl rfl rfl (mulW_r rfl rfl) ?_
            refine rv rfl rfl rfl (mv_r rfl) ?_
            refine rv rfl rfl rfl (addW_r rfl rfl) ?_
            refine rv rfl rfl rfl (mv_r rfl) ?_
            refine rv rfl rfl rfl (mulW_r rfl rfl) ?_
            refine rv rfl rfl rfl (mv_r rfl) ?_
            refine rv rfl rfl rfl (addW_r rfl rfl) ?_
            refine rv rfl rfl rfl (mv_r rfl) ?_
            refine rv rfl rfl rfl (mv_r rfl) ?_
            refine rv rfl rfl rfl (mulW_r rfl rfl) ?_
            refine rv rfl rfl rfl (RV.re (v' := .int .u64 (r0 : Int)) (subW_r rfl rfl) (congrArg (Value.int .u64) (by simp only [wrap_u64']; omega))) ?_
            refine rv rfl rfl rfl (mv_r rfl) ?_
            refine rv rfl rfl rfl (RV.re (v' := .int .u64 ((r0 / 2 ^ s : Nat) : Int)) (shrW_r rfl rfl (by omega)) (congrArg (Value.int .u64) (shr_re' r0 s (by omega)))) ?_
            refine rv rfl rfl rfl (asg_r rfl) ?_
            refine rv rfl rfl rfl (asg_r rfl) ?_
            refine OJ.done ?_
            refine PJ.next ?_
            refine CJ.ret ?_
            refine retV2 Tryz.results126 rfl rfl (.head _) ?_ ?_
            · rw [hf1]; exact congrArg (Value.int .u64) (by simp only [wrap_u64']; omega)
            · rw [hf2]
          · try simp only [decide_eq_true_eq, decide_eq_false_iff_not, Bool.not_eq_true', Bool.not_eq_false'] at hc6
            refine CJ.skip ?_
            refine PJ.norBlock ?_
            refine PJ.again (q - 1, r + y1) ⟨hm2, by omega, hm3, by omega⟩ (by show q - 1 < q; omega) ⟨rfl, rfl, rfl, rfl, rfl, rfl, rfl, rfl, rfl, trivial⟩ rfl rfl (by simp)
        · try simp only [decide_eq_true_eq, decide_eq_false_iff_not, Bool.not_eq_true', Bool.not_eq_false'] at hc5
          refine CJ.exit ?_
          refine PJ.exThen ?_
          refine PJ.exThen ?_
          refine PJ.exHit ?_
          refine PJ.next ?_
          refine CJ.seq ?_
          first | (have hD0 := hd.stop hy1a (by omega); obtain ⟨q2, rfl⟩ : ∃ q2, q2 = q := ⟨_, rfl⟩) | (have hD0 := dig_break (by omega) (by omega) hm2 hm3 hy1a (by omega); generalize q - 1 = q2 at *)
          rw [hYe] at hD0
          obtain ⟨r0, hr0⟩ : ∃ z, (r1 * 2 ^ 32 + v0) % Y = z := ⟨_, rfl⟩
          have hr0Y : r0 < Y := by rw [← hr0]; exact Nat.mod_lt _ (by omega)
          have hz0 : q2 * Y + r0 = r1 * 2 ^ 32 + v0 := by have := Nat.div_add_mod (r1 * 2 ^ 32 + v0) Y; rw [hD0, hr0, Nat.mul_comm] at this; exact this
          have hall : u * 2 ^ 64 + v = (q1 * 2 ^ 32 + q2) * Y + r0 := by have := div64_two u v Y r1 (by rw [← hr1, ← hv1]); rw [show v / 2 ^ 32 = v1 from hv1, show v % 2 ^ 32 = v0 from hv0, hD1, hD0, hr0] at this; exact this
          obtain ⟨hf1, hf2⟩ := div64_fin hi lo y s (q1 * 2 ^ 32 + q2) r0 (by rw [hY]; exact hr0Y) (by rw [hY, ← hN]; exact hall)
          have hq1s := Dig.small (un := v1) hy1a huY hv1a
          rw [hYe, hD1] at hq1s
          have hq2s := Dig.small (un := v0) hy1a hur1 hv0a
          rw [hYe, hD0] at hq2s
          refine CJ.region ?_
          refine rv rfl rfl rfl (mv_r rfl) ?_
          refine rv rfl rfl rfl (mulW_r rfl rfl) ?_
          refine rv rfl rfl rfl (mv_r rfl) ?_
          refine rv rfl rfl rfl (addW_r rfl rfl) ?_
          refine rv rfl rfl rfl (mv_r rfl) ?_
          refine rv rfl rfl rfl (mulW_r rfl rfl) ?_
          refine rv rfl rfl rfl (mv_r rfl) ?_
          refine rv rfl rfl rfl (addW_r rfl rfl) ?_
          refine rv rfl rfl rfl (mv_r rfl) ?_
          refine rv rfl rfl rfl (mv_r rfl) ?_
          refine rv rfl rfl rfl (mulW_r rfl rfl) ?_
          refine rv rfl rfl rfl (RV.re (v' := .int .u64 (r0 : Int)) (subW_r rfl rfl) (congrArg (Value.int .u64) (by simp only [wrap_u64']; omega))) ?_
          refine rv rfl rfl rfl (mv_r rfl) ?_
          refine rv rfl rfl rfl (RV.re (v' := .int .u64 ((r0 / 2 ^ s : Nat) : Int)) (shrW_r rfl rfl (by omega)) (congrArg (Value.int .u64) (shr_re' r0 s (by omega)))) ?_
          refine rv rfl rfl rfl (asg_r rfl) ?_
          refine rv rfl rfl rfl (asg_r rfl) ?_
          refine OJ.done ?_
          refine PJ.next ?_
          refine CJ.ret ?_
          refine retV2 Tryz.results126 rfl rfl (.head _) ?_ ?_
          · rw [hf1]; exact congrArg (Value.int .u64) (by simp only [wrap_u64']; omega)
          · rw [hf2]
    · try simp only [decide_eq_true_eq, decide_eq_false_iff_not, Bool.not_eq_true', Bool.not_eq_false'] at hc2
      refine CJ.skip ?_
      refine PJ.norBlock ?_
      refine PJ.again (q - 1, r + y1) ⟨hm2, by omega, hm3, by omega⟩ (by show q - 1 < q; omega) ⟨rfl, rfl, rfl, rfl, rfl, rfl, rfl, rfl, rfl, trivial⟩ rfl rfl (by simp)
  · try simp only [decide_eq_true_eq, decide_eq_false_iff_not, Bool.not_eq_true', Bool.not_eq_false'] at hc1
    refine rv rfl rfl rfl (mv_r rfl) ?_
    refine rv rfl rfl rfl (mv_r rfl) ?_
    refine rv rfl rfl rfl (mulU_r rfl rfl (by omega) (by have := hqy (by omega); omega)) ?_
    refine rv rfl rfl rfl (mv_r rfl) ?_
    refine rv rfl rfl rfl (mulU_r rfl rfl (by omega) (by omega)) ?_
    refine rv rfl rfl rfl (mv_r rfl) ?_
    refine rv rfl rfl rfl (addU_r rfl rfl (by omega) (by omega)) ?_
    refine rv rfl rfl rfl (gtr_r rfl rfl) ?_
    refine rv rfl rfl rfl (pkF_r rfl rfl) ?_
    refine OJ.done ?_
    refine PJ.next ?_
    refine CJ.cond rfl (fun hc7 => ?_) (fun hc7 => ?_)
    · try simp only [decide_eq_true_eq, decide_eq_false_iff_not, Bool.not_eq_true', Bool.not_eq_false'] at hc7
      refine CJ.skip ?_
      refine PJ.next ?_
      refine CJ.block ?_
      refine CJ.seq ?_
      refine CJ.region ?_
      refine rv rfl rfl rfl (mv_r rfl) ?_
      obtain ⟨hm1, hm2, hm3⟩ := hd.more hy1a huY hv1a (by omega)
      refine rv rfl rfl rfl (RV.re (v' := .int .u64 ((q - 1 : Nat) : Int)) (subU_r rfl rfl (by omega) (by omega)) (congrArg (Value.int .u64) (by omega))) ?_
      refine rv rfl rfl rfl (asg_r rfl) ?_
      refine OJ.done ?_
      refine PJ.next ?_
      refine CJ.seq ?_
      refine CJ.region ?_
      refine rv rfl rfl rfl (mv_r rfl) ?_
      refine rv rfl rfl rfl (mv_r rfl) ?_
      refine rv rfl rfl rfl (RV.re (v' := .int .u64 ((r + y1 : Nat) : Int)) (addU_r rfl rfl (by omega) (by omega)) (congrArg (Value.int .u64) (by omega))) ?_
      refine rv rfl rfl rfl (asg_r rfl) ?_
      refine OJ.done ?_
      refine PJ.next ?_
      refine CJ.seq ?_
      refine CJ.region ?_
      refine rv rfl rfl rfl (mv_r rfl) ?_
      refine rv rfl rfl rfl (geq_r rfl rfl) ?_
      refine OJ.done ?_
      refine PJ.next ?_
      refine CJ.cond rfl (fun hc8 => ?_) (fun hc8 => ?_)
      · try simp only [decide_eq_true_eq, decide_eq_false_iff_not, Bool.not_eq_true', Bool.not_eq_false'] at hc8
        refine CJ.exit ?_
        refine PJ.exMiss rfl ?_
        refine PJ.exThen ?_
        refine PJ.exHit ?_
        refine PJ.next ?_
        refine CJ.seq ?_
        first | (have hD1 := hd.stop hy1a (by omega); obtain ⟨q1, rfl⟩ : ∃ q1, q1 = q := ⟨_, rfl⟩) | (have hD1 := dig_break (by omega) (by omega) hm2 hm3 hy1a (by omega); generalize q - 1 = q1 at *)
        rw [hYe] at hD1
        obtain ⟨r1, hr1⟩ : ∃ z, (u * 2 ^ 32 + v1) % Y = z := ⟨_, rfl⟩
        have hr1Y : r1 < Y := by rw [← hr1]; exact Nat.mod_lt _ (by omega)
        have hz1 : q1 * Y + r1 = u * 2 ^ 32 + v1 := by have := Nat.div_add_mod (u * 2 ^ 32 + v1) Y; rw [hD1, hr1, Nat.mul_comm] at this; exact this
        have d2 := Dig.start hy1a (by omega) (by omega) hv0a (show r1 < y1 * 2 ^ 32 + y0 by omega)
        have hq0b : r1 / y1 * y1 ≤ r1 := Nat.div_mul_le_self r1 y1
        have hur1 : r1 < y1 * 2 ^ 32 + y0 := by omega
        clear hd
        try clear hm1 hm2 hm3
        refine CJ.region ?_
        refine rv rfl rfl rfl (mv_r rfl) ?_
        refine rv rfl rfl rfl (mulW_r rfl rfl) ?_
        refine rv rfl rfl rfl (mv_r rfl) ?_
        refine rv rfl rfl rfl (addW_r rfl rfl) ?_
        refine rv rfl rfl rfl (mv_r rfl) ?_
        refine rv rfl rfl rfl (mv_r rfl) ?_
        refine rv rfl rfl rfl (mulW_r rfl rfl) ?_
        refine rv rfl rfl rfl (RV.re (v' := .int .u64 (r1 : Int)) (subW_r rfl rfl) (congrArg (Value.int .u64) (by simp only [wrap_u64']; omega))) ?_
        refine rv rfl rfl rfl (asg_r rfl) ?_
        refine OJ.done ?_
        refine PJ.next ?_
        refine CJ.seq ?_
        refine CJ.region ?_
        refine rv rfl rfl rfl (mv_r rfl) ?_
        refine rv rfl rfl rfl (mv_r rfl) ?_
        refine rv rfl rfl rfl (RV.re (v' := .int .u64 ((r1 / y1 : Nat) : Int)) (quoU_r rfl rfl (by omega) (by omega) (by omega)) (congrArg (Value.int .u64) (castdiv r1 y1))) ?_
        refine rv rfl rfl rfl (asg_r rfl) ?_
        refine OJ.done ?_
        refine PJ.next ?_
        refine CJ.seq ?_
        refine CJ.region ?_
        refine rv rfl rfl rfl (mv_r rfl) ?_
        refine rv rfl rfl rfl (mv_r rfl) ?_
        refine rv rfl rfl rfl (mv_r rfl) ?_
        refine rv rfl rfl rfl (mulU_r rfl rfl (by omega) (by omega)) ?_
        refine rv rfl rfl rfl (RV.re (v' := .int .u64 ((r1 % y1 : Nat) : Int)) (subU_r rfl rfl (by omega) (by omega)) (congrArg (Value.int .u64) (dig_sub _ _ _ _ d2.eq))) ?_
        refine rv rfl rfl rfl (asg_r rfl) ?_
        refine OJ.done ?_
        refine PJ.next ?_
        refine CJ.seq ?_
        refine CJ.block ?_
        refine CJ.loop (α := Nat × Nat) (fun p => [(2, .int .u64 (Y : Int)), (8, .int .u64 (s : Int)), (9, .int .u64 (y1 : Int)), (10, .int .u64 (y0 : Int)), (17, .int .u64 (r1 : Int)), (14, .int .u64 (v0 : Int)), (15, .int .u64 (q1 : Int)), (18, .int .u64 (p.1 : Int)), (16, .int .u64 (p.2 : Int))]) (fun p => []) (fun p => [w]) (fun p => Gh.no) (fun p => Dig r1 y1 y0 v0 p.1 p.2) (fun p => p.1) (r1 / y1, r1 % y1) d2 ⟨rfl, rfl, rfl, rfl, rfl, rfl, rfl, rfl, rfl, trivial⟩ rfl rfl (by simp) ?_
        rintro ⟨q, r⟩ hd
        dsimp only
        replace hd : Dig r1 y1 y0 v0 q r := hd
        have hdl := hd.lt
        have hde := hd.le
        have hqn : (0 : Int) ≤ (q : Int) * (y0 : Int) := Int.mul_nonneg (by omega) (by omega)
        have hqy : (q : Int) ≤ 4294967295 → (q : Int) * (y0 : Int) ≤ 4294967295 * 4294967295 := fun h => (mul_bd (by omega) h (by omega) (by omega)).2
        refine CJ.seq ?_
        refine CJ.seq ?_
        refine CJ.region ?_
        refine rv rfl rfl rfl (mv_r rfl) ?_
        refine rv rfl rfl rfl (geq_r rfl rfl) ?_
        refine rv rfl rfl rfl (mv_r rfl) ?_
        refine OJ.split (t := 104) rfl (fun hc9 => ?_) (fun hc9 => ?_)
        · try simp only [decide_eq_true_eq, decide_eq_false_iff_not, Bool.not_eq_true', Bool.not_eq_false'] at hc9
          refine OJ.off rfl (by decide) rfl ?_
          refine OJ.off rfl (by decide) rfl ?_
          refine OJ.off rfl (by decide) rfl ?_
          refine OJ.off rfl (by decide) rfl ?_
          refine OJ.off rfl (by decide) rfl ?_
          refine OJ.off rfl (by decide) rfl ?_
          refine OJ.off rfl (by decide) rfl ?_
          refine OJ.off rfl (by decide) rfl ?_
          refine rv rfl rfl rfl (pkT_r rfl rfl) ?_
          refine OJ.done ?_
          refine PJ.next ?_
          refine CJ.condT rfl ?_
          refine CJ.skip ?_
          refine PJ.next ?_
          refine CJ.block ?_
          refine CJ.seq ?_
          refine CJ.region ?_
          refine rv rfl rfl rfl (mv_r rfl) ?_
          obtain ⟨hm1, hm2, hm3⟩ := hd.more hy1a hur1 hv0a (by omega)
          refine rv rfl rfl rfl (RV.re (v' := .int .u64 ((q - 1 : Nat) : Int)) (subU_r rfl rfl (by omega) (by omega)) (congrArg (Value.int .u64) (by omega))) ?_
          refine rv rfl rfl rfl (asg_r rfl) ?_
          refine OJ.done ?_
          refine PJ.next ?_
          refine CJ.seq ?_
          refine CJ.region ?_
          refine rv rfl rfl rfl (mv_r rfl) ?_
          refine rv rfl rfl rfl (mv_r rfl) ?_
          refine rv rfl rfl rfl (RV.re (v' := .int .u64 ((r + y1 : Nat) : Int)) (addU_r rfl rfl (by omega) (by omega)) (congrArg (Value.int .u64) (by omega))) ?_
          refine rv rfl rfl rfl (asg_r rfl) ?_
          refine OJ.done ?_
          refine PJ.next ?_
          refine CJ.seq ?_
          refine CJ.region ?_
          refine rv rfl rfl rfl (mv_r rfl) ?_
          refine rv rfl rfl rfl (geq_r rfl rfl) ?_
          refine OJ.done ?_
          refine PJ.next ?_
          refine CJ.cond rfl (fun hc10 => ?_) (fun hc10 => ?_)
          · try simp only [decide_eq_true_eq, decide_eq_false_iff_not, Bool.not_eq_true', Bool.not_eq_false'] at hc10
            refine CJ.exit ?_
            refine PJ.exMiss rfl ?_
            refine PJ.exThen ?_
            refine PJ.exHit ?_
            refine PJ.next ?_
            refine CJ.seq ?_
            first | (have hD0 := hd.stop hy1a (by omega); obtain ⟨q2, rfl⟩ : ∃ q2, q2 = q := ⟨_, rfl⟩) | (have hD0 := dig_break (by omega) (by omega) hm2 hm3 hy1a (by omega); generalize q - 1 = q2 at *)
            rw [hYe] at hD0
            obtain ⟨r0, hr0⟩ : ∃ z, (r1 * 2 ^ 32 + v0) % Y = z := ⟨_, rfl⟩
            have hr0Y : r0 < Y := by rw [← hr0]; exact Nat.mod_lt _ (by omega)
            have hz0 : q2 * Y + r0 = r1 * 2 ^ 32 + v0 := by have := Nat.div_add_mod (r1 * 2 ^ 32 + v0) Y; rw [hD0, hr0, Nat.mul_comm] at this; exact this
            have hall : u * 2 ^ 64 + v = (q1 * 2 ^ 32 + q2) * Y + r0 := by have := div64_two u v Y r1 (by rw [← hr1, ← hv1]); rw [show v / 2 ^ 32 = v1 from hv1, show v % 2 ^ 32 = v0 from hv0, hD1, hD0, hr0] at this; exact this
            obtain ⟨hf1, hf2⟩ := div64_fin hi lo y s (q1 * 2 ^ 32 + q2) r0 (by rw [hY]; exact hr0Y) (by rw [hY, ← hN]; exact hall)
            have hq1s := Dig.small (un := v1) hy1a huY hv1a
            rw [hYe, hD1] at hq1s
            have hq2s := Dig.small (un := v0) hy1a hur1 hv0a
            rw [hYe, hD0] at hq2s
            refine CJ.region ?_
            refine rv rfl rfl rfl (mv_r rfl) ?_
            refine rv rfl rfl rfl (mulW_r rfl rfl) ?_
            refine rv rfl rfl rfl (mv_r rfl) ?_
            refine rv rfl rfl rfl (addW_r rfl rfl) ?_
            refine rv rfl rfl rfl (mv_r rfl) ?_
            refine rv rfl rfl rfl (mulW_r rfl rfl) ?_
            refine rv rfl rfl rfl (mv_r rfl) ?_
            refine rv rfl rfl rfl (addW_r rfl rfl) ?_
            refine rv rfl rfl rfl (mv_r rfl) ?_
            refine rv rfl rfl rfl (mv_r rfl) ?_
            refine rv rfl rfl rfl (mulW_r rfl rfl) ?_
            refine rv rfl rfl rfl (RV.re (v' := .int .u64 (r0 : Int)) (subW_r rfl rfl) (congrArg (Value.int .u64) (by simp only [wrap_u64']; omega))) ?_
            refine rv rfl rfl rfl (mv_r rfl) ?_
            refine rv rfl rfl rfl (RV.re (v' := .int .u64 ((r0 / 2 ^ s : Nat) : Int)) (shrW_r rfl rfl (by omega)) (congrArg (Value.int .u64) (shr_re' r0 s (by omega)))) ?_
            refine rv rfl rfl rfl (asg_r rfl) ?_
            refine rv rfl rfl rfl (asg_r rfl) ?_
            refine OJ.done ?_
            refine PJ.next ?_
            refine CJ.ret ?_
            refine retV2 Tryz.results126 rfl rfl (.head _) ?_ ?_
            · rw [hf1]; exact congrArg (Value.int .u64) (by simp only [wrap_u64']; omega)
            · rw [hf2]
          · try simp only [decide_eq_true_eq, decide_eq_false_iff_not, Bool.not_eq_true', Bool.not_eq_false'] at hc10
            refine CJ.skip ?_
            refine PJ.norBlock ?_
            refine PJ.again (q - 1, r + y1) ⟨hm2, by omega, hm3, by omega⟩ (by show q - 1 < q; omega) ⟨rfl, rfl, rfl, rfl, rfl, rfl, rfl, rfl, rfl, trivial⟩ rfl rfl (by simp)
        · try simp only [decide_eq_true_eq, decide_eq_false_iff_not, Bool.not_eq_true', Bool.not_eq_false'] at hc9
          refine rv rfl rfl rfl (mv_r rfl) ?_
          refine rv rfl rfl rfl (mv_r rfl) ?_
          refine rv rfl rfl rfl (mulU_r rfl rfl (by omega) (by have := hqy (by omega); omega)) ?_
          refine rv rfl rfl rfl (mv_r rfl) ?_
          refine rv rfl rfl rfl (mulU_r rfl rfl (by omega) (by omega)) ?_
          refine rv rfl rfl rfl (mv_r rfl) ?_
          refine rv rfl rfl rfl (addU_r rfl rfl (by omega) (by omega)) ?_
          refine rv rfl rfl rfl (gtr_r rfl rfl) ?_
          refine rv rfl rfl rfl (pkF_r rfl rfl) ?_
          refine OJ.done ?_
          refine PJ.next ?_
          refine CJ.cond rfl (fun hc11 => ?_) (fun hc11 => ?_)
          · try simp only [decide_eq_true_eq, decide_eq_false_iff_not, Bool.not_eq_true', Bool.not_eq_false'] at hc11
            refine CJ.skip ?_
            refine PJ.next ?_
            refine CJ.block ?_
            refine CJ.seq ?_
            refine CJ.region ?_
            refine rv rfl rfl rfl (mv_r rfl) ?_
            obtain ⟨hm1, hm2, hm3⟩ := hd.more hy1a hur1 hv0a (by omega)
            refine rv rfl rfl rfl (RV.re (v' := .int .u64 ((q - 1 : Nat) : Int)) (subU_r rfl rfl (by omega) (by omega)) (congrArg (Value.int .u64) (by omega))) ?_
            refine rv rfl rfl rfl (asg_r rfl) ?_
            refine OJ.done ?_
            refine PJ.next ?_
            refine CJ.seq ?_
            refine CJ.region ?_
            refine rv rfl rfl rfl (mv_r rfl) ?_
            refine rv rfl rfl rfl (mv_r rfl) ?_
            refine rv rfl rfl rfl (RV.re (v' := .int .u64 ((r + y1 : Nat) : Int)) (addU_r rfl rfl (by omega) (by omega)) (congrArg (Value.int .u64) (by omega))) ?_
            refine rv rfl rfl rfl (asg_r rfl) ?_
            refine OJ.done ?_
            refine PJ.next ?_
            refine CJ.seq ?_
            refine CJ.region ?_
            refine rv rfl rfl rfl (mv_r rfl) ?_
            refine rv rfl rfl rfl (geq_r rfl rfl) ?_
            refine OJ.done ?_
            refine PJ.next ?_
            refine CJ.cond rfl (fun hc12 => ?_) (fun hc12 => ?_)
            · try simp only [decide_eq_true_eq, decide_eq_false_iff_not, Bool.not_eq_true', Bool.not_eq_false'] at hc12
              refine CJ.exit ?_
              refine PJ.exMiss rfl ?_
              refine PJ.exThen ?_
              refine PJ.exHit ?_
              refine PJ.next ?_
              refine CJ.seq ?_
              first | (have hD0 := hd.stop hy1a (by omega); obtain ⟨q2, rfl⟩ : ∃ q2, q2 = q := ⟨_, rfl⟩) | (have hD0 := dig_break (by omega) (by omega) hm2 hm3 hy1a (by omega); generalize q - 1 = q2 at *)
              rw [hYe] at hD0
              obtain ⟨r0, hr0⟩ : ∃ z, (r1 * 2 ^ 32 + v0) % Y = z := ⟨_, rfl⟩
              have hr0Y : r0 < Y := by rw [← hr0]; exact Nat.mod_lt _ (by omega)
              have hz0 : q2 * Y + r0 = r1 * 2 ^ 32 + v0 := by have := Nat.div_add_mod (r1 * 2 ^ 32 + v0) Y; rw [hD0, hr0, Nat.mul_comm] at this; exact this
              have hall : u * 2 ^ 64 + v = (q1 * 2 ^ 32 + q2) * Y + r0 := by have := div64_two u v Y r1 (by rw [← hr1, ← hv1]); rw [show v / 2 ^ 32 = v1 from hv1, show v % 2 ^ 32 = v0 from hv0, hD1, hD0, hr0] at this; exact this
              obtain ⟨hf1, hf2⟩ := div64_fin hi lo y s (q1 * 2 ^ 32 + q2) r0 (by rw [hY]; exact hr0Y) (by rw [hY, ← hN]; exact hall)
              have hq1s := Dig.small (un := v1) hy1a huY hv1a
              rw [hYe, hD1] at hq1s
              have hq2s := Dig.small (un := v0) hy1a hur1 hv0a
              rw [hYe, hD0] at hq2s
              refine CJ.region ?_
              refine rv rfl rfl rfl (mv_r rfl) ?_
              refine rv rfl rfl rfl (mulW_r rfl rfl) ?_
              refine rv rfl rfl rfl (mv_r rfl) ?_
              refine rv rfl rfl rfl (addW_r rfl rfl) ?_
              refine rv rfl rfl rfl (mv_r rfl) ?_
              refine rv rfl rfl rfl (mulW_r rfl rfl) ?_
              refine rv rfl rfl rfl (mv_r rfl) ?_
              refine rv rfl rfl rfl (addW_r rfl rfl) ?_
              refine rv rfl rfl rfl (mv_r rfl) ?_
              refine rv rfl rfl rfl (mv_r rfl) ?_
              refine rv rfl rfl rfl (mulW_r rfl rfl) ?_
              refine rv rfl rfl rfl (RV.re (v' := .int .u64 (r0 : Int)) (subW_r rfl rfl) (congrArg (Value.int .u64) (by simp only [wrap_u64']; omega))) ?_
              refine rv rfl rfl rfl (mv_r rfl) ?_
              refine rv rfl rfl rfl (RV.re (v' := .int .u64 ((r0 / 2 ^ s : Nat) : Int)) (shrW_r rfl rfl (by omega)) (congrArg (Value.int .u64) (shr_re' r0 s (by omega)))) ?_
              refine rv rfl rfl rfl (asg_r rfl) ?_
              refine rv rfl rfl rfl (asg_r rfl) ?_
              refine OJ.done ?_
              refine PJ.next ?_
              refine CJ.ret ?_
              refine retV2 Tryz.results126 rfl rfl (.head _) ?_ ?_
              · rw [hf1]; exact congrArg (Value.int .u64) (by simp only [wrap_u64']; omega)
              · rw [hf2]
            · try simp only [decide_eq_true_eq, decide_eq_false_iff_not, Bool.not_eq_true', Bool.not_eq_false'] at hc12
              refine CJ.skip ?_
              refine PJ.norBlock ?_
              refine PJ.again (q - 1, r + y1) ⟨hm2, by omega, hm3, by omega⟩ (by show q - 1 < q; omega) ⟨rfl, rfl, rfl, rfl, rfl, rfl, rfl, rfl, rfl, trivial⟩ rfl rfl (by simp)
          · try simp only [decide_eq_true_eq, decide_eq_false_iff_not, Bool.not_eq_true', Bool.not_eq_false'] at hc11
            refine CJ.exit ?_
            refine PJ.exThen ?_
            refine PJ.exThen ?_
            refine PJ.exHit ?_
            refine PJ.next ?_
            refine CJ.seq ?_
            first | (have hD0 := hd.stop hy1a (by omega); obtain ⟨q2, rfl⟩ : ∃ q2, q2 = q := ⟨_, rfl⟩) | (have hD0 := dig_break (by omega) (by omega) hm2 hm3 hy1a (by omega); generalize q - 1 = q2 at *)
            rw [hYe] at hD0
            obtain ⟨r0, hr0⟩ : ∃ z, (r1 * 2 ^ 32 + v0) % Y = z := ⟨_, rfl⟩
            have hr0Y : r0 < Y := by rw [← hr0]; exact Nat.mod_lt _ (by omega)
            have hz0 : q2 * Y + r0 = r1 * 2 ^ 32 + v0 := by have := Nat.div_add_mod (r1 * 2 ^ 32 + v0) Y; rw [hD0, hr0, Nat.mul_comm] at this; exact this
            have hall : u * 2 ^ 64 + v = (q1 * 2 ^ 32 + q2) * Y + r0 := by have := div64_two u v Y r1 (by rw [← hr1, ← hv1]); rw [show v / 2 ^ 32 = v1 from hv1, show v % 2 ^ 32 = v0 from hv0, hD1, hD0, hr0] at this; exact this
            obtain ⟨hf1, hf2⟩ := div64_fin hi lo y s (q1 * 2 ^ 32 + q2) r0 (by rw [hY]; exact hr0Y) (by rw [hY, ← hN]; exact hall)
            have hq1s := Dig.small (un := v1) hy1a huY hv1a
            rw [hYe, hD1] at hq1s
            have hq2s := Dig.small (un := v0) hy1a hur1 hv0a
            rw [hYe, hD0] at hq2s
            refine CJ.region ?_
            refine rv rfl rfl rfl (mv_r rfl) ?_
            refine rv rfl rfl rfl (mulW_r rfl rfl) ?_
            refine rv rfl rfl rfl (mv_r rfl) ?_
            refine rv rfl rfl rfl (addW_r rfl rfl) ?_
            refine rv rfl rfl rfl (mv_r rfl) ?_
            refine rv rfl rfl rfl (mulW_r rfl rfl) ?_
            refine rv rfl rfl rfl (mv_r rfl) ?_
            refine rv rfl rfl rfl (addW_r rfl rfl) ?_
            refine rv rfl rfl rfl (mv_r rfl) ?_
            refine rv rfl rfl rfl (mv_r rfl) ?_
            refine rv rfl rfl rfl (mulW_r rfl rfl) ?_
            refine rv rfl rfl rfl (RV.re (v' := .int .u64 (r0 : Int)) (subW_r rfl rfl) (congrArg (Value.int .u64) (by simp only [wrap_u64']; omega))) ?_
            refine rv rfl rfl rfl (mv_r rfl) ?_
            refine rv rfl rfl rfl (RV.re (v' := .int .u64 ((r0 / 2 ^ s : Nat) : Int)) (shrW_r rfl rfl (by omega)) (congrArg (Value.int .u64) (shr_re' r0 s (by omega)))) ?_
            refine rv rfl rfl rfl (asg_r rfl) ?_
            refine rv rfl rfl rfl (asg_r rfl) ?_
            refine OJ.done ?_
            refine PJ.next ?_
            refine CJ.ret ?_
            refine retV2 Tryz.results126 rfl rfl (.head _) ?_ ?_
            · rw [hf1]; exact congrArg (Value.int .u64) (by simp only [wrap_u64']; omega)
            · rw [hf2]
      · try simp only [decide_eq_true_eq, decide_eq_false_iff_not, Bool.not_eq_true', Bool.not_eq_false'] at hc8
        refine CJ.skip ?_
        refine PJ.norBlock ?_
        refine PJ.again (q - 1, r + y1) ⟨hm2, by omega, hm3, by omega⟩ (by show q - 1 < q; omega) ⟨rfl, rfl, rfl, rfl, rfl, rfl, rfl, rfl, rfl, trivial⟩ rfl rfl (by simp)
    · try simp only [decide_eq_true_eq, decide_eq_false_iff_not, Bool.not_eq_true', Bool.not_eq_false'] at hc7
      refine CJ.exit ?_
      refine PJ.exThen ?_
      refine PJ.exThen ?_
      refine PJ.exHit ?_
      refine PJ.next ?_
      refine CJ.seq ?_
      first | (have hD1 := hd.stop hy1a (by omega); obtain ⟨q1, rfl⟩ : ∃ q1, q1 = q := ⟨_, rfl⟩) | (have hD1 := dig_break (by omega) (by omega) hm2 hm3 hy1a (by omega); generalize q - 1 = q1 at *)
      rw [hYe] at hD1
      obtain ⟨r1, hr1⟩ : ∃ z, (u * 2 ^ 32 + v1) % Y = z := ⟨_, rfl⟩
      have hr1Y : r1 < Y := by rw [← hr1]; exact Nat.mod_lt _ (by omega)
      have hz1 : q1 * Y + r1 = u * 2 ^ 32 + v1 := by have := Nat.div_add_mod (u * 2 ^ 32 + v1) Y; rw [hD1, hr1, Nat.mul_comm] at this; exact this
      have d2 := Dig.start hy1a (by omega) (by omega) hv0a (show r1 < y1 * 2 ^ 32 + y0 by omega)
      have hq0b : r1 / y1 * y1 ≤ r1 := Nat.div_mul_le_self r1 y1
      have hur1 : r1 < y1 * 2 ^ 32 + y0 := by omega
      clear hd
      try clear hm1 hm2 hm3
      refine CJ.region ?_
      refine rv rfl rfl rfl (mv_r rfl) ?_
      refine rv rfl rfl rfl (mulW_r rfl rfl) ?_
      refine rv rfl rfl rfl (mv_r rfl) ?_
      refine rv rfl rfl rfl (addW_r rfl rfl) ?_
      refine rv rfl rfl rfl (mv_r rfl) ?_
      refine rv rfl rfl rfl (mv_r rfl) ?_
      refine rv rfl rfl rfl (mulW_r rfl rfl) ?_
      refine rv rfl rfl rfl (RV.re (v' := .int .u64 (r1 : Int)) (subW_r rfl rfl) (congrArg (Value.int .u64) (by simp only [wrap_u64']; omega))) ?_
      refine rv rfl rfl rfl (asg_r rfl) ?_
      refine OJ.done ?_
      refine PJ.next ?_
      refine CJ.seq ?_
      refine CJ.region ?_
      refine rv rfl rfl rfl (mv_r rfl) ?_
      refine rv rfl rfl rfl (mv_r rfl) ?_
      refine rv rfl rfl rfl (RV.re (v' := .int .u64 ((r1 / y1 : Nat) : Int)) (quoU_r rfl rfl (by omega) (by omega) (by omega)) (congrArg (Value.int .u64) (castdiv r1 y1))) ?_
      refine rv rfl rfl rfl (asg_r rfl) ?_
      refine OJ.done ?_
      refine PJ.next ?_
      refine CJ.seq ?_
      refine CJ.region ?_
      refine rv rfl rfl rfl (mv_r rfl) ?_
      refine rv rfl rfl rfl (mv_r rfl) ?_
      refine rv rfl rfl rfl (mv_r rfl) ?_
      refine rv rfl rfl rfl (mulU_r rfl rfl (by omega) (by omega)) ?_
      refine rv rfl rfl rfl (RV.re (v' := .int .u64 ((r1 % y1 : Nat) : Int)) (subU_r rfl rfl (by omega) (by omega)) (congrArg (Value.int .u64) (dig_sub _ _ _ _ d2.eq))) ?_
      refine rv rfl rfl rfl (asg_r rfl) ?_
      refine OJ.done ?_
      refine PJ.next ?_
      refine CJ.seq ?_
      refine CJ.block ?_
      refine CJ.loop (α := Nat × Nat) (fun p => [(2, .int .u64 (Y : Int)), (8, .int .u64 (s : Int)), (9, .int .u64 (y1 : Int)), (10, .int .u64 (y0 : Int)), (17, .int .u64 (r1 : Int)), (14, .int .u64 (v0 : Int)), (15, .int .u64 (q1 : Int)), (18, .int .u64 (p.1 : Int)), (16, .int .u64 (p.2 : Int))]) (fun p => []) (fun p => [w]) (fun p => Gh.no) (fun p => Dig r1 y1 y0 v0 p.1 p.2) (fun p => p.1) (r1 / y1, r1 % y1) d2 ⟨rfl, rfl, rfl, rfl, rfl, rfl, rfl, rfl, rfl, trivial⟩ rfl rfl (by simp) ?_
      rintro ⟨q, r⟩ hd
      dsimp only
      replace hd : Dig r1 y1 y0 v0 q r := hd
      have hdl := hd.lt
      have hde := hd.le
      have hqn : (0 : Int) ≤ (q : Int) * (y0 : Int) := Int.mul_nonneg (by omega) (by omega)
      have hqy : (q : Int) ≤ 4294967295 → (q : Int) * (y0 : Int) ≤ 4294967295 * 4294967295 := fun h => (mul_bd (by omega) h (by omega) (by omega)).2
      refine CJ.seq ?_
      refine CJ.seq ?_
      refine CJ.region ?_
      refine rv rfl rfl rfl (mv_r rfl) ?_
      refine rv rfl rfl rfl (geq_r rfl rfl) ?_
      refine rv rfl rfl rfl (mv_r rfl) ?_
      refine OJ.split (t := 104) rfl (fun hc13 => ?_) (fun hc13 => ?_)
      · try simp only [decide_eq_true_eq, decide_eq_false_iff_not, Bool.not_eq_true', Bool.not_eq_false'] at hc13
        refine OJ.off rfl (by decide) rfl ?_
        refine OJ.off rfl (by decide) rfl ?_
        refine OJ.off rfl (by decide) rfl ?_
        refine OJ.off rfl (by decide) rfl ?_
        refine OJ.off rfl (by decide) rfl ?_
        refine OJ.off rfl (by decide) rfl ?_
        refine OJ.off rfl (by decide) rfl ?_
        refine OJ.off rfl (by decide) rfl ?_
        refine rv rfl rfl rfl (pkT_r rfl rfl) ?_
        refine OJ.done ?_
        refine PJ.next ?_
        refine CJ.condT rfl ?_
        refine CJ.skip ?_
        refine PJ.next ?_
        refine CJ.block ?_
        refine CJ.seq ?_
        refine CJ.region ?_
        refine rv rfl rfl rfl (mv_r rfl) ?_
        obtain ⟨hm1, hm2, hm3⟩ := hd.more hy1a hur1 hv0a (by omega)
        refine rv rfl rfl rfl (RV.re (v' := .int .u64 ((q - 1 : Nat) : Int)) (subU_r rfl rfl (by omega) (by omega)) (congrArg (Value.int .u64) (by omega))) ?_
        refine rv rfl rfl rfl (asg_r rfl) ?_
        refine OJ.done ?_
        refine PJ.next ?_
        refine CJ.seq ?_
        refine CJ.region ?_
        refine rv rfl rfl rfl (mv_r rfl) ?_
        refine rv rfl rfl rfl (mv_r rfl) ?_
        refine rv rfl rfl rfl (RV.re (v' := .int .u64 ((r + y1 : Nat) : Int)) (addU_r rfl rfl (by omega) (by omega)) (congrArg (Value.int .u64) (by omega))) ?_
        refine rv rfl rfl rfl (asg_r rfl) ?_
        refine OJ.done ?_
        refine PJ.next ?_
        refine CJ.seq ?_
        refine CJ.region ?_
        refine rv rfl rfl rfl (mv_r rfl) ?_
        refine rv rfl rfl rfl (geq_r rfl rfl) ?_
        refine OJ.done ?_
        refine PJ.next ?_
        refine CJ.cond rfl (fun hc14 => ?_) (fun hc14 => ?_)
        · try simp only [decide_eq_true_eq, decide_eq_false_iff_not, Bool.not_eq_true', Bool.not_eq_false'] at hc14
          refine CJ.exit ?_
          refine PJ.exMiss rfl ?_
          refine PJ.exThen ?_
          refine PJ.exHit ?_
          refine PJ.next ?_
          refine CJ.seq ?_
          first | (have hD0 := hd.stop hy1a (by omega); obtain ⟨q2, rfl⟩ : ∃ q2, q2 = q := ⟨_, rfl⟩) | (have hD0 := dig_break (by omega) (by omega) hm2 hm3 hy1a (by omega); generalize q - 1 = q2 at *)
          rw [hYe] at hD0
          obtain ⟨r0, hr0⟩ : ∃ z, (r1 * 2 ^ 32 + v0) % Y = z := ⟨_, rfl⟩
          have hr0Y : r0 < Y := by rw [← hr0]; exact Nat.mod_lt _ (by omega)
          have hz0 : q2 * Y + r0 = r1 * 2 ^ 32 + v0 := by have := Nat.div_add_mod (r1 * 2 ^ 32 + v0) Y; rw [hD0, hr0, Nat.mul_comm] at this; exact this
          have hall : u * 2 ^ 64 + v = (q1 * 2 ^ 32 + q2) * Y + r0 := by have := div64_two u v Y r1 (by rw [← hr1, ← hv1]); rw [show v / 2 ^ 32 = v1 from hv1, show v % 2 ^ 32 = v0 from hv0, hD1, hD0, hr0] at this; exact this
          obtain ⟨hf1, hf2⟩ := div64_fin hi lo y s (q1 * 2 ^ 32 + q2) r0 (by rw [hY]; exact hr0Y) (by rw [hY, ← hN]; exact hall)
          have hq1s := Dig.small (un := v1) hy1a huY hv1a
          rw [hYe, hD1] at hq1s
          have hq2s := Dig.small (un := v0) hy1a hur1 hv0a
          rw [hYe, hD0] at hq2s
          refine CJ.region ?_
          refine rv rfl rfl rfl (mv_r rfl) ?_
          refine rv rfl rfl rfl (mulW_r rfl rfl) ?_
          refine rv rfl rfl rfl (mv_r rfl) ?_
          refine rv rfl rfl rfl (addW_r rfl rfl) ?_
          refine rv rfl rfl rfl (mv_r rfl) ?_
          refine rv rfl rfl rfl (mulW_r rfl rfl) ?_
          refine rv rfl rfl rfl (mv_r rfl) ?_
          refine rv rfl rfl rfl (addW_r rfl rfl) ?_
          refine rv rfl rfl rfl (mv_r rfl) ?_
          refine rv rfl rfl rfl (mv_r rfl) ?_
          refine rv rfl rfl rfl (mulW_r rfl rfl) ?_
          refine rv rfl rfl rfl (RV.re (v' := .int .u64 (r0 : Int)) (subW_r rfl rfl) (congrArg (Value.int .u64) (by simp only [wrap_u64']; omega))) ?_
          refine rv rfl rfl rfl (mv_r rfl) ?_
          refine rv rfl rfl rfl (RV.re (v' := .int .u64 ((r0 / 2 ^ s : Nat) : Int)) (shrW_r rfl rfl (by omega)) (congrArg (Value.int .u64) (shr_re' r0 s (by omega)))) ?_
          refine rv rfl rfl rfl (asg_r rfl) ?_
          refine rv rfl rfl rfl (asg_r rfl) ?_
          refine OJ.done ?_
          refine PJ.next ?_
          refine CJ.ret ?_
          refine retV2 Tryz.results126 rfl rfl (.head _) ?_ ?_
          · rw [hf1]; exact congrArg (Value.int .u64) (by simp only [wrap_u64']; omega)
          · rw [hf2]
        · try simp only [decide_eq_true_eq, decide_eq_false_iff_not, Bool.not_eq_true', Bool.not_eq_false'] at hc14
          refine CJ.skip ?_
          refine PJ.norBlock ?_
          refine PJ.again (q - 1, r + y1) ⟨hm2, by omega, hm3, by omega⟩ (by show q - 1 < q; omega) ⟨rfl, rfl, rfl, rfl, rfl, rfl, rfl, rfl, rfl, trivial⟩ rfl rfl (by simp)
      · try simp only [decide_eq_true_eq, decide_eq_false_iff_not, Bool.not_eq_true', Bool.not_eq_false'] at hc13
        refine rv rfl rfl rfl (mv_r rfl) ?_
        refine rv rfl rfl rfl (mv_r rfl) ?_
        refine rv rfl rfl rfl (mulU_r rfl rfl (by omega) (by have := hqy (by omega); omega)) ?_
        refine rv rfl rfl rfl (mv_r rfl) ?_
        refine rv rfl rfl rfl (mulU_r rfl rfl (by omega) (by omega)) ?_
        refine rv rfl rfl rfl (mv_r rfl) ?_
        refine rv rfl rfl rfl (addU_r rfl rfl (by omega) (by omega)) ?_
        refine rv rfl rfl rfl (gtr_r rfl rfl) ?_
        refine rv rfl rfl rfl (pkF_r rfl rfl) ?_
        refine OJ.done ?_
        refine PJ.next ?_
        refine CJ.cond rfl (fun hc15 => ?_) (fun hc15 => ?_)
        · try simp only [decide_eq_true_eq, decide_eq_false_iff_not, Bool.not_eq_true', Bool.not_eq_false'] at hc15
          refine CJ.skip ?_
          refine PJ.next ?_
          refine CJ.block ?_
          refine CJ.seq ?_
          refine CJ.region ?_
          refine rv rfl rfl rfl (mv_r rfl) ?_
          obtain ⟨hm1, hm2, hm3⟩ := hd.more hy1a hur1 hv0a (by omega)
          refine rv rfl rfl rfl (RV.re (v' := .int .u64 ((q - 1 : Nat) : Int)) (subU_r rfl rfl (by omega) (by omega)) (congrArg (Value.int .u64) (by omega))) ?_
          refine rv rfl rfl rfl (asg_r rfl) ?_
          refine OJ.done ?_
          refine PJ.next ?_
          refine CJ.seq ?_
          refine CJ.region ?_
          refine rv rfl rfl rfl (mv_r rfl) ?_
          refine rv rfl rfl rfl (mv_r rfl) ?_
          refine rv rfl rfl rfl (RV.re (v' := .int .u64 ((r + y1 : Nat) : Int)) (addU_r rfl rfl (by omega) (by omega)) (congrArg (Value.int .u64) (by omega))) ?_
          refine rv rfl rfl rfl (asg_r rfl) ?_
          refine OJ.done ?_
          refine PJ.next ?_
          refine CJ.seq ?_
          refine CJ.region ?_
          refine rv rfl rfl rfl (mv_r rfl) ?_
          refine rv rfl rfl rfl (geq_r rfl rfl) ?_
          refine OJ.done ?_
          refine PJ.next ?_
          refine CJ.cond rfl (fun hc16 => ?_) (fun hc16 => ?_)
          · try simp only [decide_eq_true_eq, decide_eq_false_iff_not, Bool.not_eq_true', Bool.not_eq_false'] at hc16
            refine CJ.exit ?_
            refine PJ.exMiss rfl ?_
            refine PJ.exThen ?_
            refine PJ.exHit ?_
            refine PJ.next ?_
            refine CJ.seq ?_
            first | (have hD0 := hd.stop hy1a (by omega); obtain ⟨q2, rfl⟩ : ∃ q2, q2 = q := ⟨_, rfl⟩) | (have hD0 := dig_break (by omega) (by omega) hm2 hm3 hy1a (by omega); generalize q - 1 = q2 at *)
            rw [hYe] at hD0
            obtain ⟨r0, hr0⟩ : ∃ z, (r1 * 2 ^ 32 + v0) % Y = z := ⟨_, rfl⟩
            have hr0Y : r0 < Y := by rw [← hr0]; exact Nat.mod_lt _ (by omega)
            have hz0 : q2 * Y + r0 = r1 * 2 ^ 32 + v0 := by have := Nat.div_add_mod (r1 * 2 ^ 32 + v0) Y; rw [hD0, hr0, Nat.mul_comm] at this; exact this
            have hall : u * 2 ^ 64 + v = (q1 * 2 ^ 32 + q2) * Y + r0 := by have := div64_two u v Y r1 (by rw [← hr1, ← hv1]); rw [show v / 2 ^ 32 = v1 from hv1, show v % 2 ^ 32 = v0 from hv0, hD1, hD0, hr0] at this; exact this
            obtain ⟨hf1, hf2⟩ := div64_fin hi lo y s (q1 * 2 ^ 32 + q2) r0 (by rw [hY]; exact hr0Y) (by rw [hY, ← hN]; exact hall)
            have hq1s := Dig.small (un := v1) hy1a huY hv1a
            rw [hYe, hD1] at hq1s
            have hq2s := Dig.small (un := v0) hy1a hur1 hv0a
            rw [hYe, hD0] at hq2s
            refine CJ.region ?_
            refine rv rfl rfl rfl (mv_r rfl) ?_
            refine rv rfl rfl rfl (mulW_r rfl rfl) ?_
            refine rv rfl rfl rfl (mv_r rfl) ?_
            refine rv rfl rfl rfl (addW_r rfl rfl) ?_
            refine rv rfl rfl rfl (mv_r rfl) ?_
            refine rv rfl rfl rfl (mulW_r rfl rfl) ?_
            refine rv rfl rfl rfl (mv_r rfl) ?_
            refine rv rfl rfl rfl (addW_r rfl rfl) ?_
            refine rv rfl rfl rfl (mv_r rfl) ?_
            refine rv rfl rfl rfl (mv_r rfl) ?_
            refine rv rfl rfl rfl (mulW_r rfl rfl) ?_
            refine rv rfl rfl rfl (RV.re (v' := .int .u64 (r0 : Int)) (subW_r rfl rfl) (congrArg (Value.int .u64) (by simp only [wrap_u64']; omega))) ?_
            refine rv rfl rfl rfl (mv_r rfl) ?_
            refine rv rfl rfl rfl (RV.re (v' := .int .u64 ((r0 / 2 ^ s : Nat) : Int)) (shrW_r rfl rfl (by omega)) (congrArg (Value.int .u64) (shr_re' r0 s (by omega)))) ?_
            refine rv rfl rfl rfl (asg_r rfl) ?_
            refine rv rfl rfl rfl (asg_r rfl) ?_
            refine OJ.done ?_
            refine PJ.next ?_
            refine CJ.ret ?_
            refine retV2 Tryz.results126 rfl rfl (.head _) ?_ ?_
            · rw [hf1]; exact congrArg (Value.int .u64) (by simp only [wrap_u64']; omega)
            · rw [hf2]
          · try simp only [decide_eq_true_eq, decide_eq_false_iff_not, Bool.not_eq_true', Bool.not_eq_false'] at hc16
            refine CJ.skip ?_
            refine PJ.norBlock ?_
            refine PJ.again (q - 1, r + y1) ⟨hm2, by omega, hm3, by omega⟩ (by show q - 1 < q; omega) ⟨rfl, rfl, rfl, rfl, rfl, rfl, rfl, rfl, rfl, trivial⟩ rfl rfl (by simp)
        · try simp only [decide_eq_true_eq, decide_eq_false_iff_not, Bool.not_eq_true', Bool.not_eq_false'] at hc15
          refine CJ.exit ?_
          refine PJ.exThen ?_
          refine PJ.exThen ?_
          refine PJ.exHit ?_
          refine PJ.next ?_
          refine CJ.seq ?_
          first | (have hD0 := hd.stop hy1a (by omega); obtain ⟨q2, rfl⟩ : ∃ q2, q2 = q := ⟨_, rfl⟩) | (have hD0 := dig_break (by omega) (by omega) hm2 hm3 hy1a (by omega); generalize q - 1 = q2 at *)
          rw [hYe] at hD0
          obtain ⟨r0, hr0⟩ : ∃ z, (r1 * 2 ^ 32 + v0) % Y = z := ⟨_, rfl⟩
          have hr0Y : r0 < Y := by rw [← hr0]; exact Nat.mod_lt _ (by omega)
          have hz0 : q2 * Y + r0 = r1 * 2 ^ 32 + v0 := by have := Nat.div_add_mod (r1 * 2 ^ 32 + v0) Y; rw [hD0, hr0, Nat.mul_comm] at this; exact this
          have hall : u * 2 ^ 64 + v = (q1 * 2 ^ 32 + q2) * Y + r0 := by have := div64_two u v Y r1 (by rw [← hr1, ← hv1]); rw [show v / 2 ^ 32 = v1 from hv1, show v % 2 ^ 32 = v0 from hv0, hD1, hD0, hr0] at this; exact this
          obtain ⟨hf1, hf2⟩ := div64_fin hi lo y s (q1 * 2 ^ 32 + q2) r0 (by rw [hY]; exact hr0Y) (by rw [hY, ← hN]; exact hall)
          have hq1s := Dig.small (un := v1) hy1a huY hv1a
          rw [hYe, hD1] at hq1s
          have hq2s := Dig.small (un := v0) hy1a hur1 hv0a
          rw [hYe, hD0] at hq2s
          refine CJ.region ?_
          refine rv rfl rfl rfl (mv_r rfl) ?_
          refine rv rfl rfl rfl (mulW_r rfl rfl) ?_
          refine rv rfl rfl rfl (mv_r rfl) ?_
          refine rv rfl rfl rfl (addW_r rfl rfl) ?_
          refine rv rfl rfl rfl (mv_r rfl) ?_
          refine rv rfl rfl rfl (mulW_r rfl rfl) ?_
          refine rv rfl rfl rfl (mv_r rfl) ?_
          refine rv rfl rfl rfl (addW_r rfl rfl) ?_
          refine rv rfl rfl rfl (mv_r rfl) ?_
          refine rv rfl rfl rfl (mv_r rfl) ?_
          refine rv rfl rfl rfl (mulW_r rfl rfl) ?_
          refine rv rfl rfl rfl (RV.re (v' := .int .u64 (r0 : Int)) (subW_r rfl rfl) (congrArg (Value.int .u64) (by simp only [wrap_u64']; omega))) ?_
          refine rv rfl rfl rfl (mv_r rfl) ?_
          refine rv rfl rfl rfl (RV.re (v' := .int .u64 ((r0 / 2 ^ s : Nat) : Int)) (shrW_r rfl rfl (by omega)) (congrArg (Value.int .u64) (shr_re' r0 s (by omega)))) ?_
          refine rv rfl rfl rfl (asg_r rfl) ?_
          refine rv rfl rfl rfl (asg_r rfl) ?_
          refine OJ.done ?_
          refine PJ.next ?_
          refine CJ.ret ?_
          refine retV2 Tryz.results126 rfl rfl (.head _) ?_ ?_
          · rw [hf1]; exact congrArg (Value.int .u64) (by simp only [wrap_u64']; omega)
          · rw [hf2]
/-- math/bits.Div64 -/
theorem bits_Div64z (lo y : Nat) (h0 : 0 < y) (hlo : lo < 18446744073709551616) (hy : y < 18446744073709551616) (w : World) :
    Calls Tryz.prog 126 #[.int .u64 0, .int .u64 (lo : Int), .int .u64 (y : Int)] w (Ret w (.tuple #[.int .u64 ((lo / y : Nat) : Int), .int .u64 ((lo % y : Nat) : Int)])) := by
  
  refine enter (vs := [_, _, _]) Tryz.func126 rfl Tryz.ntmps126 rfl ?_
  refine CJ.seq ?_
  refine CJ.region ?_
  refine rv rfl rfl rfl (asg_r rfl) ?_
  refine rv rfl rfl rfl (asg_r rfl) ?_
  refine OJ.done ?_
  refine PJ.next ?_
  refine CJ.seq ?_
  refine CJ.seq ?_
  refine CJ.region ?_
  refine rv rfl rfl rfl (mv_r rfl) ?_
  refine rv rfl rfl rfl (RV.re (v' := .bool false) (eqlI_r rfl rfl) (congrArg Value.bool (decide_eq_false (by omega)))) ?_
  refine OJ.done ?_
  refine PJ.next ?_
  refine CJ.condF rfl ?_
  refine CJ.skip ?_
  refine PJ.next ?_
  refine CJ.seq ?_
  refine CJ.seq ?_
  refine CJ.region ?_
  refine rv rfl rfl rfl (mv_r rfl) ?_
  refine rv rfl rfl rfl (mv_r rfl) ?_
  refine rv rfl rfl rfl (RV.re (v' := .bool false) (leq_r rfl rfl) (congrArg Value.bool (decide_eq_false (by omega)))) ?_
  refine OJ.done ?_
  refine PJ.next ?_
  refine CJ.condF rfl ?_
  refine CJ.skip ?_
  refine PJ.next ?_
  refine CJ.seq ?_
  refine CJ.seq ?_
  refine CJ.region ?_
  refine rv rfl rfl rfl (mv_r rfl) ?_
  refine rv rfl rfl rfl (RV.re (v' := .bool true) (eqlI_r rfl rfl) (congrArg Value.bool (decide_eq_true (by omega)))) ?_
  refine OJ.done ?_
  refine PJ.next ?_
  refine CJ.condT rfl ?_
  refine CJ.seq ?_
  refine CJ.less (E' := [(0, _), (1, _), (2, _), (7, _), (19, _), (20, _), (22, _), (23, _), (24, _), (26, _), (27, _)]) ⟨rfl, rfl, rfl, rfl, rfl, rfl, rfl, rfl, rfl, rfl, rfl, trivial⟩ ?_
  refine CJ.drwD 7 [.det [] _, .det [] _, .det [0, 1] _, .det [] _, .det [] _, .det [3, 4] _, .det [2] _] (by kernel_rfl) (xc (fun vals => X.val rfl rfl (mv_r rfl) (fun _ _ => rfl)) (xc (fun vals => X.val rfl rfl (mv_r rfl) (fun _ _ => rfl)) (xc (fun vals => X.val rfl rfl (quoU_r rfl rfl (by omega) (by omega) (by omega)) (fun _ _ => rfl)) (xc (fun vals => X.val rfl rfl (mv_r rfl) (fun _ _ => rfl)) (xc (fun vals => X.val rfl rfl (mv_r rfl) (fun _ _ => rfl)) (xc (fun vals => X.val rfl rfl (remU_r rfl rfl (by omega) (by omega)) (fun _ _ => rfl)) (xc (fun vals => X.val rfl rfl (asg_r rfl) (fun _ _ => rfl)) (xn)))))))) (by kernel_rfl) (by kernel_rfl) (by kernel_rfl) (fun vals => ?_)
  refine rv rfl rfl rfl (asg_r rfl) ?_
  refine OJ.done ?_
  refine PJ.next ?_
  refine CJ.ret ?_
  refine PJ.retThen ?_
  refine retV2 Tryz.results126 rfl rfl (.head _) ?_ ?_
  · exact congrArg (Value.int .u64) (castdiv lo y)
  · exact congrArg (Value.int .u64) (Int.natCast_emod lo y).symm
/-- math/bits.Div64, of integers -/
theorem bits_Div64 (hi lo y : Int) (h0 : 0 ≤ hi) (h1 : hi < y) (h2 : 0 ≤ lo) (h3 : lo < 18446744073709551616) (h4 : y < 18446744073709551616) (w : World) :
    Calls Tryz.prog 126 #[.int .u64 hi, .int .u64 lo, .int .u64 y] w (Ret w (.tuple #[.int .u64 ((hi * 18446744073709551616 + lo) / y), .int .u64 ((hi * 18446744073709551616 + lo) % y)])) := by
  obtain ⟨a, rfl⟩ := Int.eq_ofNat_of_zero_le h0
  obtain ⟨b, rfl⟩ := Int.eq_ofNat_of_zero_le h2
  obtain ⟨c, rfl⟩ := Int.eq_ofNat_of_zero_le (Int.le_trans h0 (Int.le_of_lt h1))
  have e : ((a : Int) * 18446744073709551616 + (b : Int)) = ((a * 2 ^ 64 + b : Nat) : Int) := by simp
  rw [e, castdiv, ← Int.natCast_emod]
  by_cases ha : a = 0
  · subst ha
    have := bits_Div64z b c (by omega) (by omega) (by omega) w
    simpa using this
  · exact bits_Div64n a b c (by omega) (by omega) (by omega) (by omega) w
end Px
namespace Px
open Go Go.RowKit Go.Proofs
theorem mul_lt_128 {a b p : Int} (ha : 0 ≤ a) (ha1 : a < p) (hb : 0 ≤ b) (hb1 : b < p) (hp : p < 18446744073709551616) : 0 ≤ a * b / 18446744073709551616 ∧ a * b / 18446744073709551616 < p ∧ 0 ≤ a * b % 18446744073709551616 ∧ a * b % 18446744073709551616 < 18446744073709551616 ∧ a * b / 18446744073709551616 * 18446744073709551616 + a * b % 18446744073709551616 = a * b := by
  have h0 : 0 ≤ a * b := Int.mul_nonneg ha hb
  have h1 : a * b ≤ a * 18446744073709551616 := Int.mul_le_mul_of_nonneg_left (by omega) ha
  refine ⟨by omega, by omega, by omega, by omega, by omega⟩
/-- chartroom/group.times -/
theorem group_times (a b : Int) (ha : 0 ≤ a) (ha1 : a < 4611686018427377339) (hb : 0 ≤ b) (hb1 : b < 4611686018427377339) (w : World) :
    Calls Tryz.prog 97 #[.int .u64 a, .int .u64 b] w (Ret w (.int .u64 (a * b % 4611686018427377339))) := by
  obtain ⟨m1, m2, m3, m4, m5⟩ := mul_lt_128 ha ha1 hb hb1 (by decide)
  refine enter (vs := [_, _]) Tryz.func97 rfl Tryz.ntmps97 rfl ?_
  refine CJ.seq ?_
  refine CJ.region ?_
  refine rv rfl rfl rfl (asg_r rfl) ?_
  refine OJ.done ?_
  refine PJ.next ?_
  refine CJ.seq ?_
  refine CJ.region ?_
  refine rv rfl rfl rfl (mv_r rfl) ?_
  refine rv rfl rfl rfl (mv_r rfl) ?_
  refine call Tryz.call125 rfl rfl rfl (fun W hS => bits_Mul64 _ _ (by omega) (by omega) (by omega) (by omega) W) ?_
  refine rv rfl rfl rfl (mv_r rfl) ?_
  refine rv rfl rfl rfl (ext_r rfl rfl) ?_
  refine rv rfl rfl rfl (ext_r rfl rfl) ?_
  refine rv rfl rfl rfl (asg_r rfl) ?_
  refine rv rfl rfl rfl (asg_r rfl) ?_
  refine OJ.done ?_
  refine PJ.next ?_
  refine CJ.seq ?_
  refine CJ.region ?_
  refine rv rfl rfl rfl (mv_r rfl) ?_
  refine rv rfl rfl rfl (mv_r rfl) ?_
  refine call Tryz.call126 rfl rfl rfl (fun W hS => bits_Div64 _ _ _ (by omega) (by omega) (by omega) (by omega) (by omega) W) ?_
  refine rv rfl rfl rfl (mv_r rfl) ?_
  refine rv rfl rfl rfl (ext_r rfl rfl) ?_
  refine rv rfl rfl rfl (ext_r rfl rfl) ?_
  refine rv rfl rfl rfl (asg_r rfl) ?_
  refine rv rfl rfl rfl (asg_r rfl) ?_
  refine OJ.done ?_
  refine PJ.next ?_
  refine CJ.seq ?_
  refine CJ.region ?_
  refine rv rfl rfl rfl (mv_r rfl) ?_
  refine rv rfl rfl rfl (asg_r rfl) ?_
  refine OJ.done ?_
  refine PJ.next ?_
  refine CJ.ret ?_
  refine retV Tryz.results97 rfl (.head _) ?_
  (rw [m5]; rfl)
/-- chartroom/group.digits -/
theorem group_digits (k : Int) (w : World) :
    Calls Tryz.prog 122 #[.int .u64 k] w (RetX w (fun b => .func (.func 147) #[] #[ptr b 0]) (fun b w1 => w.heap.size ≤ b ∧ w1.heap[b]? = some (.cells #[.int .u64 k] 148 (0, 0)))) := by
  
  refine enter (vs := [_]) Tryz.func122 rfl Tryz.ntmps122 rfl ?_
  refine CJ.seq ?_
  refine CJ.region ?_
  refine boxR rfl rfl rfl ?_
  intro b1 w1 hb1 ha1 ho1 hm1 hz1
  simp only [Above] at ha1
  try simp only [Off, book, List.cons_append, List.nil_append, List.set_cons_zero, List.set_cons_succ, ne_eq] at ho1
  refine rv rfl rfl rfl (asg_r rfl) ?_
  refine OJ.done ?_
  refine PJ.next ?_
  refine CJ.seq ?_
  refine CJ.region ?_
  refine rv rfl rfl rfl (mkF_r rfl) ?_
  refine rv rfl rfl rfl (asg_r rfl) ?_
  refine OJ.done ?_
  refine PJ.next ?_
  refine CJ.ret ?_
  refine retX1 b1 Tryz.results122 rfl (.tail _ (.head _)) rfl ?_
  exact fun W hS => ⟨ha1.1, hS.old (.head _) hb1 hm1 trivial⟩
/-- the bits of a number, the highest first -/
def bitsOf (n : Nat) : List Bool := (List.range (blen n)).reverse.map (fun i => n.testBit i)
theorem bitsOf_length (n : Nat) : (bitsOf n).length = blen n := by simp [bitsOf]
theorem bitsOf_take (n j : Nat) (h : j < blen n) : (bitsOf n).take (j + 1) = (bitsOf n).take j ++ [n.testBit (blen n - 1 - j)] := by
  have hl : j < (bitsOf n).length := by rw [bitsOf_length]; exact h
  rw [List.take_succ_eq_append_getElem hl]
  congr 2
  simp [bitsOf]
theorem bit_re (n i : Nat) : decide (((n / 2 ^ i : Nat) : Int) % 2 = 1) = n.testBit i := by
  rw [Nat.testBit_eq_decide_div_mod_eq]
  congr 1
  apply propext
  omega
theorem bits_pre (n j : Nat) (h : j < blen n) : ((bitsOf n).take j ++ [n.testBit (blen n - 1 - j)]) <+: bitsOf n := by
  rw [← bitsOf_take n j h]; exact List.take_prefix _ _
/-- chartroom/group.digits$1 -/
theorem digits_iter (n : Nat) (hn : n < 18446744073709551616) (b : Nat) (W : World) (hb1 : W.heap[b]? = some (.cells #[.int .u64 (n : Int)] 148 (0, 0))) :
    IterSpec Tryz.prog 147 [ptr b 0] (fun x : Bool => [.bool x]) (bitsOf n) (fun _ => False) (fun k => k = b) W := by
  intro l M I X0 hM hI hX hy h0
  have hm1 : ¬ M b := fun h => (hM b h).2.2 rfl
  have hbl := blen_le n 64 hn
  have hbI : blenI (n : Int) = (blen n : Int) := by simp [blenI]
  refine enterG (itG hM (hI [])) [] (vs := [_, _]) Tryz.func147 rfl Tryz.ntmps147 rfl (st_it hM (hI []) h0) ?_
  refine CJ.seq ?_
  refine CJ.region ?_
  refine rv rfl rfl rfl (ldR_r Tryz.isAgg148 rfl (.head _) hb1 hm1 trivial rfl) ?_
  refine call Tryz.call148 rfl rfl rfl (fun W hS => bits_Len64 _ (by omega) (by omega) W) ?_
  refine rv rfl rfl rfl (RV.re (v' := .int .i64 ((blen n : Int) - 1 - (0 : Nat))) (subI_r rfl rfl (by omega) (by omega)) (congrArg (Value.int .i64) (by rw [hbI]; omega))) ?_
  refine rv rfl rfl rfl (asg_r rfl) ?_
  refine OJ.done ?_
  refine PJ.next ?_
  refine CJ.block ?_
  refine CJ.loop (α := Nat) (fun j => [(0, yv l), (1, ptr b 0), (3, .int .i64 ((blen n : Int) - 1 - (j : Int)))]) (fun j => []) (fun j => [W]) (fun j => itG hM (hI ((bitsOf n).take j))) (fun j => j ≤ blen n) (fun j => blen n - j) 0 (Nat.zero_le _) ⟨rfl, rfl, rfl, trivial⟩ rfl rfl (by simp) ?_
  rintro j hj
  refine CJ.seq ?_
  refine CJ.seq ?_
  refine CJ.region ?_
  refine rv rfl rfl rfl (mv_r rfl) ?_
  refine rv rfl rfl rfl (geq_r rfl rfl) ?_
  refine OJ.done ?_
  refine PJ.next ?_
  refine CJ.cond rfl (fun hc1 => ?_) (fun hc1 => ?_)
  · try simp only [decide_eq_true_eq, decide_eq_false_iff_not, Bool.not_eq_true', Bool.not_eq_false'] at hc1
    refine CJ.skip ?_
    refine PJ.next ?_
    refine CJ.seq ?_
    refine CJ.block ?_
    refine CJ.seq ?_
    refine CJ.region ?_
    refine rv rfl rfl rfl (mv_r rfl) ?_
    refine rv rfl rfl rfl (ldR_r Tryz.isAgg148 rfl (.head _) hb1 hm1 trivial rfl) ?_
    refine rv rfl rfl rfl (mv_r rfl) ?_
    refine rv rfl rfl rfl (RV.re (v' := .int .u64 ((n / 2 ^ (blen n - 1 - j) : Nat) : Int)) (shrW_r rfl rfl (by omega)) (congrArg (Value.int .u64) (shr_v n _ _ (by omega) (by omega)))) ?_
    refine rv rfl rfl rfl (mskC_r 1 2 (by decide) rfl rfl rfl rfl (Int.natCast_nonneg _) (Int.lt_of_le_of_lt (Int.ofNat_le.2 (Nat.div_le_self n _)) (by omega))) ?_
    refine rv rfl rfl rfl (RV.re (v' := .bool (n.testBit (blen n - 1 - j))) (eqlI_r rfl rfl) (congrArg Value.bool (bit_re n _))) ?_
    refine yld (itG hM (hI ((bitsOf n).take (j + 1)))) (itG hM hX) rfl rfl rfl rfl (fun W1 hS => by have := hy ((bitsOf n).take j) _ W1 (bits_pre n j (by omega)) hS.ghost; rw [← bitsOf_take n j (by omega)] at this; exact this) rfl rfl rfl rfl ?_ ?_
    · refine rv rfl rfl rfl (notB_r rfl) ?_
      refine OJ.done ?_
      refine PJ.next ?_
      refine CJ.condF rfl ?_
      refine CJ.skip ?_
      refine PJ.norBlock ?_
      refine PJ.next ?_
      refine CJ.region ?_
      refine rv rfl rfl rfl (mv_r rfl) ?_
      refine rv rfl rfl rfl (subI_r rfl rfl (by omega) (by omega)) ?_
      refine rv rfl rfl rfl (asg_r rfl) ?_
      refine OJ.done ?_
      refine PJ.again (j + 1) (by omega) (by omega) ⟨rfl, rfl, congrArg some (congrArg (Value.int .i64) (by omega)), trivial⟩ rfl rfl (by simp)
    · refine rv rfl rfl rfl (notB_r rfl) ?_
      refine OJ.done ?_
      refine PJ.next ?_
      refine CJ.condT rfl ?_
      refine CJ.ret ?_
      refine PJ.retBlock ?_
      refine PJ.retThen ?_
      refine PJ.retThen ?_
      refine PJ.retBlock ?_
      exact retIt (.inl rfl) Tryz.results147 (.head _) (fun A hA => .inr hA)
  · try simp only [decide_eq_true_eq, decide_eq_false_iff_not, Bool.not_eq_true', Bool.not_eq_false'] at hc1
    refine CJ.exit ?_
    refine PJ.exThen ?_
    refine PJ.exThen ?_
    refine PJ.exHit ?_
    exact retIt (.inr rfl) Tryz.results147 (.head _) (fun A hA => .inl (by have e := List.take_of_length_le (l := bitsOf n) (i := j) (by rw [bitsOf_length]; omega); rw [e] at hA; exact hA))
/-- powers modulo m, by squaring along bits -/
def powBits (a m : Int) : List Bool → Int → Int
  | [], c => c
  | b :: bs, c => powBits a m bs (if b then (c * c % m) * a % m else c * c % m)
theorem powBits_snoc (a m : Int) (bs : List Bool) (b : Bool) (c : Int) : powBits a m (bs ++ [b]) c = if b then (powBits a m bs c * powBits a m bs c % m) * a % m else powBits a m bs c * powBits a m bs c % m := by
  induction bs generalizing c with
  | nil => rfl
  | cons x bs ih => simp only [List.cons_append, powBits]; exact ih _
theorem powBits_bd (a m : Int) (hm : 0 < m) (bs : List Bool) (c : Int) (h0 : 0 ≤ c) (h1 : c < m) : 0 ≤ powBits a m bs c ∧ powBits a m bs c < m := by
  induction bs generalizing c with
  | nil => exact ⟨h0, h1⟩
  | cons x bs ih =>
    simp only [powBits]
    apply ih
    · split <;> exact Int.emod_nonneg _ (by omega)
    · split <;> exact Int.emod_lt_of_pos _ hm
/-- powers modulo m -/
def powM (a n m : Int) : Int := powBits a m (bitsOf n.toNat) 1
/-- chartroom/group.power -/
theorem group_power (a k : Int) (ha : 0 ≤ a) (ha1 : a < 4611686018427377339) (hk : 0 ≤ k) (hk1 : k < 18446744073709551616) (w : World) :
    Calls Tryz.prog 94 #[.int .u64 a, .int .u64 k] w (Ret w (.int .u64 (powM a k 4611686018427377339))) := by
  
  refine enterM Gh.no [] (vs := [_, _]) Tryz.func94 rfl Tryz.ntmps94 rfl (st_no w) ?_
  refine CJ.seq ?_
  refine CJ.region ?_
  refine boxR rfl rfl rfl ?_
  intro b2 w2 hb2 ha2 ho2 hm2 hz2
  simp only [Above] at ha2
  try simp only [Off, book, List.cons_append, List.nil_append, List.set_cons_zero, List.set_cons_succ, ne_eq] at ho2
  refine rv rfl rfl rfl (asg_r rfl) ?_
  refine OJ.done ?_
  refine PJ.next ?_
  refine CJ.seq ?_
  refine CJ.region ?_
  refine allW Tryz.zeroValue148 rfl rfl ?_
  intro b5 ha5 ho5
  simp only [Above] at ha5
  try simp only [Off, book, List.cons_append, List.nil_append, List.set_cons_zero, List.set_cons_succ, ne_eq] at ho5
  refine stWw (i := 0) rfl Tryz.sizeOf148 rfl rfl rfl rfl rfl rfl ?_
  refine OJ.done ?_
  refine PJ.next ?_
  refine CJ.seq ?_
  refine CJ.seq ?_
  refine CJ.region ?_
  refine rv rfl rfl rfl (mv_r rfl) ?_
  refine callX (Φ := fun W b w1 => W.heap.size ≤ b ∧ w1.heap[b]? = some (.cells #[.int .u64 k] 148 (0, 0))) Tryz.call122 rfl rfl rfl (fun W hS => group_digits _ W) ?_
  intro Wd bd wd hSd hBd hPd
  obtain ⟨hbd1, hbd2⟩ := hPd
  have hUd := hSd.under
  simp only [Under, List.set_cons_zero, List.set_cons_succ] at hUd
  have hAd := hSd.sizes
  simp only [Above] at hAd
  have hzd := hBd.size
  refine OJ.done ?_
  refine PJ.next ?_
  refine CJ.block ?_
  refine CJ.range (f := 147) (cap := [ptr bd 0]) (α := Bool) (enc := (fun x : Bool => [.bool x])) (xs := bitsOf k.toNat) (MI := fun _ => False) (RO := fun k => k = bd) rfl Tryz.call147 (fun W W2 hS hB => by have e : (.int .u64 k : Value) = .int .u64 ((k.toNat : Nat) : Int) := (by rw [Int.toNat_of_nonneg hk]); exact digits_iter k.toNat (by omega) bd W2 (by rw [← e, hB.block bd (by have := (hS.sizes); simp only [Above] at this; have := (Array.getElem?_eq_some_iff.1 hbd2).1; omega)]; exact hS.old (.head _) hbd2 (fun h => h) (by simp only [Off, List.set_cons_zero, ne_eq, and_true]; omega))) (fun _ _ _ hk => hk.elim) (fun W hS k hk => by subst hk; have := hS.sizes; simp only [Above] at this; have := (Array.getElem?_eq_some_iff.1 hbd2).1; refine ⟨by omega, by simp only [List.set_cons_zero, List.map_cons, List.map_nil, List.mem_singleton]; omega, fun h => h⟩) (fun _ => rfl) (fun pre Hc => Hc = [(b5, .cells #[.int .u64 (powBits a 4611686018427377339 pre 1)] 148 (0, 0))]) (fun _ _ => False) rfl (by rintro pre Hc rfl; rfl) (fun _ _ hk => hk.elim) (by decide) ?_ ?_ ?_
  · rintro pre x Hc l Dk rec Wy hrs hrp hpre rfl haD hlD hlW haW
    simp only [Above] at haD haW
    have hbd := powBits_bd a 4611686018427377339 (by decide) pre 1 (by decide) (by decide)
    have hX := Int.emod_nonneg (powBits a 4611686018427377339 pre 1 * powBits a 4611686018427377339 pre 1) (b := 4611686018427377339) (by decide)
    have hX1 := Int.emod_lt_of_pos (powBits a 4611686018427377339 pre 1 * powBits a 4611686018427377339 pre 1) (b := 4611686018427377339) (by decide)
    refine CJ.region ?_
    refine rv rfl rfl rfl (asg_r rfl) ?_
    refine OJ.done ?_
    refine PJ.begin hrs ?_
    refine CJ.block ?_
    refine CJ.seq ?_
    refine CJ.region ?_
    refine rv rfl rfl rfl (ldW_r (i := 0) rfl Tryz.isAgg148 rfl rfl) ?_
    refine rv rfl rfl rfl (ldW_r (i := 0) rfl Tryz.isAgg148 rfl rfl) ?_
    refine call Tryz.call97 rfl rfl rfl (fun W hS => group_times _ _ (by omega) (by omega) (by omega) (by omega) W) ?_
    refine stWw (i := 0) rfl Tryz.sizeOf148 rfl rfl rfl rfl rfl rfl ?_
    refine OJ.done ?_
    refine PJ.next ?_
    refine CJ.seq ?_
    refine CJ.region ?_
    refine rv rfl rfl rfl (mv_r rfl) ?_
    refine OJ.done ?_
    refine PJ.next ?_
    refine CJ.cond rfl (fun hc1 => ?_) (fun hc1 => ?_)
    · try simp only [decide_eq_true_eq, decide_eq_false_iff_not, Bool.not_eq_true', Bool.not_eq_false'] at hc1
      refine CJ.region ?_
      refine rv rfl rfl rfl (ldW_r (i := 0) rfl Tryz.isAgg148 rfl rfl) ?_
      refine rv rfl rfl rfl (ldR_r Tryz.isAgg148 rfl (.tail _ (.tail _ (.head _))) hb2 hm2 (by first | (simp only [Off, book, List.cons_append, List.nil_append, List.set_cons_zero, List.set_cons_succ, List.eraseIdx_cons_zero, List.eraseIdx_cons_succ, ne_eq, and_true]; omega) | (simp [Off] <;> omega)) rfl) ?_
      refine call Tryz.call97 rfl rfl rfl (fun W hS => group_times _ _ (by omega) (by omega) (by omega) (by omega) W) ?_
      refine stWw (i := 0) rfl Tryz.sizeOf148 rfl rfl rfl rfl rfl rfl ?_
      refine OJ.done ?_
      refine PJ.norBlock ?_
      exact PJ.roundN (Hc := [(b5, .cells #[.int .u64 (powBits a 4611686018427377339 pre 1 * powBits a 4611686018427377339 pre 1 % 4611686018427377339 * a % 4611686018427377339)] 148 (0, 0))]) (fun _ hk => hk) (by cases rec; simp_all) (by rw [powBits_snoc, hc1]; rfl)
    · try simp only [decide_eq_true_eq, decide_eq_false_iff_not, Bool.not_eq_true', Bool.not_eq_false'] at hc1
      refine CJ.skip ?_
      refine PJ.norBlock ?_
      exact PJ.roundN (Hc := [(b5, .cells #[.int .u64 (powBits a 4611686018427377339 pre 1 * powBits a 4611686018427377339 pre 1 % 4611686018427377339)] 148 (0, 0))]) (fun _ hk => hk) (by cases rec; simp_all) (by rw [powBits_snoc, hc1]; rfl)
  · rintro l Dk rec Hc haD hlD rfl
    simp only [Above] at haD
    refine PJ.norBlock ?_
    refine PJ.next ?_
    refine CJ.seq ?_
    refine CJ.region ?_
    refine rv rfl rfl rfl (ldW_r (i := 0) rfl Tryz.isAgg148 rfl rfl) ?_
    refine rv rfl rfl rfl (asg_r rfl) ?_
    refine OJ.done ?_
    refine PJ.next ?_
    refine CJ.ret ?_
    refine retM1 (.inl rfl) Tryz.results94 rfl (by simp [book]) (fun W H' hS hmap => ⟨?_, ?_⟩)
    · exact congrArg Ending.returned rfl
    · refine (hS.links w (.tail _ (.tail _ (.head _)))).below fun k hk hx => ?_
      rw [hmap] at hx; simp [Gh.no, book] at hx; omega
  · exact fun _ _ _ _ _ _ _ hk => hk.elim
end Px
namespace Px
open Go Go.RowKit Go.Proofs
theorem powM_bd (a k m : Int) (hm : 1 < m) : 0 ≤ powM a k m ∧ powM a k m < m := powBits_bd a m (by omega) _ 1 (by omega) hm
/-- an element of the group -/
abbrev GOk (a : Int) : Prop := 1 ≤ a ∧ a < 4611686018427377339 ∧ powM a 2305843009213688669 4611686018427377339 = 1
def gExp (a k : Int) : Int × Int := if GOk a then if 0 ≤ k ∧ k < 2305843009213688669 then (powM a k 4611686018427377339, 0) else (0, 1) else (0, 40)
def eTup (p : Int × Int) : Value := .tuple #[.int .i64 p.1, .int .i64 p.2]
/-- chartroom/group.Check -/
theorem group_Check (a : Int) (w : World) :
    Calls Tryz.prog 44 #[.int .i64 a] w (Ret w (.int .i64 (if GOk a then 0 else 40))) := by
  have hp := powM_bd a 2305843009213688669 4611686018427377339 (by decide)
  refine enter (vs := [_]) Tryz.func44 rfl Tryz.ntmps44 rfl ?_
  refine CJ.seq ?_
  refine CJ.region ?_
  refine rv rfl rfl rfl (asg_r rfl) ?_
  refine OJ.done ?_
  refine PJ.next ?_
  refine CJ.seq ?_
  refine CJ.seq ?_
  refine CJ.region ?_
  refine rv rfl rfl rfl (mv_r rfl) ?_
  refine rv rfl rfl rfl (lss_r rfl rfl) ?_
  refine rv rfl rfl rfl (mv_r rfl) ?_
  refine OJ.split (t := 5) rfl (fun hc1 => ?_) (fun hc1 => ?_)
  · try simp only [decide_eq_true_eq, decide_eq_false_iff_not, Bool.not_eq_true', Bool.not_eq_false'] at hc1
    refine OJ.off rfl (by decide) rfl ?_
    refine OJ.off rfl (by decide) rfl ?_
    refine rv rfl rfl rfl (pkT_r rfl rfl) ?_
    refine rv rfl rfl rfl (mv_r rfl) ?_
    refine OJ.off rfl (by decide) rfl ?_
    refine OJ.off rfl (by decide) rfl ?_
    refine OJ.off rfl (by decide) rfl ?_
    refine OJ.off rfl (by decide) rfl ?_
    refine rv rfl rfl rfl (pkT_r rfl rfl) ?_
    refine OJ.done ?_
    refine PJ.next ?_
    refine CJ.condT rfl ?_
    refine CJ.seq ?_
    refine CJ.region ?_
    refine rv rfl rfl rfl (asg_r rfl) ?_
    refine OJ.done ?_
    refine PJ.next ?_
    refine CJ.ret ?_
    refine PJ.retThen ?_
    refine retV Tryz.results44 rfl (.head _) ?_
    refine congrArg (Value.int .i64) ?_
    split <;> omega
  · try simp only [decide_eq_true_eq, decide_eq_false_iff_not, Bool.not_eq_true', Bool.not_eq_false'] at hc1
    refine rv rfl rfl rfl (mv_r rfl) ?_
    refine rv rfl rfl rfl (geq_r rfl rfl) ?_
    refine rv rfl rfl rfl (pkF_r rfl rfl) ?_
    refine rv rfl rfl rfl (mv_r rfl) ?_
    refine OJ.split (t := 9) rfl (fun hc2 => ?_) (fun hc2 => ?_)
    · try simp only [decide_eq_true_eq, decide_eq_false_iff_not, Bool.not_eq_true', Bool.not_eq_false'] at hc2
      refine OJ.off rfl (by decide) rfl ?_
      refine OJ.off rfl (by decide) rfl ?_
      refine OJ.off rfl (by decide) rfl ?_
      refine OJ.off rfl (by decide) rfl ?_
      refine rv rfl rfl rfl (pkT_r rfl rfl) ?_
      refine OJ.done ?_
      refine PJ.next ?_
      refine CJ.condT rfl ?_
      refine CJ.seq ?_
      refine CJ.region ?_
      refine rv rfl rfl rfl (asg_r rfl) ?_
      refine OJ.done ?_
      refine PJ.next ?_
      refine CJ.ret ?_
      refine PJ.retThen ?_
      refine retV Tryz.results44 rfl (.head _) ?_
      refine congrArg (Value.int .i64) ?_
      split <;> omega
    · try simp only [decide_eq_true_eq, decide_eq_false_iff_not, Bool.not_eq_true', Bool.not_eq_false'] at hc2
      refine rv rfl rfl rfl (mv_r rfl) ?_
      refine rv rfl rfl rfl (cvtU_r Tryz.underlying3 Tryz.underlying148 rfl (by omega) (by omega)) ?_
      refine call Tryz.call94 rfl rfl rfl (fun W hS => group_power _ _ (by omega) (by omega) (by omega) (by omega) W) ?_
      refine rv rfl rfl rfl (neqI_r rfl rfl) ?_
      refine rv rfl rfl rfl (pkF_r rfl rfl) ?_
      refine OJ.done ?_
      refine PJ.next ?_
      refine CJ.cond rfl (fun hc3 => ?_) (fun hc3 => ?_)
      · try simp only [decide_eq_true_eq, decide_eq_false_iff_not, Bool.not_eq_true', Bool.not_eq_false'] at hc3
        refine CJ.seq ?_
        refine CJ.region ?_
        refine rv rfl rfl rfl (asg_r rfl) ?_
        refine OJ.done ?_
        refine PJ.next ?_
        refine CJ.ret ?_
        refine PJ.retThen ?_
        refine retV Tryz.results44 rfl (.head _) ?_
        refine congrArg (Value.int .i64) ?_
        split <;> omega
      · try simp only [decide_eq_true_eq, decide_eq_false_iff_not, Bool.not_eq_true', Bool.not_eq_false'] at hc3
        refine CJ.skip ?_
        refine PJ.next ?_
        refine CJ.seq ?_
        refine CJ.region ?_
        refine rv rfl rfl rfl (asg_r rfl) ?_
        refine OJ.done ?_
        refine PJ.next ?_
        refine CJ.ret ?_
        refine retV Tryz.results44 rfl (.head _) ?_
        refine congrArg (Value.int .i64) ?_
        split <;> omega
/-- chartroom/group.Exp -/
theorem group_Exp (a k : Int) (w : World) :
    Calls Tryz.prog 47 #[.int .i64 a, .int .i64 k] w (Ret w (eTup (gExp a k))) := by
  have hp := powM_bd a k 4611686018427377339 (by decide)
  refine enter (vs := [_, _]) Tryz.func47 rfl Tryz.ntmps47 rfl ?_
  refine CJ.seq ?_
  refine CJ.region ?_
  refine rv rfl rfl rfl (asg_r rfl) ?_
  refine rv rfl rfl rfl (asg_r rfl) ?_
  refine OJ.done ?_
  refine PJ.next ?_
  refine CJ.seq ?_
  refine CJ.seq ?_
  refine CJ.region ?_
  refine rv rfl rfl rfl (mv_r rfl) ?_
  refine call Tryz.call44 rfl rfl rfl (fun W hS => group_Check _ W) ?_
  refine rv rfl rfl rfl (asg_r rfl) ?_
  refine OJ.done ?_
  refine PJ.next ?_
  refine CJ.seq ?_
  refine CJ.region ?_
  refine rv rfl rfl rfl (mv_r rfl) ?_
  refine rv rfl rfl rfl (neqI_r rfl rfl) ?_
  refine OJ.done ?_
  refine PJ.next ?_
  refine CJ.cond rfl (fun hc1 => ?_) (fun hc1 => ?_)
  · try simp only [decide_eq_true_eq, decide_eq_false_iff_not, Bool.not_eq_true', Bool.not_eq_false'] at hc1
    refine CJ.seq ?_
    have hg : ¬ GOk a := fun h => by simp [if_pos h] at hc1
    refine CJ.region ?_
    refine rv rfl rfl rfl (mv_r rfl) ?_
    refine rv rfl rfl rfl (asg_r rfl) ?_
    refine rv rfl rfl rfl (asg_r rfl) ?_
    refine OJ.done ?_
    refine PJ.next ?_
    refine CJ.ret ?_
    refine PJ.retThen ?_
    refine retV2 Tryz.results47 rfl rfl (.head _) ?_ ?_
    all_goals (refine congrArg (Value.int .i64) ?_; unfold gExp; first | (simp only [if_neg hg]; done) | (rw [if_pos hg]; first | (rw [if_neg (by omega)]; done) | (rw [if_pos (by omega)]; done)))
  · try simp only [decide_eq_true_eq, decide_eq_false_iff_not, Bool.not_eq_true', Bool.not_eq_false'] at hc1
    refine CJ.skip ?_
    refine PJ.next ?_
    refine CJ.seq ?_
    refine CJ.seq ?_
    have hg : GOk a := Decidable.byContradiction fun h => by simp [if_neg h] at hc1
    refine CJ.region ?_
    refine rv rfl rfl rfl (mv_r rfl) ?_
    refine rv rfl rfl rfl (lss_r rfl rfl) ?_
    refine rv rfl rfl rfl (mv_r rfl) ?_
    refine OJ.split (t := 14) rfl (fun hc2 => ?_) (fun hc2 => ?_)
    · try simp only [decide_eq_true_eq, decide_eq_false_iff_not, Bool.not_eq_true', Bool.not_eq_false'] at hc2
      refine OJ.off rfl (by decide) rfl ?_
      refine OJ.off rfl (by decide) rfl ?_
      refine rv rfl rfl rfl (pkT_r rfl rfl) ?_
      refine OJ.done ?_
      refine PJ.next ?_
      refine CJ.condT rfl ?_
      refine CJ.seq ?_
      refine CJ.region ?_
      refine rv rfl rfl rfl (asg_r rfl) ?_
      refine rv rfl rfl rfl (asg_r rfl) ?_
      refine OJ.done ?_
      refine PJ.next ?_
      refine CJ.ret ?_
      refine PJ.retThen ?_
      refine retV2 Tryz.results47 rfl rfl (.head _) ?_ ?_
      all_goals (refine congrArg (Value.int .i64) ?_; unfold gExp; first | (simp only [if_neg hg]; done) | (rw [if_pos hg]; first | (rw [if_neg (by omega)]; done) | (rw [if_pos (by omega)]; done)))
    · try simp only [decide_eq_true_eq, decide_eq_false_iff_not, Bool.not_eq_true', Bool.not_eq_false'] at hc2
      refine rv rfl rfl rfl (mv_r rfl) ?_
      refine rv rfl rfl rfl (geq_r rfl rfl) ?_
      refine rv rfl rfl rfl (pkF_r rfl rfl) ?_
      refine OJ.done ?_
      refine PJ.next ?_
      refine CJ.cond rfl (fun hc3 => ?_) (fun hc3 => ?_)
      · try simp only [decide_eq_true_eq, decide_eq_false_iff_not, Bool.not_eq_true', Bool.not_eq_false'] at hc3
        refine CJ.seq ?_
        refine CJ.region ?_
        refine rv rfl rfl rfl (asg_r rfl) ?_
        refine rv rfl rfl rfl (asg_r rfl) ?_
        refine OJ.done ?_
        refine PJ.next ?_
        refine CJ.ret ?_
        refine PJ.retThen ?_
        refine retV2 Tryz.results47 rfl rfl (.head _) ?_ ?_
        all_goals (refine congrArg (Value.int .i64) ?_; unfold gExp; first | (simp only [if_neg hg]; done) | (rw [if_pos hg]; first | (rw [if_neg (by omega)]; done) | (rw [if_pos (by omega)]; done)))
      · try simp only [decide_eq_true_eq, decide_eq_false_iff_not, Bool.not_eq_true', Bool.not_eq_false'] at hc3
        refine CJ.skip ?_
        refine PJ.next ?_
        refine CJ.seq ?_
        refine CJ.region ?_
        refine rv rfl rfl rfl (mv_r rfl) ?_
        refine rv rfl rfl rfl (cvtU_r Tryz.underlying3 Tryz.underlying148 rfl (by omega) (by omega)) ?_
        refine rv rfl rfl rfl (mv_r rfl) ?_
        refine rv rfl rfl rfl (cvtU_r Tryz.underlying3 Tryz.underlying148 rfl (by omega) (by omega)) ?_
        refine call Tryz.call94 rfl rfl rfl (fun W hS => group_power _ _ (by omega) (by omega) (by omega) (by omega) W) ?_
        refine rv rfl rfl rfl (cvtI_r Tryz.underlying148 Tryz.underlying3 rfl (by omega) (by omega)) ?_
        refine rv rfl rfl rfl (asg_r rfl) ?_
        refine rv rfl rfl rfl (asg_r rfl) ?_
        refine OJ.done ?_
        refine PJ.next ?_
        refine CJ.ret ?_
        refine retV2 Tryz.results47 rfl rfl (.head _) ?_ ?_
        all_goals (refine congrArg (Value.int .i64) ?_; unfold gExp; first | (simp only [if_neg hg]; done) | (rw [if_pos hg]; first | (rw [if_neg (by omega)]; done) | (rw [if_pos (by omega)]; done)))
/-- chartroom/group.Base -/
theorem group_Base (k : Int) (w : World) :
    Calls Tryz.prog 46 #[.int .i64 k] w (Ret w (eTup (gExp 4 k))) := by
  
  refine enter (vs := [_]) Tryz.func46 rfl Tryz.ntmps46 rfl ?_
  refine CJ.seq ?_
  refine CJ.region ?_
  refine rv rfl rfl rfl (asg_r rfl) ?_
  refine rv rfl rfl rfl (asg_r rfl) ?_
  refine OJ.done ?_
  refine PJ.next ?_
  refine CJ.seq ?_
  refine CJ.region ?_
  refine rv rfl rfl rfl (mv_r rfl) ?_
  refine call Tryz.call47 rfl rfl rfl (fun W hS => group_Exp _ _ W) ?_
  refine rv rfl rfl rfl (ext_r rfl rfl) ?_
  refine rv rfl rfl rfl (ext_r rfl rfl) ?_
  refine rv rfl rfl rfl (asg_r rfl) ?_
  refine rv rfl rfl rfl (asg_r rfl) ?_
  refine OJ.done ?_
  refine PJ.next ?_
  refine CJ.ret ?_
  refine retV2 Tryz.results46 rfl rfl (.head _) ?_ ?_
  all_goals rfl
theorem or_byte (x b : Int) (h0 : 0 ≤ b) (h1 : b < 256) : IntKind.u64.wrap (BitVec.ofInt IntKind.u64.bits (IntKind.u64.wrap (x * 256)) ||| BitVec.ofInt IntKind.u64.bits b).toNat = (x * 256) % 18446744073709551616 + b := by
  obtain ⟨y, hy⟩ : ∃ y : Nat, (x * 256) % 18446744073709551616 = ((y * 2 ^ 8 : Nat) : Int) := ⟨((x * 256) % 18446744073709551616 / 256).toNat, by omega⟩
  obtain ⟨c, rfl⟩ := Int.eq_ofNat_of_zero_le h0
  rw [hy, (wrap_u64' (x * 256)).trans hy, or_re y c 8 (by omega) (by omega)]
  omega
theorem restDiv (n b m : Int) : n / 72057594037927936 * 18446744073709551616 + (n * 256 % 18446744073709551616 + b) = n * 256 + b := by omega
/-- the rest of a number of bytes -/
def foldB (m : Int) : List Int → Int → Int
  | [], n => n
  | b :: bs, n => foldB m bs ((n * 256 + b) % m)
theorem foldB_snoc (m : Int) (bs : List Int) (b n : Int) : foldB m (bs ++ [b]) n = (foldB m bs n * 256 + b) % m := by
  induction bs generalizing n with
  | nil => rfl
  | cons x bs ih => simp only [List.cons_append, foldB]; exact ih _
theorem foldB_bd (m : Int) (hm : 0 < m) (bs : List Int) (n : Int) (h0 : 0 ≤ n) (h1 : n < m) : 0 ≤ foldB m bs n ∧ foldB m bs n < m := by
  induction bs generalizing n with
  | nil => exact ⟨h0, h1⟩
  | cons x bs ih => exact ih _ (Int.emod_nonneg _ (by omega)) (Int.emod_lt_of_pos _ hm)
/-- chartroom/group.rest$1 -/
theorem group_rest1 (c n m : Int) (b b2 : Nat) (hc : 0 ≤ c) (hc1 : c < 256) (hn : 0 ≤ n) (hnm : n < m) (hm : m < 72057594037927936*256) (w : World) (hb : w.heap[b]? = some (.cells #[.int .u64 n] 148 (0, 0))) (hb2 : w.heap[b2]? = some (.cells #[.int .u64 m] 148 (0, 0))) (hne : b ≠ b2) :
    Calls Tryz.prog 149 #[.int .u8 c, ptr b 0, ptr b2 0] w (RetM w (.tuple #[]) b (.cells #[.int .u64 ((n * 256 + c) % m)] 148 (0, 0))) := by
  have hm2 : ¬ Gh.no.M b2 := fun h => h
  refine enterG Gh.no [(b, _)] (vs := [_, _, _]) Tryz.func149 rfl Tryz.ntmps149 rfl (st_own hb) ?_
  refine CJ.region ?_
  refine rv rfl rfl rfl (ldW_r (i := 0) rfl Tryz.isAgg148 rfl rfl) ?_
  refine rv rfl rfl rfl (shrC_r 56 72057594037927936 (by decide) rfl rfl rfl) ?_
  refine rv rfl rfl rfl (ldW_r (i := 0) rfl Tryz.isAgg148 rfl rfl) ?_
  refine rv rfl rfl rfl (shlC_r 8 256 (by decide) rfl rfl rfl) ?_
  refine rv rfl rfl rfl (mv_r rfl) ?_
  refine rv rfl rfl rfl (cvtU_r Tryz.underlying5 Tryz.underlying148 rfl (by omega) (by omega)) ?_
  refine rv rfl rfl rfl (RV.re (v' := .int .u64 ((n * 256) % 18446744073709551616 + c)) (orW_r rfl rfl) (congrArg (Value.int .u64) (or_byte n c hc hc1))) ?_
  refine rv rfl rfl rfl (ldR_r Tryz.isAgg148 rfl (.head _) hb2 hm2 (by first | (simp only [Off, book, List.cons_append, List.nil_append, List.set_cons_zero, List.set_cons_succ, List.eraseIdx_cons_zero, List.eraseIdx_cons_succ, ne_eq, and_true]; omega) | (simp [Off] <;> omega)) rfl) ?_
  refine call Tryz.call126 rfl rfl rfl (fun W hS => bits_Div64 _ _ _ (by omega) (by omega) (by omega) (by omega) (by omega) W) ?_
  refine rv rfl rfl rfl (mv_r rfl) ?_
  refine rv rfl rfl rfl (ext_r rfl rfl) ?_
  refine rv rfl rfl rfl (RV.re (v' := .int .u64 ((n * 256 + c) % m)) (ext_r rfl rfl) (congrArg (Value.int .u64) (by rw [restDiv n c m]))) ?_
  refine stW (i := 0) rfl Tryz.sizeOf148 rfl rfl rfl rfl (Nat.le_of_ble_eq_true rfl) rfl ?_
  refine OJ.done ?_
  refine retG (.inr rfl) Tryz.results149 RS.n (fun W hS => ⟨rfl, (hS.links w (.head _)).mono fun k _ hk => ?_, hS.own _ (.head _)⟩)
  simpa [Gh.no] using hk
/-- 32 bytes, as an array's cells -/
def dg (f : Nat → Int) : Array Value := #[.int .u8 (f 0), .int .u8 (f 1), .int .u8 (f 2), .int .u8 (f 3), .int .u8 (f 4), .int .u8 (f 5), .int .u8 (f 6), .int .u8 (f 7), .int .u8 (f 8), .int .u8 (f 9), .int .u8 (f 10), .int .u8 (f 11), .int .u8 (f 12), .int .u8 (f 13), .int .u8 (f 14), .int .u8 (f 15), .int .u8 (f 16), .int .u8 (f 17), .int .u8 (f 18), .int .u8 (f 19), .int .u8 (f 20), .int .u8 (f 21), .int .u8 (f 22), .int .u8 (f 23), .int .u8 (f 24), .int .u8 (f 25), .int .u8 (f 26), .int .u8 (f 27), .int .u8 (f 28), .int .u8 (f 29), .int .u8 (f 30), .int .u8 (f 31)]
def dgL (f : Nat → Int) : List Int := (List.range 32).map f
abbrev Byt (f : Nat → Int) : Prop := ∀ i, 0 ≤ f i ∧ f i < 256
theorem dg_at (f : Nat → Int) (i : Nat) (h : i < 32) : (dg f)[i]? = some (.int .u8 (f i)) := by
  have e : dg f = ((List.range 32).map fun i => Value.int .u8 (f i)).toArray := rfl
  rw [e]; simp [h]
theorem dgL_take (f : Nat → Int) (j : Nat) (h : j < 32) : (dgL f).take (j + 1) = (dgL f).take j ++ [f j] := by
  have hl : j < (dgL f).length := by simp [dgL]; exact h
  rw [List.take_succ_eq_append_getElem hl]
  simp [dgL]
/-- chartroom/group.rest -/
theorem group_rest (f : Nat → Int) (hf : Byt f) (m : Int) (hm0 : 0 < m) (hm : m < 72057594037927936*256) (w : World) :
    Calls Tryz.prog 124 #[.agg (dg f), .int .u64 m] w (Ret w (.int .u64 (foldB m (dgL f) 0))) := by
  
  refine enter (vs := [_, _]) Tryz.func124 rfl Tryz.ntmps124 rfl ?_
  refine CJ.seq ?_
  refine CJ.region ?_
  refine boxR rfl rfl rfl ?_
  intro b2 w2 hb2 ha2 ho2 hm2 hz2
  simp only [Above] at ha2
  try simp only [Off, book, List.cons_append, List.nil_append, List.set_cons_zero, List.set_cons_succ, ne_eq] at ho2
  refine boxR rfl rfl rfl ?_
  intro b3 w3 hb3 ha3 ho3 hm3 hz3
  simp only [Above] at ha3
  try simp only [Off, book, List.cons_append, List.nil_append, List.set_cons_zero, List.set_cons_succ, ne_eq] at ho3
  refine allW Tryz.zeroValue148 rfl rfl ?_
  intro b4 ha4 ho4
  simp only [Above] at ha4
  try simp only [Off, book, List.cons_append, List.nil_append, List.set_cons_zero, List.set_cons_succ, ne_eq] at ho4
  refine OJ.done ?_
  refine PJ.next ?_
  refine CJ.seq ?_
  refine CJ.region ?_
  refine rv rfl rfl rfl (mkF_r rfl) ?_
  refine rv rfl rfl rfl (asg_r rfl) ?_
  refine OJ.done ?_
  refine PJ.next ?_
  refine CJ.seq ?_
  refine CJ.seq ?_
  refine CJ.region ?_
  refine rv rfl rfl rfl (ldRAw_r Tryz.isAgg26 Tryz.sizeOf26 rfl (.tail _ (.head _)) hb2 hm2 (by first | (simp only [Off, book, List.cons_append, List.nil_append, List.set_cons_zero, List.set_cons_succ, List.eraseIdx_cons_zero, List.eraseIdx_cons_succ, ne_eq, and_true]; omega) | (simp [Off] <;> omega)) rfl) ?_
  refine rv rfl rfl rfl (mv_r rfl) ?_
  refine OJ.done ?_
  refine PJ.next ?_
  refine CJ.block ?_
  refine CJ.loop (α := Nat) (fun j => [(2, ptr b2 0), (3, ptr b3 0), (4, ptr b4 0), (5, .func (.func 149) #[] #[ptr b4 0, ptr b3 0]), (9, .agg (dg f)), (10, .int .i64 (j : Int))]) (fun j => [(b4, .cells #[.int .u64 (foldB m ((dgL f).take j) 0)] 148 (0, 0))]) (fun j => [w3, w2, w]) (fun j => Gh.no) (fun j => j ≤ 32) (fun j => 32 - j) 0 (by decide) ⟨rfl, rfl, rfl, rfl, rfl, rfl, trivial⟩ rfl rfl (by simp) ?_
  rintro j hj
  have hbd := foldB_bd m hm0 ((dgL f).take j) 0 (by decide) hm0
  refine CJ.seq ?_
  refine CJ.region ?_
  refine rv rfl rfl rfl (lss_r rfl rfl) ?_
  refine OJ.done ?_
  refine PJ.next ?_
  refine CJ.seq ?_
  refine CJ.cond rfl (fun hc1 => ?_) (fun hc1 => ?_)
  · try simp only [decide_eq_true_eq, decide_eq_false_iff_not, Bool.not_eq_true', Bool.not_eq_false'] at hc1
    refine CJ.skip ?_
    refine PJ.next ?_
    refine CJ.seq ?_
    refine CJ.block ?_
    refine CJ.seq ?_
    refine CJ.region ?_
    refine rv rfl rfl rfl (RV.re (v' := .int .u8 (f j)) (idxV_r Tryz.underlying26 Tryz.isAgg5 Tryz.sizeOf5 rfl rfl (by omega) (by omega) (dg_at f _ (by omega))) (congrArg (fun k => Value.int .u8 (f k)) (by omega))) ?_
    refine rv rfl rfl rfl (asg_r rfl) ?_
    refine OJ.done ?_
    refine PJ.next ?_
    refine CJ.region ?_
    refine rv rfl rfl rfl (mv_r rfl) ?_
    refine rv rfl rfl rfl (mv_r rfl) ?_
    refine callCM (f := 149) (i := 0) (first := []) (cap := [ptr b4 0, ptr b3 0]) rfl rfl Tryz.call149 rfl rfl rfl (fun W hS hW => group_rest1 _ _ _ _ _ (hf j).1 (hf j).2 hbd.1 hbd.2 hm W hW (hS.old (.head _) hb3 hm3 (by simp only [Off, List.set_cons_zero, List.set_cons_succ, ne_eq, and_true]; omega)) (by omega)) ?_
    refine OJ.done ?_
    refine PJ.norBlock ?_
    refine PJ.next ?_
    refine CJ.region ?_
    refine rv rfl rfl rfl (addI_r rfl rfl (by omega) (by omega)) ?_
    refine rv rfl rfl rfl (mv_r rfl) ?_
    refine OJ.done ?_
    refine PJ.reH (H' := [(b4, .cells #[.int .u64 (foldB m ((dgL f).take (j + 1)) 0)] 148 (0, 0))]) (by rw [dgL_take f j (by omega), foldB_snoc]; rfl) ?_
    refine PJ.again (j + 1) (by omega) (by omega) ⟨rfl, rfl, rfl, rfl, rfl, rfl, trivial⟩ rfl rfl (by simp)
  · try simp only [decide_eq_true_eq, decide_eq_false_iff_not, Bool.not_eq_true', Bool.not_eq_false'] at hc1
    refine CJ.exit ?_
    refine PJ.exThen ?_
    refine PJ.exThen ?_
    refine PJ.exHit ?_
    refine PJ.next ?_
    refine CJ.seq ?_
    refine CJ.region ?_
    refine rv rfl rfl rfl (ldW_r (i := 0) rfl Tryz.isAgg148 rfl rfl) ?_
    refine stWw (i := 0) rfl Tryz.sizeOf148 rfl rfl rfl rfl rfl rfl ?_
    refine OJ.done ?_
    refine PJ.next ?_
    refine CJ.ret ?_
    refine retO (.inl rfl) Tryz.results124 (RS.w (i := 0) rfl Tryz.isAgg148 rfl rfl (RS.n)) (.tail _ (.tail _ (.head _))) (by first | (simp only [Over, List.set_cons_zero, List.set_cons_succ, List.eraseIdx_cons_zero, List.eraseIdx_cons_succ, and_true]; omega) | (simp [Over] <;> omega)) ?_
    exact congrArg (Value.int .u64) (by rw [List.take_of_length_le (by simp [dgL]; omega)])
end Px
