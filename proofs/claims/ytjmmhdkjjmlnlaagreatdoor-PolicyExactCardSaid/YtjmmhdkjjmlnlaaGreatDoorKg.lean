/- Contracts of the packages sign and chartroomref05. No condition beyond those that each theorem states. -/
import Derived.Test.YtjmmhdkjjmlnlaaGreatDoorKf
import Derived.Test.YtjmmhdkjjmlnlaaGreatDoorProg
import Derived.Test.YtjmmhdkjjmlnlaaGreatDoorXe
set_option linter.unusedSimpArgs false
set_option linter.unusedVariables false
set_option linter.unusedSectionVars false
namespace Px
open Go Go.RowKit Go.Proofs
/-- bytes somewhere in memory -/
def SegU (w : World) (b off : Nat) (zs : List UInt8) : Prop := ∃ cs t fr, w.heap[b]? = some (.cells cs t fr) ∧ off + zs.length ≤ cs.size ∧ ∀ i, i < zs.length → cs[off + i]? = some (.int .u8 (fU zs i))
theorem SegU.up {w w' : World} {b off : Nat} {zs : List UInt8} (h : SegU w b off zs) (hb : w'.heap[b]? = w.heap[b]?) : SegU w' b off zs := by
  obtain ⟨cs, t, fr, h1, h2, h3⟩ := h
  exact ⟨cs, t, fr, hb.trans h1, h2, h3⟩
theorem SegU.lt {w : World} {b off : Nat} {zs : List UInt8} (h : SegU w b off zs) : b < w.heap.size := by
  obtain ⟨cs, t, fr, h1, _⟩ := h
  exact (Array.getElem?_eq_some_iff.1 h1).1
theorem SegU.old {w W : World} {b off : Nat} {zs : List UInt8} {G : Gh} {L : List World} {H : Heap} (h : SegU w b off zs) (hS : St G L H W) (hw : w ∈ L) (hX : ¬ G.X b) (hO : Off H b) : SegU W b off zs := by
  obtain ⟨cs, t, fr, h1, h2, h3⟩ := h
  exact ⟨cs, t, fr, hS.old hw h1 hX hO, h2, h3⟩
theorem SegU.row {W : World} {b e : Nat} {zs : List UInt8} {sp : List Value} (h : W.heap[b]? = some (rowC e zs sp)) : SegU W b 0 zs :=
  ⟨_, _, _, h, by simp only [List.size_toArray, List.length_append, ub_len]; omega, fun i hi => ub_at _ _ i hi⟩
theorem SrcB.seg {C : Cx} {G : Gh} {L : List World} {H : Heap} {tx e' b off c : Nat} {zs : List UInt8} {w1 : World} (hU : C.P.underlying tx = some (.slice e')) (hm : w1 ∈ L) (h : SegU w1 b off zs) (hG : ¬ G.X b) (hO : Off H b) : SrcB C G L H tx (.slice (some ⟨b, off, none⟩) zs.length c) zs := by
  obtain ⟨cs, t, fr, h1, h2, h3⟩ := h
  exact SrcJ.sl hU (Rd.old hm h1 hG hO (by omega) (by rw [byts_of h2 h3, ← ub_byts])) (by rw [ub_len, Nat.mul_one]) (ub_one _)
/-- the tables of SHA-256 lie in memory -/
def Glb (w : World) : Prop := (∃ t fr, w.heap[0]? = some (.cells S8.init.cells t fr)) ∧ (∃ t fr, w.heap[1]? = some (.cells (cf 64 (fun i => u32 (kk i))) t fr))
theorem Glb.lt {w : World} (h : Glb w) : 2 ≤ w.heap.size := by
  obtain ⟨_, t, fr, h⟩ := h
  have := (Array.getElem?_eq_some_iff.1 h).1
  omega
theorem Glb.old {w W : World} {G : Gh} {L : List World} {H : Heap} (h : Glb w) (hS : St G L H W) (hw : w ∈ L) (hX : ∀ k, k < 2 → ¬ G.X k) (hH : Over 2 H) : Glb W := by
  have hs := hS.same hw h.lt hX hH
  obtain ⟨⟨t, fr, h1⟩, t', fr', h2⟩ := h
  exact ⟨⟨t, fr, (hs 0 (by omega)).trans h1⟩, t', fr', (hs 1 (by omega)).trans h2⟩
/-- the scalar of bytes under a tag -/
def scalL (s : ByteArray) (xs : List UInt8) : Int := tScal s xs.length (fU xs)
theorem scalL_bd (s : ByteArray) (xs : List UInt8) : 1 ≤ scalL s xs ∧ scalL s xs < 2305843009213688669 := by
  have hbd := foldB_bd 2305843009213688668 (by decide) (dgL (tagged s xs.length (fU xs))) 0 (by decide) (by decide)
  unfold scalL tScal
  omega
/-- functions that are not to be looked into -/
structure Fx where
  sc : ByteArray → List UInt8 → Int
  tg : ByteArray → List UInt8 → Nat → Int
  ge : Int → Int → Int × Int
structure FxOk (Z : Fx) : Prop where
  sc : ∀ s xs, scalL s xs = Z.sc s xs
  tg : ∀ s xs, tagged s xs.length (fU xs) = Z.tg s xs
  ge : ∀ a k, gExp a k = Z.ge a k
theorem FxOk.bd {Z : Fx} (hZ : FxOk Z) (s : ByteArray) (xs : List UInt8) : 1 ≤ Z.sc s xs ∧ Z.sc s xs < 2305843009213688669 := by
  rw [← hZ.sc]; exact scalL_bd s xs
theorem FxOk.byt {Z : Fx} (hZ : FxOk Z) (s : ByteArray) (xs : List UInt8) : Byt (Z.tg s xs) := by
  rw [← hZ.tg]; exact tagged_byt _ _ _
theorem baseG {Z : Fx} (hZ : FxOk Z) (k : Int) (w : World) : Calls Tryz.prog 46 #[.int .i64 k] w (Ret w (eTup (Z.ge 4 k))) := by
  rw [← hZ.ge]; exact group_Base k w
theorem publicG {Z : Fx} (hZ : FxOk Z) (a : Int) (w : World) : Calls Tryz.prog 63 #[.int .i64 a] w (Ret w (.int .i64 (Z.ge 4 a).1)) := by
  rw [← hZ.ge]; exact sign_public a w
theorem scalG {Z : Fx} (hZ : FxOk Z) (s : ByteArray) (hs0 : s.size < 1000) (xs : List UInt8) (hn : xs.length < 900000000000) (b off c : Nat) (hc : xs.length ≤ c) (w : World) (h : SegU w b off xs) (hg : Glb w) : Calls Tryz.prog 96 #[.string s, .slice (some ⟨b, off, none⟩) xs.length c] w (Ret w (.int .i64 (Z.sc s xs))) := by
  rw [← hZ.sc]
  obtain ⟨cs, t, fr, h1, h2, h3⟩ := h
  obtain ⟨⟨t2, fr2, g1⟩, t3, fr3, g2⟩ := hg
  exact group_Scalar s xs.length (fU xs) b off c t t2 t3 fr fr2 fr3 cs hs0 hc (by omega) w h1 h2 h3 g1 g2
/-- the eight bytes of a number -/
def b8 (n : Int) (i : Nat) : UInt8 := UInt8.ofNat ((n % 18446744073709551616).toNat / 2 ^ (56 - 8 * i) % 256)
def be8 (n : Int) : List UInt8 := (List.range 8).map (b8 n)
theorem be8_len (n : Int) : (be8 n).length = 8 := by simp [be8]
theorem be8_take (n : Int) (i : Nat) (h : i < 8) : (be8 n).take (i + 1) = (be8 n).take i ++ [b8 n i] := by
  have hl : i < (be8 n).length := by rw [be8_len]; exact h
  rw [List.take_succ_eq_append_getElem hl]
  congr 2
  simp [be8]
theorem b8_re (n k : Int) (i : Nat) (hi : i < 8) (hk : k = 56 - 8 * (i : Int)) : (n % 18446744073709551616).fdiv (2 ^ (min (Int.toNat k) IntKind.u64.bits)) % 256 = ((b8 n i).toNat : Int) := by
  subst hk
  have e1 : min (Int.toNat (56 - 8 * (i : Int))) IntKind.u64.bits = 56 - 8 * i := by simp [IntKind.bits]; omega
  obtain ⟨m, hm⟩ : ∃ m : Nat, n % 18446744073709551616 = (m : Int) := ⟨(n % 18446744073709551616).toNat, by omega⟩
  rw [e1]
  unfold b8
  rw [hm, fdiv_pow, Int.toNat_natCast]
  simp only [UInt8.toNat_ofNat']
  rw [natdiv_pow]
  omega
def numsB (ns : List Int) : List UInt8 := ns.flatMap be8
theorem numsB_len (ns : List Int) : (numsB ns).length = 8 * ns.length := by
  induction ns with
  | nil => rfl
  | cons n ns ih => simp only [numsB, List.flatMap_cons, List.length_append, List.length_cons] at *; rw [be8_len]; omega
theorem numsB_take (ns : List Int) (j : Nat) (h : j < ns.length) : numsB (ns.take (j + 1)) = numsB (ns.take j) ++ be8 ns[j] := by
  rw [List.take_succ_eq_append_getElem h]
  unfold numsB
  rw [List.flatMap_append]
  simp
/-- a row, or none -/
def roV (ro : Option (Nat × Nat × List Value)) (ys : List UInt8) : Value := match ro with | none => .slice none 0 0 | some (b, c, _) => rowV b ys.length c
def roH (e : Nat) (ro : Option (Nat × Nat × List Value)) (ys : List UInt8) : Heap := match ro with | none => [] | some (b, _, sp) => [(b, rowC e ys sp)]
def RoOk (G : Gh) (L : List World) (ro : Option (Nat × Nat × List Value)) (ys : List UInt8) : Prop := match ro with | none => ys = [] | some (b, c, sp) => RowOk ys c sp ∧ Fr G L b
set_option maxHeartbeats 400000 in
/-- chartroom/sign.hash -/
theorem sign_hash {Z : Fx} (hZ : FxOk Z) (s : ByteArray) (hs0 : s.size < 1000) (msg : List UInt8) (bm om cm : Nat) (hml : msg.length ≤ 100000000000) (ns : List Int) (bn cn tn : Nat) (frn : Nat × Nat) (hn0 : 0 < ns.length) (hn1 : ns.length ≤ 1000) (w : World) (hmsg : SegU w bm om msg) (hbn : w.heap[bn]? = some (.cells (ns.map (Value.int .i64)).toArray tn frn)) (hg : Glb w) :
    Calls Tryz.prog 48 #[.string s, .slice (some ⟨bm, om, none⟩) msg.length cm, .slice (some ⟨bn, 0, none⟩) ns.length cn] w (Ret w (.int .i64 (Z.sc s (numsB ns ++ msg)))) := by
  have hbnl := (Array.getElem?_eq_some_iff.1 hbn).1
  have hmsl := hmsg.lt
  have hg4 := hg.lt
  refine enter (vs := [_, _, _]) Tryz.func48 rfl Tryz.ntmps48 rfl ?_
  refine CJ.seq ?_
  refine CJ.region ?_
  refine rv rfl rfl rfl (asg_r rfl) ?_
  refine OJ.done ?_
  refine PJ.next ?_
  refine CJ.seq ?_
  refine CJ.region ?_
  refine rv rfl rfl rfl (asg_r rfl) ?_
  refine OJ.done ?_
  refine PJ.next ?_
  refine CJ.seq ?_
  refine CJ.seq ?_
  refine CJ.region ?_
  refine rv rfl rfl rfl (mv_r rfl) ?_
  refine rv rfl rfl rfl (lenS_r Tryz.underlying22 rfl) ?_
  refine rv rfl rfl rfl (mv_r rfl) ?_
  refine OJ.done ?_
  refine PJ.next ?_
  refine CJ.block ?_
  refine CJ.loop (α := List UInt8 × Nat × Option (Nat × Nat × List Value)) (fun p => [(0, .string s), (1, .slice (some ⟨bm, om, none⟩) msg.length cm), (7, roV p.2.2 p.1), (11, .slice (some ⟨bn, 0, none⟩) ns.length cn), (12, .int .i64 (ns.length : Int)), (13, .int .i64 (p.2.1 : Int))]) (fun p => roH 5 p.2.2 p.1) (fun p => [w]) (fun p => Gh.no) (fun p => p.1 = numsB (ns.take p.2.1) ∧ p.2.1 ≤ ns.length ∧ RoOk Gh.no [w] p.2.2 p.1) (fun p => ns.length - p.2.1) ([], 0, none) ⟨rfl, Nat.zero_le _, rfl⟩ ⟨rfl, rfl, rfl, rfl, rfl, rfl, trivial⟩ rfl rfl (by simp) ?_
  rintro ⟨ys0, j, ro0⟩ ⟨hys0, hj, hro0⟩
  dsimp only at hys0 hj hro0 ⊢
  refine CJ.seq ?_
  refine CJ.region ?_
  refine rv rfl rfl rfl (lss_r rfl rfl) ?_
  refine OJ.done ?_
  refine PJ.next ?_
  refine CJ.seq ?_
  refine CJ.cond rfl (fun hc1 => ?_) (fun hc1 => ?_)
  · try simp only [decide_eq_true_eq, decide_eq_false_iff_not, Bool.not_eq_true', Bool.not_eq_false'] at hc1
    refine CJ.skip ?_
    refine PJ.next ?_
    refine CJ.seq ?_
    refine CJ.block ?_
    refine CJ.seq ?_
    refine CJ.region ?_
    refine rv rfl rfl rfl (idxS_r Tryz.underlying22 Tryz.sizeOf3 rfl rfl (by omega) (by omega)) ?_
    obtain ⟨n, hn⟩ : ∃ n, ns[j]'(by omega) = n := ⟨_, rfl⟩
    refine rv rfl rfl rfl (ldR_r (v := .int .i64 n) Tryz.isAgg3 rfl (.head _) hbn (fun h => h) (by cases ro0 with | none => trivial | some p => obtain ⟨b1, c1, s1⟩ := p; obtain ⟨hr, hf⟩ := hro0; simp only [Fr, Gh.no, Above, and_true, false_or] at hf; exact ⟨by dsimp only; omega, trivial⟩) (by simp only [List.getElem?_toArray, List.getElem?_map]; rw [List.getElem?_eq_getElem (by omega)]; simp [← hn])) ?_
    refine rv rfl rfl rfl (asg_r rfl) ?_
    refine OJ.done ?_
    refine PJ.next ?_
    refine CJ.seq ?_
    refine CJ.region ?_
    refine rv rfl rfl rfl (asg_r rfl) ?_
    refine OJ.done ?_
    refine PJ.next ?_
    refine CJ.block ?_
    have hyl0 : ys0.length ≤ 8000 := by rw [hys0, numsB_len, List.length_take]; omega
    refine CJ.loop (α := List UInt8 × Nat × Option (Nat × Nat × List Value)) (fun p => [(0, .string s), (1, .slice (some ⟨bm, om, none⟩) msg.length cm), (7, roV p.2.2 p.1), (9, .int .i64 n), (10, .int .i64 (56 - 8 * (p.2.1 : Int))), (11, .slice (some ⟨bn, 0, none⟩) ns.length cn), (12, .int .i64 (ns.length : Int)), (13, .int .i64 (j : Int))]) (fun p => roH 5 p.2.2 p.1) (fun p => [w]) (fun p => Gh.no) (fun p => p.1 = ys0 ++ (be8 n).take p.2.1 ∧ p.2.1 ≤ 8 ∧ RoOk Gh.no [w] p.2.2 p.1) (fun p => 8 - p.2.1) (ys0, 0, ro0) ⟨by simp, by dsimp only; omega, hro0⟩ ⟨rfl, rfl, rfl, rfl, rfl, rfl, rfl, rfl, trivial⟩ rfl rfl (by simp) ?_
    rintro ⟨ys, i, ro⟩ ⟨hys, hi, hro⟩
    dsimp only at hys hi hro ⊢
    have hyl : ys.length ≤ 8008 := by rw [hys, List.length_append, List.length_take, be8_len]; omega
    refine CJ.seq ?_
    refine CJ.seq ?_
    refine CJ.region ?_
    refine rv rfl rfl rfl (mv_r rfl) ?_
    refine rv rfl rfl rfl (geq_r rfl rfl) ?_
    refine OJ.done ?_
    refine PJ.next ?_
    refine CJ.cond rfl (fun hc2 => ?_) (fun hc2 => ?_)
    · try simp only [decide_eq_true_eq, decide_eq_false_iff_not, Bool.not_eq_true', Bool.not_eq_false'] at hc2
      refine CJ.skip ?_
      refine PJ.next ?_
      refine CJ.seq ?_
      refine CJ.block ?_
      refine CJ.region ?_
      refine rv rfl rfl rfl (mv_r rfl) ?_
      refine rv rfl rfl rfl (mv_r rfl) ?_
      refine rv rfl rfl rfl (RV.re (v' := .int .u64 (n % 18446744073709551616)) (cvtW_r Tryz.underlying3 Tryz.underlying148 rfl) (congrArg (Value.int .u64) (wrap_u64' n))) ?_
      refine rv rfl rfl rfl (mv_r rfl) ?_
      refine rv rfl rfl rfl (shrW_r rfl rfl (by omega)) ?_
      refine rv rfl rfl rfl (RV.re (v' := .int .u8 ((b8 n i).toNat : Int)) (cvtB_r Tryz.underlying148 Tryz.underlying5 rfl) (congrArg (Value.int .u8) (b8_re n _ i (by omega) rfl))) ?_
      refine bsB [b8 n i] bt Tryz.zeroValue5 rfl rfl rfl rfl rfl rfl rfl rfl rfl ?_
      intro b27 ha27 ho27 hx27 hr27
      simp only [Above] at ha27
      try simp only [Off, List.set_cons_zero, List.set_cons_succ, ne_eq, and_true] at ho27
      rcases ro with _ | ⟨b1, c1, s1⟩
      · have e0 : ys = [] := hro
        subst e0
        refine apN (zs := [b8 n i]) bt rfl rfl rfl rfl (SrcB.own (i := 0) Tryz.underlying53 rfl) (by simp) (by simp) ?_
        intro b28 c28 s28 ha28 ho28 hx28 hr28
        simp only [Above] at ha28
        try simp only [Off, List.set_cons_zero, List.set_cons_succ, ne_eq, and_true] at ho28
        have hf28 : Fr Gh.no [w] b28 := .inr ⟨ha28.1, trivial⟩
        refine OJ.dropF (i := 1) rfl (.inr ⟨ha27.1, trivial⟩) ?_
        refine rv rfl rfl rfl (asg_r rfl) ?_
        refine OJ.done ?_
        refine PJ.norBlock ?_
        refine PJ.next ?_
        refine CJ.region ?_
        refine rv rfl rfl rfl (mv_r rfl) ?_
        refine rv rfl rfl rfl (subI_r rfl rfl (by omega) (by omega)) ?_
        refine rv rfl rfl rfl (asg_r rfl) ?_
        refine OJ.done ?_
        refine PJ.again ([b8 n i], i + 1, some (b28, c28, s28)) ⟨by dsimp only; rw [be8_take n i (by omega), ← List.append_assoc, ← hys]; first | done | rfl, by dsimp only; omega, hr28, hf28⟩ (by dsimp only; omega) ⟨rfl, rfl, rfl, rfl, congrArg some (congrArg (Value.int .i64) (by dsimp only; omega)), rfl, rfl, rfl, trivial⟩ rfl rfl (by simp)
      · obtain ⟨hr, hf⟩ := hro
        refine apB (i := 1) (xs := ys) (zs := [b8 n i]) (sp := s1) rfl bt rfl rfl rfl rfl (SrcB.own (i := 0) Tryz.underlying53 rfl) hr hf (by simp only [List.length_append, List.length_cons, List.length_nil]; omega) ?_
        intro b28 c28 s28 hf28 hr28
        have hg28 := hf28
        simp only [Fr, Gh.lent, Gh.no, Above, and_true, false_or] at hg28
        refine OJ.dropF (i := 0) rfl (.inr ⟨ha27.1, trivial⟩) ?_
        refine rv rfl rfl rfl (asg_r rfl) ?_
        refine OJ.done ?_
        refine PJ.norBlock ?_
        refine PJ.next ?_
        refine CJ.region ?_
        refine rv rfl rfl rfl (mv_r rfl) ?_
        refine rv rfl rfl rfl (subI_r rfl rfl (by omega) (by omega)) ?_
        refine rv rfl rfl rfl (asg_r rfl) ?_
        refine OJ.done ?_
        refine PJ.again (ys ++ [b8 n i], i + 1, some (b28, c28, s28)) ⟨by dsimp only; rw [be8_take n i (by omega), ← List.append_assoc, ← hys]; first | done | rfl, by dsimp only; omega, hr28, hf28⟩ (by dsimp only; omega) ⟨rfl, rfl, rfl, rfl, congrArg some (congrArg (Value.int .i64) (by dsimp only; omega)), rfl, rfl, rfl, trivial⟩ rfl rfl (by simp)
    · try simp only [decide_eq_true_eq, decide_eq_false_iff_not, Bool.not_eq_true', Bool.not_eq_false'] at hc2
      refine CJ.exit ?_
      refine PJ.exThen ?_
      refine PJ.exThen ?_
      refine PJ.exHit ?_
      refine PJ.norBlock ?_
      refine PJ.next ?_
      refine CJ.region ?_
      refine rv rfl rfl rfl (addI_r rfl rfl (by omega) (by omega)) ?_
      refine rv rfl rfl rfl (mv_r rfl) ?_
      refine OJ.done ?_
      refine PJ.again (ys, j + 1, ro) ⟨by dsimp only; rw [numsB_take ns j (by omega), hn, hys, show i = 8 by omega, hys0]; first | done | rfl, by dsimp only; omega, hro⟩ (by dsimp only; omega) ⟨rfl, rfl, rfl, rfl, rfl, rfl, trivial⟩ rfl rfl (by simp)
  · try simp only [decide_eq_true_eq, decide_eq_false_iff_not, Bool.not_eq_true', Bool.not_eq_false'] at hc1
    refine CJ.exit ?_
    refine PJ.exThen ?_
    refine PJ.exThen ?_
    refine PJ.exHit ?_
    refine PJ.next ?_
    refine CJ.seq ?_
    have ej : j = ns.length := by omega
    subst ej
    rw [List.take_of_length_le (Nat.le_refl _)] at hys0
    have hyl := numsB_len ns
    rcases ro0 with _ | ⟨b1, c1, s1⟩
    · exact absurd (show ys0 = [] from hro0) (by intro e; rw [e] at hys0; rw [← hys0] at hyl; simp at hyl; omega)
    obtain ⟨hr, hf⟩ := hro0
    subst hys0
    have hg1 := hf
    simp only [Fr, Gh.no, Above, and_true, false_or] at hg1
    refine CJ.reH (H' := [(b1, rowC 5 (numsB ns) s1)]) rfl ?_
    refine CJ.region ?_
    refine rv rfl rfl rfl (mv_r rfl) ?_
    refine rv rfl rfl rfl (mv_r rfl) ?_
    refine rv rfl rfl rfl (mv_r rfl) ?_
    refine apB (i := 0) (xs := numsB ns) (zs := msg) (sp := s1) rfl bt rfl rfl rfl rfl (SrcB.seg Tryz.underlying53 (.head _) hmsg (fun h => h) (by simp only [Off, List.set_cons_zero, List.set_cons_succ, List.eraseIdx_cons_zero, List.eraseIdx_cons_succ, ne_eq, and_true]; omega)) hr hf (by rw [hyl]; omega) ?_
    intro b33 c33 s33 hf33 hr33
    have hg33 := hf33
    simp only [Fr, Gh.lent, Gh.no, Above, and_true, false_or] at hg33
    refine call Tryz.call96 rfl rfl rfl (fun W hS => scalG hZ s hs0 (numsB ns ++ msg) (by rw [List.length_append, hyl]; omega) b33 0 c33 hr33.le W (SegU.row (hS.own _ (.head _))) (hg.old hS (.head _) (fun _ _ h => h) (by first | exact True.intro | (simp only [Over, List.set_cons_zero, List.set_cons_succ, List.eraseIdx_cons_zero, List.eraseIdx_cons_succ, and_true]; omega)))) ?_
    refine rv rfl rfl rfl (asg_r rfl) ?_
    refine OJ.done ?_
    refine PJ.next ?_
    refine CJ.ret ?_
    refine retO (.inl rfl) Tryz.results48 (RS.t rfl (RS.n)) (.head _) (by first | (simp only [Over, List.set_cons_zero, List.set_cons_succ, List.eraseIdx_cons_zero, List.eraseIdx_cons_succ, and_true]; omega) | (simp [Over] <;> omega)) ?_
    rfl
end Px
namespace Px
open Go Go.RowKit Go.Proofs
/-- a signature -/
def nonceOf (Z : Fx) (x : Int) (msg : List UInt8) : Int := Z.sc (⟨#[110, 111, 110, 99, 101]⟩ : ByteArray) (numsB [x] ++ msg)
def chalOf (Z : Fx) (r p : Int) (msg : List UInt8) : Int := Z.sc (⟨#[115, 105, 103, 110]⟩ : ByteArray) (numsB [r, p] ++ msg)
def sigR (Z : Fx) (x : Int) (msg : List UInt8) : Int := (Z.ge 4 (nonceOf Z x msg)).1
def sigS (Z : Fx) (x : Int) (msg : List UInt8) : Int := (sAdd (nonceOf Z x msg) (sMul (chalOf Z (sigR Z x msg) (Z.ge 4 x).1 msg) x).1).1
def sigT (Z : Fx) (x : Int) (msg : List UInt8) : Value := if KOk x then .tuple #[.agg #[.int .i64 (sigR Z x msg), .int .i64 (sigS Z x msg)], .int .i64 0] else .tuple #[.agg #[.int .i64 0, .int .i64 0], .int .i64 50]
theorem sMul_ok (a b : Int) : SOk (sMul a b).1 := by
  unfold sMul
  split
  · exact ⟨Int.emod_nonneg _ (by decide), Int.emod_lt_of_pos _ (by decide)⟩
  · exact ⟨by decide, by decide⟩
theorem nonce_ok {Z : Fx} (hZ : FxOk Z) (x : Int) (msg : List UInt8) : SOk (nonceOf Z x msg) := by have := hZ.bd (⟨#[110, 111, 110, 99, 101]⟩ : ByteArray) (numsB [x] ++ msg); unfold nonceOf; exact ⟨by omega, by omega⟩
theorem sigS_err {Z : Fx} (hZ : FxOk Z) (x : Int) (msg : List UInt8) : (sAdd (nonceOf Z x msg) (sMul (chalOf Z (sigR Z x msg) (Z.ge 4 x).1 msg) x).1).2 = 0 := by
  unfold sAdd
  rw [if_pos ⟨nonce_ok hZ _ _, sMul_ok _ _⟩]
theorem sigT_ok {Z : Fx} (hZ : FxOk Z) (x k e : Int) (msg : List UInt8) (hK : KOk x) (hk : nonceOf Z x msg = k) (he : chalOf Z (Z.ge 4 k).1 (Z.ge 4 x).1 msg = e) :
    Value.tuple #[.agg #[.int .i64 (Z.ge 4 k).1, .int .i64 (sAdd k (sMul e x).1).1], .int .i64 (sAdd k (sMul e x).1).2] = sigT Z x msg := by
  have hE := sigS_err hZ x msg
  subst hk
  subst he
  unfold sigT
  rw [if_pos hK]
  exact congrArg (fun z => Value.tuple #[.agg #[.int .i64 (sigR Z x msg), .int .i64 (sigS Z x msg)], .int .i64 z]) hE
theorem sigT_no (Z : Fx) (x : Int) (msg : List UInt8) (hK : ¬ KOk x) : Value.tuple #[.agg #[.int .i64 0, .int .i64 0], .int .i64 50] = sigT Z x msg := by
  unfold sigT
  rw [if_neg hK]
theorem sign_hash1 {Z : Fx} (hZ : FxOk Z) (x k : Int) (msg : List UInt8) (hk : nonceOf Z x msg = k) (hml : msg.length ≤ 100000000000) (bm om cm bn cn tn : Nat) (frn : Nat × Nat) (w : World) (hmsg : SegU w bm om msg) (hbn : w.heap[bn]? = some (.cells #[.int .i64 x] tn frn)) (hg : Glb w) : Calls Tryz.prog 48 #[.string (⟨#[110, 111, 110, 99, 101]⟩ : ByteArray), .slice (some ⟨bm, om, none⟩) msg.length cm, .slice (some ⟨bn, 0, none⟩) 1 cn] w (Ret w (.int .i64 k)) := by
  subst hk
  exact sign_hash hZ (⟨#[110, 111, 110, 99, 101]⟩ : ByteArray) (by decide) msg bm om cm hml [x] bn cn tn frn (by simp) (by simp) w hmsg hbn hg
theorem sign_hash2 {Z : Fx} (hZ : FxOk Z) (r p e : Int) (msg : List UInt8) (he : chalOf Z r p msg = e) (hml : msg.length ≤ 100000000000) (bm om cm bn cn tn : Nat) (frn : Nat × Nat) (w : World) (hmsg : SegU w bm om msg) (hbn : w.heap[bn]? = some (.cells #[.int .i64 r, .int .i64 p] tn frn)) (hg : Glb w) : Calls Tryz.prog 48 #[.string (⟨#[115, 105, 103, 110]⟩ : ByteArray), .slice (some ⟨bm, om, none⟩) msg.length cm, .slice (some ⟨bn, 0, none⟩) 2 cn] w (Ret w (.int .i64 e)) := by
  subst he
  exact sign_hash hZ (⟨#[115, 105, 103, 110]⟩ : ByteArray) (by decide) msg bm om cm hml [r, p] bn cn tn frn (by simp) (by simp) w hmsg hbn hg
set_option maxHeartbeats 400000 in
/-- chartroom/sign.Sign -/
theorem sign_Sign {Z : Fx} (hZ : FxOk Z) (x : Int) (msg : List UInt8) (bm om cm : Nat) (hml : msg.length ≤ 100000000000) (w : World) (hmsg : SegU w bm om msg) (hg : Glb w) :
    Calls Tryz.prog 25 #[.int .i64 x, .slice (some ⟨bm, om, none⟩) msg.length cm] w (Ret w (sigT Z x msg)) := by
  have hmsl := hmsg.lt
  have hg4 := hg.lt
  obtain ⟨k, hk⟩ : ∃ k, nonceOf Z x msg = k := ⟨_, rfl⟩
  obtain ⟨e, he⟩ : ∃ e, chalOf Z (Z.ge 4 k).1 (Z.ge 4 x).1 msg = e := ⟨_, rfl⟩
  refine enter (vs := [_, _]) Tryz.func25 rfl Tryz.ntmps25 rfl ?_
  refine CJ.seq ?_
  refine CJ.region ?_
  refine allW Tryz.zeroValue30 rfl rfl ?_
  intro b4 ha4 ho4
  simp only [Above] at ha4
  try simp only [Off, book, List.cons_append, List.nil_append, List.set_cons_zero, List.set_cons_succ, ne_eq] at ho4
  refine rv rfl rfl rfl (asg_r rfl) ?_
  refine OJ.done ?_
  refine PJ.next ?_
  refine CJ.seq ?_
  refine CJ.region ?_
  refine rv rfl rfl rfl (mv_r rfl) ?_
  refine rv rfl rfl rfl (asg_r rfl) ?_
  refine OJ.done ?_
  refine PJ.next ?_
  refine CJ.seq ?_
  refine CJ.region ?_
  refine rv rfl rfl rfl (mv_r rfl) ?_
  refine rv rfl rfl rfl (mkFF_r rfl rfl) ?_
  refine rv rfl rfl rfl (mv_r rfl) ?_
  refine rv rfl rfl rfl (mkFF_r rfl rfl) ?_
  refine rv rfl rfl rfl (asg_r rfl) ?_
  refine rv rfl rfl rfl (asg_r rfl) ?_
  refine OJ.done ?_
  refine PJ.next ?_
  refine CJ.seq ?_
  refine CJ.seq ?_
  refine CJ.region ?_
  refine rv rfl rfl rfl (mv_r rfl) ?_
  refine callF (first := [.int .i64 x]) (cap := []) rfl Tryz.call62 rfl rfl rfl (fun W hS => sign_valid x W) ?_
  refine rv rfl rfl rfl (notB_r rfl) ?_
  refine OJ.done ?_
  refine PJ.next ?_
  refine CJ.cond rfl (fun hc1 => ?_) (fun hc1 => ?_)
  · try simp only [decide_eq_true_eq, decide_eq_false_iff_not, Bool.not_eq_true', Bool.not_eq_false'] at hc1
    refine CJ.seq ?_
    refine CJ.region ?_
    refine rv rfl rfl rfl (ldWAw_r (i := 0) rfl Tryz.isAgg30 Tryz.sizeOf30 rfl rfl) ?_
    refine stWw (i := 0) rfl Tryz.sizeOf30 rfl rfl rfl rfl rfl rfl ?_
    refine rv rfl rfl rfl (asg_r rfl) ?_
    refine OJ.done ?_
    refine PJ.next ?_
    refine CJ.ret ?_
    refine PJ.retThen ?_
    refine retO (.inl rfl) Tryz.results25 (RS.wA (i := 0) rfl Tryz.isAgg30 Tryz.sizeOf30 rfl (Nat.le_of_ble_eq_true rfl) (RS.t rfl (RS.n))) (.head _) (by first | (simp only [Over, List.set_cons_zero, List.set_cons_succ, List.eraseIdx_cons_zero, List.eraseIdx_cons_succ, and_true]; omega) | (simp [Over] <;> omega)) ?_
    exact sigT_no Z x msg (by assumption)
  · try simp only [decide_eq_true_eq, decide_eq_false_iff_not, Bool.not_eq_true', Bool.not_eq_false'] at hc1
    refine CJ.skip ?_
    refine PJ.next ?_
    refine CJ.seq ?_
    refine CJ.region ?_
    refine rv rfl rfl rfl (mv_r rfl) ?_
    refine rv rfl rfl rfl (mv_r rfl) ?_
    refine bslR Tryz.underlying22 Tryz.sizeOf3 Tryz.zeroValue3 rfl rfl rfl rfl rfl rfl rfl ?_
    intro b23 w23 hb23 ha23 ho23 hm23 hz23
    simp only [Above] at ha23
    try simp only [Off, book, List.cons_append, List.nil_append, List.set_cons_zero, List.set_cons_succ, ne_eq] at ho23
    refine call Tryz.call48 rfl rfl rfl (fun W hS => sign_hash1 hZ x k msg hk hml bm om cm b23 _ _ _ W (hmsg.old hS (.tail _ (.head _)) (fun h => h) (by simp only [Off, List.set_cons_zero, List.set_cons_succ, List.eraseIdx_cons_zero, List.eraseIdx_cons_succ, ne_eq, and_true]; omega)) (hS.old (.head _) hb23 hm23 (by simp only [Off, List.set_cons_zero, List.set_cons_succ, List.eraseIdx_cons_zero, List.eraseIdx_cons_succ, ne_eq, and_true]; omega)) (hg.old hS (.tail _ (.head _)) (fun _ _ h => h) (by first | exact True.intro | (simp only [Over, List.set_cons_zero, List.set_cons_succ, List.eraseIdx_cons_zero, List.eraseIdx_cons_succ, and_true]; omega)))) ?_
    refine rv rfl rfl rfl (asg_r rfl) ?_
    refine OJ.done ?_
    refine PJ.next ?_
    refine CJ.seq ?_
    refine CJ.region ?_
    refine rv rfl rfl rfl (mv_r rfl) ?_
    refine call Tryz.call46 rfl rfl rfl (fun W hS => baseG hZ _ W) ?_
    refine rv rfl rfl rfl (mv_r rfl) ?_
    refine rv rfl rfl rfl (ext_r rfl rfl) ?_
    refine rv rfl rfl rfl (ext_r rfl rfl) ?_
    refine rv rfl rfl rfl (fld_r Tryz.underlying30 rfl Tryz.sizeOf3 rfl) ?_
    refine stW (i := 0) rfl Tryz.sizeOf3 rfl rfl rfl rfl (Nat.le_of_ble_eq_true rfl) rfl ?_
    refine OJ.done ?_
    refine PJ.next ?_
    refine CJ.seq ?_
    refine CJ.less (E' := [(0, _), (1, _), (4, _), (5, _), (6, _), (7, _), (8, _), (9, _), (12, _), (13, _), (14, _), (15, _), (16, _), (17, _), (18, _), (19, _), (21, _), (22, _), (23, _), (24, _), (25, _), (26, _), (27, _), (28, _), (30, _)]) ⟨rfl, rfl, rfl, rfl, rfl, rfl, rfl, rfl, rfl, rfl, rfl, rfl, rfl, rfl, rfl, rfl, rfl, rfl, rfl, rfl, rfl, rfl, rfl, rfl, rfl, trivial⟩ ?_
    refine CJ.chn 13 [5] [([], some _), ([], some _), ([1], some (.int .i64 (Z.ge 4 k).1)), ([], some _), ([3], some _), ([2, 4], none), ([0, 5], some (.int .i64 e)), ([], some _), ([6, 7], some _), ([8], some _), ([9], some _), ([9], some _), ([10], some _)] (fun cv L' H' => match cv with | [] => L' = [w23, w] ∧ H' = [(b4, .cells #[.int .i64 (Z.ge 4 k).1, .int .i64 0] 30 (0, 0))] | [v1] => ∃ (b37 : Nat) (w37 : World), v1 = .slice (some ⟨b37, 0, none⟩) 2 2 ∧ L' = [w37, w23, w] ∧ H' = [(b4, .cells #[.int .i64 (Z.ge 4 k).1, .int .i64 0] 30 (0, 0))] ∧ w37.heap[b37]? = some (.cells #[.int .i64 (Z.ge 4 k).1, .int .i64 (Z.ge 4 x).1] 3 (0, 0)) ∧ (w23.heap.size ≤ b37 ∧ w.heap.size ≤ b37) ∧ b4 ≠ b37 ∧ ¬ Gh.no.X b37 ∧ w37.heap.size = b37 + 1 | _ => False) (by kernel_rfl) ⟨rfl, rfl⟩ (by kernel_rfl) (by kernel_rfl) (by kernel_rfl) (by kernel_rfl) (by kernel_rfl) (by kernel_rfl) (pc (fun cv L' H' hd hP => X.val rfl rfl (mv_r rfl) (fun _ _ => rfl)) (pc (fun cv L' H' hd hP => X.val rfl rfl (fld_r Tryz.underlying30 rfl Tryz.sizeOf3 rfl) (fun _ _ => rfl)) (pc (fun cv L' H' hd hP => match cv, hd, hP with | [], hd, hP => (by obtain ⟨rfl, rfl⟩ := hP; exact X.val rfl rfl (ldW_r (i := 0) rfl Tryz.isAgg3 rfl rfl) (fun _ _ => rfl)) | [v1], hd, hP => (by obtain ⟨b37, w37, rfl, rfl, rfl, hb37, ha37, ho37, hm37, hz37⟩ := hP; exact X.val rfl rfl (ldW_r (i := 0) rfl Tryz.isAgg3 rfl rfl) (fun _ _ => rfl)) | _ :: _ :: _, _, hP => hP.elim) (pc (fun cv L' H' hd hP => X.val rfl rfl (mv_r rfl) (fun _ _ => rfl)) (pc (fun cv L' H' hd hP => X.callF (first := [.int .i64 x]) (cap := []) rfl Tryz.call63 rfl rfl (fun W hS _ => publicG hZ x W) (fun _ => rfl)) (pk (pc (fun cv L' H' hd hP => match cv, hd, hP with | [], hd, hP => (absurd (show false = true from hd) (by decide)) | [v1], hd, hP => (by obtain ⟨b37, w37, rfl, rfl, rfl, hb37, ha37, ho37, hm37, hz37⟩ := hP; exact X.callV Tryz.call48 rfl rfl (fun W hS _ => sign_hash2 hZ _ _ e msg he hml bm om cm b37 _ _ _ W (hmsg.old hS (.tail _ (.tail _ (.head _))) (fun h => h) (by simp only [Off, List.set_cons_zero, List.set_cons_succ, List.eraseIdx_cons_zero, List.eraseIdx_cons_succ, ne_eq, and_true]; omega)) (hS.old (.head _) hb37 hm37 (by simp only [Off, List.set_cons_zero, List.set_cons_succ, List.eraseIdx_cons_zero, List.eraseIdx_cons_succ, ne_eq, and_true]; omega)) (hg.old hS (.tail _ (.tail _ (.head _))) (fun _ _ h => h) (by first | exact True.intro | (simp only [Over, List.set_cons_zero, List.set_cons_succ, List.eraseIdx_cons_zero, List.eraseIdx_cons_succ, and_true]; omega)))) (fun _ => rfl)) | _ :: _ :: _, _, hP => hP.elim) (pc (fun cv L' H' hd hP => X.val rfl rfl (mv_r rfl) (fun _ _ => rfl)) (pc (fun cv L' H' hd hP => X.callV Tryz.call64 rfl rfl (fun W hS _ => field_Mul _ _ W) (fun _ => rfl)) (pc (fun cv L' H' hd hP => X.val rfl rfl (mv_r rfl) (fun _ _ => rfl)) (pc (fun cv L' H' hd hP => X.val rfl rfl (ext_r rfl rfl) (fun _ _ => rfl)) (pc (fun cv L' H' hd hP => X.val rfl rfl (ext_r rfl rfl) (fun _ _ => rfl)) (pc (fun cv L' H' hd hP => X.val rfl rfl (asg_r rfl) (fun _ _ => rfl)) (pn)))))))))))))) ?_ ?_
    · refine sc rfl rfl rfl ?_ ?_
      · intro cv L' H' hl hP F Q' hk
        obtain rfl := List.eq_nil_of_length_eq_zero hl
        obtain ⟨rfl, rfl⟩ := hP
        refine bslR Tryz.underlying22 Tryz.sizeOf3 Tryz.zeroValue3 rfl rfl rfl rfl rfl rfl rfl ?_
        intro b37 w37 hb37 ha37 ho37 hm37 hz37
        exact OJ.done (hk _ _ _ ⟨b37, w37, rfl, rfl, rfl, hb37, ⟨ha37.1, ha37.2.1⟩, ho37.1, hm37, hz37⟩)
      exact sn
    · intro cv L' H' hl hP
      obtain ⟨v1, rfl⟩ := len1 hl
      obtain ⟨b37, w37, rfl, rfl, rfl, hb37, ha37, ho37, hm37, hz37⟩ := hP
      refine rv rfl rfl rfl (asg_r rfl) ?_
      refine OJ.done ?_
      refine PJ.next ?_
      refine CJ.seq ?_
      refine CJ.region ?_
      refine rv rfl rfl rfl (mv_r rfl) ?_
      refine rv rfl rfl rfl (mv_r rfl) ?_
      refine call Tryz.call65 rfl rfl rfl (fun W hS => field_Add _ _ W) ?_
      refine rv rfl rfl rfl (mv_r rfl) ?_
      refine rv rfl rfl rfl (ext_r rfl rfl) ?_
      refine rv rfl rfl rfl (ext_r rfl rfl) ?_
      refine rv rfl rfl rfl (fld_r Tryz.underlying30 rfl Tryz.sizeOf3 rfl) ?_
      refine stW (i := 0) rfl Tryz.sizeOf3 rfl rfl rfl rfl (Nat.le_of_ble_eq_true rfl) rfl ?_
      refine rv rfl rfl rfl (asg_r rfl) ?_
      refine OJ.done ?_
      refine PJ.next ?_
      refine CJ.seq ?_
      refine CJ.region ?_
      refine rv rfl rfl rfl (ldWAw_r (i := 0) rfl Tryz.isAgg30 Tryz.sizeOf30 rfl rfl) ?_
      refine rv rfl rfl rfl (mv_r rfl) ?_
      refine stWw (i := 0) rfl Tryz.sizeOf30 rfl rfl rfl rfl rfl rfl ?_
      refine rv rfl rfl rfl (asg_r rfl) ?_
      refine OJ.done ?_
      refine PJ.next ?_
      refine CJ.ret ?_
      refine retO (.inl rfl) Tryz.results25 (RS.wA (i := 0) rfl Tryz.isAgg30 Tryz.sizeOf30 rfl (Nat.le_of_ble_eq_true rfl) (RS.t rfl (RS.n))) (.tail _ (.tail _ (.head _))) (by first | (simp only [Over, List.set_cons_zero, List.set_cons_succ, List.eraseIdx_cons_zero, List.eraseIdx_cons_succ, and_true]; omega) | (simp [Over] <;> omega)) ?_
      exact sigT_ok hZ x k e msg (by assumption) hk he
end Px
namespace Px
open Go Go.RowKit Go.Proofs
theorem kPub_ge {Z : Fx} (hZ : FxOk Z) (x : Int) : kPub x = if KOk x then ((Z.ge 4 x).1, 0) else (0, 50) := by
  unfold kPub
  split
  · rename_i h
    rw [← hZ.ge, gExp4 h]
  · rfl
end Px
namespace Px
open Go Go.RowKit Go.Proofs
def dgU (f : Nat → Int) : List UInt8 := (List.range 32).map fun i => UInt8.ofNat (f i).toNat
theorem dgU_len (f : Nat → Int) : (dgU f).length = 32 := by simp [dgU]
theorem dgU_fU (f : Nat → Int) (hf : Byt f) (i : Nat) (h : i < 32) : fU (dgU f) i = f i := by
  have := hf i
  simp only [fU, dgU, List.getElem?_map, List.getElem?_range h, Option.map_some, Option.getD_some, UInt8.toNat_ofNat']
  omega
theorem SegU.dg {w : World} {b t : Nat} {fr : Nat × Nat} {f : Nat → Int} (h : w.heap[b]? = some (.cells (dg f) t fr)) (hf : Byt f) : SegU w b 0 (dgU f) :=
  ⟨_, _, _, h, by rw [dgU_len]; exact Nat.le_refl 32, fun i hi => by rw [dgU_len] at hi; rw [Nat.zero_add, dg_at f i hi, dgU_fU f hf i hi]⟩
theorem taggedG {Z : Fx} (hZ : FxOk Z) (s : ByteArray) (hs0 : s.size < 1000) (xs : List UInt8) (hn : xs.length < 900000000000) (b off c : Nat) (hc : xs.length ≤ c) (w : World) (h : SegU w b off xs) (hg : Glb w) : Calls Tryz.prog 19 #[.string s, .slice (some ⟨b, off, none⟩) xs.length c] w (Ret w (.agg (Px.dg (Z.tg s xs)))) := by
  rw [← hZ.tg]
  obtain ⟨cs, t, fr, h1, h2, h3⟩ := h
  obtain ⟨⟨t2, fr2, g1⟩, t3, fr3, g2⟩ := hg
  exact digest_Tagged s xs.length (fU xs) b off c t t2 t3 fr fr2 fr3 cs hs0 hc (by omega) w h1 h2 h3 g1 g2
abbrev I64 (n : Int) : Prop := -9223372036854775808 ≤ n ∧ n ≤ 9223372036854775807
/-- plain values, as cells -/
def vCell : V → List Value
  | .int n => [.int .i64 1, .int .i64 n, .string ⟨#[]⟩, .slice none 0 0]
  | .text s => [.int .i64 2, .int .i64 0, .string s, .slice none 0 0]
  | .list _ => []
def isFlat : V → Bool
  | .list _ => false
  | _ => true
def vCells (l : List V) : List Value := l.flatMap vCell
theorem vCell_len (x : V) (h : isFlat x = true) : (vCell x).length = 4 := by cases x <;> simp_all [isFlat, vCell]
theorem vCells_len (l : List V) (h : l.all isFlat = true) : (vCells l).length = l.length * 4 := by
  induction l with
  | nil => rfl
  | cons x l ih =>
    simp only [List.all_cons, Bool.and_eq_true] at h
    simp only [vCells, List.flatMap_cons, List.length_append, List.length_cons] at *
    rw [vCell_len x h.1, ih h.2]; omega
theorem flatVs (N : Nat) (w : World) : ∀ (l : List V), l.all isFlat = true → ∀ (pre sp : List Value), VsAt N w (pre ++ (vCells l ++ sp)).toArray pre.length l
  | [], _, _, _ => by simp only [VsAt]
  | x :: l, h, pre, sp => by
    simp only [List.all_cons, Bool.and_eq_true] at h
    have ih := flatVs N w l h.2 (pre ++ vCell x) sp
    have e : pre ++ vCell x ++ (vCells l ++ sp) = pre ++ (vCells (x :: l) ++ sp) := by simp [vCells]
    rw [e, List.length_append, vCell_len x h.1] at ih
    have hc : cut (pre ++ (vCells (x :: l) ++ sp)).toArray pre.length 4 = (vCell x).toArray := by
      unfold cut
      simp only [vCells, List.flatMap_cons, List.append_assoc]
      rw [List.drop_left' rfl, ← vCell_len x h.1, List.take_left' rfl]
    simp only [VsAt]
    refine ⟨?_, ?_, ih⟩
    · simp only [List.size_toArray, List.length_append, vCells_len (x :: l) (by simp [h.1, h.2]), List.length_cons]; omega
    · rw [hc]
      cases x with
      | int n => simp only [VAt]; rfl
      | text s => simp only [VAt]; rfl
      | list l' => simp [isFlat] at h
theorem flat_at {N b t cap : Nat} {fr : Nat × Nat} {w : World} {l : List V} {sp : List Value} (hl : l.all isFlat = true) (hb : b < N) (hc : l.length ≤ cap) (h : w.heap[b]? = some (.cells (vCells l ++ sp).toArray t fr)) : VAt N w (.list l) (vL (some ⟨b, 0, none⟩) l.length cap) := by
  simp only [VAt]
  exact ⟨_, _, rfl, hc, .inr ⟨b, _, t, fr, rfl, hb, h, by have := flatVs N w l hl [] sp; simpa using this⟩⟩
theorem flat_enc (x : V) (hf : isFlat x = true) (h : x.fine) : x.enc.length ≤ 1000000020 := by
  cases x with
  | int n =>
    simp only [V.fine] at h
    have := num_len10 (zig_lt n h.1 h.2)
    simp only [V.enc, List.length_cons]; omega
  | text s =>
    simp only [V.fine] at h
    have := num_len10 (u := s.size) (by omega)
    have e : s.data.toList.length = s.size := Array.length_toList
    simp only [V.enc, List.length_cons, List.length_append, e]; omega
  | list l => simp [isFlat] at hf
theorem flat_encL (l : List V) (hf : l.all isFlat = true) (h : V.fineL l) : (V.encL l).length ≤ l.length * 1000000020 ∧ V.depthL l = 0 := by
  induction l with
  | nil => simp [V.encL, V.depthL]
  | cons x l ih =>
    simp only [List.all_cons, Bool.and_eq_true] at hf
    simp only [V.fineL] at h
    obtain ⟨h1, h2⟩ := ih hf.2 h.2
    have h3 := flat_enc x hf.1 h.1
    simp only [V.encL, V.depthL, List.length_append, List.length_cons, h2]
    refine ⟨by omega, ?_⟩
    cases x with
    | int n => simp [V.depth]
    | text s => simp [V.depth]
    | list l' => simp [isFlat] at hf
theorem flat_fine (l : List V) (hf : l.all isFlat = true) (h : V.fineL l) (hl : l.length ≤ 100) : (V.list l).fine ∧ (V.list l).depth ≤ 16 ∧ (V.list l).enc.length ≤ 800000000000 := by
  obtain ⟨h1, h2⟩ := flat_encL l hf h
  have h3 := num_len10 (u := l.length) (by omega)
  simp only [V.fine, V.depth, V.enc, List.length_cons, List.length_append, h2]
  exact ⟨⟨by omega, by omega, h⟩, by omega, by omega⟩
abbrev dT (f : Nat → Int) : ByteArray := strOfNums (dgL f)
theorem dT_size (f : Nat → Int) : (dT f).size = 32 := by rw [strOfNums_size]; simp [dgL]
/-- string(d[:]) -/
theorem cvtD_r {C : Cx} {G : Gh} {L : List World} {H : Heap} {E : Env} {x : Operand} {src dst e b t : Nat} {fr : Nat × Nat} {f : Nat → Int} {w1 : World} (hs : C.P.underlying src = some (.slice e)) (he : C.P.underlying e = some (.int .u8)) (hd : C.P.underlying dst = some .string)
    (hx : ev E x = some (.slice (some ⟨b, 0, none⟩) 32 32)) (hm : w1 ∈ L) (hb : w1.heap[b]? = some (.cells (dg f) t fr)) (hG : ¬ G.X b) (hO : Off H b) : RV C G L H E (.convert src dst x) (.string (dT f)) := fun d ty pos aft g a W hF hS => by
  have hW := hS.old hm hb hG hO
  have hr := run_convert_bytes_arg (P := C.P) W src e hs he b 0 32 32 (dgL f) (by simp [dgL]) (fun i hi => by
    rw [cell_at hW, Nat.zero_add, dg_at f i hi]
    simp [dgL, List.getD, List.getElem?_range hi]) dst hd
  simp [execOp, hF.ev hx, hr]
/-- .. a part of a block -/
theorem cvtDo_r {C : Cx} {G : Gh} {L : List World} {H : Heap} {E : Env} {x : Operand} {src dst e b t off : Nat} {fr : Nat × Nat} {cs : Array Value} {f : Nat → Int} {w1 : World} (hs : C.P.underlying src = some (.slice e)) (he : C.P.underlying e = some (.int .u8)) (hd : C.P.underlying dst = some .string)
    (hx : ev E x = some (.slice (some ⟨b, off, none⟩) 32 32)) (hm : w1 ∈ L) (hb : w1.heap[b]? = some (.cells cs t fr)) (hG : ¬ G.X b) (hO : Off H b) (hc : cut cs off 32 = dg f) : RV C G L H E (.convert src dst x) (.string (dT f)) := fun d ty pos aft g a W hF hS => by
  have hW := hS.old hm hb hG hO
  have hr := run_convert_bytes_arg (P := C.P) W src e hs he b off 32 32 (dgL f) (by simp [dgL]) (fun i hi => by
    rw [cell_at hW]
    have h1 := dg_at f i hi
    rw [← hc] at h1
    unfold cut at h1
    rw [List.getElem?_toArray, List.getElem?_take_of_lt hi, List.getElem?_drop, Array.getElem?_toList] at h1
    rw [h1]
    simp [dgL, List.getD, List.getElem?_range hi]) dst hd
  simp [execOp, hF.ev hx, hr]
theorem sign32 {Z : Fx} (hZ : FxOk Z) (x : Int) (f : Nat → Int) (hf : Byt f) (b t : Nat) (fr : Nat × Nat) (w : World) (h : w.heap[b]? = some (.cells (dg f) t fr)) (hg : Glb w) : Calls Tryz.prog 25 #[.int .i64 x, .slice (some ⟨b, 0, none⟩) 32 32] w (Ret w (sigT Z x (dgU f))) := by
  have := sign_Sign hZ x (dgU f) b 0 32 (by rw [dgU_len]; decide) w (SegU.dg h hf) hg
  rwa [dgU_len] at this
theorem sign32_ok {Z : Fx} (hZ : FxOk Z) (x : Int) (hx : KOk x) (f : Nat → Int) (hf : Byt f) (r s : Int) (hr : sigR Z x (dgU f) = r) (hs : sigS Z x (dgU f) = s) (b t : Nat) (fr : Nat × Nat) (w : World) (h : w.heap[b]? = some (.cells (dg f) t fr)) (hg : Glb w) : Calls Tryz.prog 25 #[.int .i64 x, .slice (some ⟨b, 0, none⟩) 32 32] w (Ret w (.tuple #[.agg #[.int .i64 r, .int .i64 s], .int .i64 0])) := by
  have := sign32 hZ x f hf b t fr w h hg
  unfold sigT at this
  rw [if_pos hx, hr, hs] at this; exact this
theorem pubG_ok {Z : Fx} (hZ : FxOk Z) (x : Int) (hx : KOk x) (w : World) : Calls Tryz.prog 24 #[.int .i64 x] w (Ret w (eTup ((Z.ge 4 x).1, 0))) := by
  have h := sign_Public x w
  rw [kPub_ge hZ, if_pos hx] at h
  exact h
theorem pubG_no (x : Int) (hx : ¬ KOk x) (w : World) : Calls Tryz.prog 24 #[.int .i64 x] w (Ret w (eTup (0, 50))) := by
  have h := sign_Public x w
  unfold kPub at h
  rw [if_neg hx] at h
  exact h
def eqD (f g : Nat → Int) : Bool := eqL (dg f).toList (dg g).toList
end Px
