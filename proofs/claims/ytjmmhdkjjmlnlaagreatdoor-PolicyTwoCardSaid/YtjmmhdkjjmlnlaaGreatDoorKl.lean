/- The contract of PolicyTwo: called with any values of its types it returns true. No condition beyond those that each theorem states. -/
import Derived.Test.YtjmmhdkjjmlnlaaGreatDoorKk
import Derived.Test.YtjmmhdkjjmlnlaaGreatDoorProg
set_option linter.unusedSimpArgs false
set_option linter.unusedVariables false
set_option linter.unusedSectionVars false
namespace Px
open Go Go.RowKit Go.Proofs
def ks30 : List TK := [.i] ++ ([.i] ++ ([]))
def ks32 : List TK := [.i] ++ (ks30 ++ ([]))
end Px
namespace Px
open Go Go.RowKit Go.Proofs
theorem msk511 (m : Int) : IntKind.i64.wrap ((BitVec.ofInt IntKind.i64.bits m &&& BitVec.ofInt IntKind.i64.bits 511).toNat : Int) = m % 512 := by
  have e : (BitVec.ofInt IntKind.i64.bits m &&& BitVec.ofInt IntKind.i64.bits 511).toNat = (m % 512).toNat := by
    rw [BitVec.toNat_and]
    have h3 : (BitVec.ofInt IntKind.i64.bits 511).toNat = 2 ^ 9 - 1 := rfl
    rw [h3, Nat.and_two_pow_sub_one_eq_mod, BitVec.toNat_ofInt]
    have : ((2 : Nat) ^ IntKind.i64.bits : Nat) = 18446744073709551616 := rfl
    rw [this]
    omega
  rw [e, wrap_i64 (by omega) (by omega)]
  omega
def gon (l : Ls) : Ls := { l with gone := true }
theorem ix_x {x : Int} {l : Ls} {m : Ls} (h : l.dev = x) : ixL x [l, m] = some 0 := ixL_hit (l := l) rfl (by simp) h
theorem ix_y {x y : Int} {l : Ls} {m : Ls} (hl : l.dev = x) (hm : m.dev = y) (h : ¬ x = y) : ixL y [l, m] = some 1 := ixL_hit (l := m) rfl (by intro z hz; simp at hz; subst hz; rw [hl]; exact h) hm
section
variable {Z : Fx} (hZ : FxOk Z) (f : Nat → Int) {x y : Int} (hx : DevOk x) (hy : DevOk y) (h : ¬ x = y) (ca : Option Addr) (cc : Nat)
include hZ hx hy h
theorem two_0 : cntL Z [lstd Z x, lstd Z y] f [apC Z f x (x + 1), apC Z f y (y + 1)] = [x / 8, y / 8] := by
  rw [cntL_two (cnt_std hZ f hx rfl (ix_x rfl) rfl rfl rfl) (cnt_std hZ f hy rfl (ix_y (l := lstd Z x) rfl rfl h) rfl rfl rfl)]; rfl
theorem two_1 : cntL Z [lstd Z x, gon (lstd Z y)] f [apC Z f x (x + 1), apC Z f y (y + 1)] = [x / 8] := by
  rw [cntL_two (cnt_std hZ f hx rfl (ix_x rfl) rfl rfl rfl) (cnt_gone (c := apC Z f y (y + 1)) f (ix_y (l := lstd Z x) (m := gon (lstd Z y)) rfl rfl h) rfl rfl)]; rfl
theorem two_2 : cntL Z [gon (lstd Z x), gon (lstd Z y)] f [apC Z f x (x + 1), apC Z f y (y + 1)] = [] := by
  rw [cntL_two (cnt_gone (c := apC Z f x (x + 1)) f (ix_x (l := gon (lstd Z x)) rfl) rfl rfl) (cnt_gone (c := apC Z f y (y + 1)) f (ix_y (l := gon (lstd Z x)) (m := gon (lstd Z y)) rfl rfl h) rfl rfl)]; rfl
theorem t0_same (he : x / 8 = y / 8) : expI Z (polT true) [lstd Z x, lstd Z y] ⟨f, ca, [apC Z f x (x + 1), apC Z f y (y + 1)], cc⟩ = 460 :=
  (expI_bad (polT_ok true) (.inr ⟨rfl, by rw [two_0 hZ f hx hy h, he]; simp [setK, putK]⟩)).symm
theorem t0_diff (he : ¬ x / 8 = y / 8) : expI Z (polT true) [lstd Z x, lstd Z y] ⟨f, ca, [apC Z f x (x + 1), apC Z f y (y + 1)], cc⟩ = 0 := by
  have e : ¬ y / 8 = x / 8 := fun g => he g.symm
  exact (expI_good (polT_ok true) (by rw [two_0 hZ f hx hy h]; simp [setK, putK, e]) (.inr (by rw [two_0 hZ f hx hy h]; simp [setK, putK, e]))).symm
theorem t0_one : expI Z (polT false) [lstd Z x, lstd Z y] ⟨f, ca, [apC Z f x (x + 1), apC Z f y (y + 1)], cc⟩ = 0 :=
  (expI_good (polT_ok false) (by rw [two_0 hZ f hx hy h]; simp only [setK, putK, List.foldl_cons, List.foldl_nil, List.not_mem_nil, if_false, List.nil_append]; split <;> simp) (.inl rfl)).symm
theorem t1_two : expI Z (polT true) [lstd Z x, gon (lstd Z y)] ⟨f, ca, [apC Z f x (x + 1), apC Z f y (y + 1)], cc⟩ = 460 :=
  (expI_bad (polT_ok true) (.inr ⟨rfl, by rw [two_1 hZ f hx hy h]; simp [setK, putK]⟩)).symm
theorem t1_one : expI Z (polT false) [lstd Z x, gon (lstd Z y)] ⟨f, ca, [apC Z f x (x + 1), apC Z f y (y + 1)], cc⟩ = 0 :=
  (expI_good (polT_ok false) (by rw [two_1 hZ f hx hy h]; simp [setK, putK]) (.inl rfl)).symm
theorem t2 (two : Bool) : expI Z (polT two) [gon (lstd Z x), gon (lstd Z y)] ⟨f, ca, [apC Z f x (x + 1), apC Z f y (y + 1)], cc⟩ = 460 :=
  (expI_bad (polT_ok two) (.inl (by rw [two_2 hZ f hx hy h]; rfl))).symm
end
set_option maxHeartbeats 3200000 in
/-- chartroom/chartroomlaw46.PolicyTwo -/
theorem law46_PolicyTwo {Z : Fx} (hZ : FxOk Z) (f : Nat → Int) (a b : Int) (two : Bool) (w : World) (hg : Glb w) :
    Calls Tryz.prog 5 #[.agg (dg f), .int .i64 a, .int .i64 b, .bool two] w (Ret w (.bool true)) := by
  have hg4 := hg.lt
  obtain ⟨x, hx⟩ : ∃ x, a % 512 = x := ⟨_, rfl⟩
  obtain ⟨y, hy⟩ : ∃ y, b % 512 = y := ⟨_, rfl⟩
  have hDx : DevOk x := ⟨by omega, by omega⟩
  have hDy : DevOk y := ⟨by omega, by omega⟩
  have hKx : KOk (x + 1) := ⟨by omega, by omega⟩
  have hKy : KOk (y + 1) := ⟨by omega, by omega⟩
  refine enter (vs := [_, _, _, _]) Tryz.func5 rfl Tryz.ntmps5 rfl ?_
  refine CJ.seq ?_
  refine CJ.region ?_
  refine boxR rfl rfl rfl ?_
  intro b4 w4 hb4 ha4 ho4 hm4 hz4
  simp only [Above] at ha4
  try simp only [Off, book, List.cons_append, List.nil_append, List.set_cons_zero, List.set_cons_succ, ne_eq] at ho4
  refine rv rfl rfl rfl (asg_r rfl) ?_
  refine OJ.done ?_
  refine PJ.next ?_
  refine CJ.seq ?_
  refine CJ.seq ?_
  refine CJ.region ?_
  refine call Tryz.call7 rfl rfl rfl (fun W hS => law46_sane hZ W (hg.old hS (by simp) (fun _ _ h => h) (by first | exact True.intro | (simp only [Over, List.set_cons_zero, List.set_cons_succ, List.eraseIdx_cons_zero, List.eraseIdx_cons_succ, and_true]; omega)))) ?_
  refine rv rfl rfl rfl (notB_r rfl) ?_
  refine OJ.done ?_
  refine PJ.next ?_
  refine CJ.condF rfl ?_
  refine CJ.skip ?_
  refine PJ.next ?_
  refine CJ.seq ?_
  refine CJ.region ?_
  refine rv rfl rfl rfl (mv_r rfl) ?_
  refine rv rfl rfl rfl (RV.re (v' := .int .i64 x) (andW_r rfl rfl) (congrArg (Value.int .i64) ((msk511 a).trans hx))) ?_
  refine rv rfl rfl rfl (mv_r rfl) ?_
  refine rv rfl rfl rfl (RV.re (v' := .int .i64 y) (andW_r rfl rfl) (congrArg (Value.int .i64) ((msk511 b).trans hy))) ?_
  refine rv rfl rfl rfl (asg_r rfl) ?_
  refine rv rfl rfl rfl (asg_r rfl) ?_
  refine OJ.done ?_
  refine PJ.next ?_
  refine CJ.seq ?_
  refine CJ.seq ?_
  refine CJ.region ?_
  refine rv rfl rfl rfl (mv_r rfl) ?_
  refine rv rfl rfl rfl (mv_r rfl) ?_
  refine rv rfl rfl rfl (eqlI_r rfl rfl) ?_
  refine OJ.done ?_
  refine PJ.next ?_
  refine CJ.cond rfl (fun hc1 => ?_) (fun hc1 => ?_)
  · try simp only [decide_eq_true_eq, decide_eq_false_iff_not, Bool.not_eq_true', Bool.not_eq_false'] at hc1
    refine CJ.seq ?_
    refine CJ.region ?_
    refine rv rfl rfl rfl (asg_r rfl) ?_
    refine OJ.done ?_
    refine PJ.next ?_
    refine CJ.ret ?_
    refine PJ.retThen ?_
    refine retV Tryz.results5 rfl (.tail _ (.head _)) ?_
    rfl
  · try simp only [decide_eq_true_eq, decide_eq_false_iff_not, Bool.not_eq_true', Bool.not_eq_false'] at hc1
    refine CJ.skip ?_
    refine PJ.next ?_
    refine CJ.seq ?_
    have hne : ¬ x = y := by omega
    refine CJ.region ?_
    refine rv rfl rfl rfl (RV.re (v' := .agg (dg f)) (ldRAw_r Tryz.isAgg26 Tryz.sizeOf26 rfl (.head _) hb4 hm4 trivial rfl) (rfl)) ?_
    refine rv rfl rfl rfl (mv_r rfl) ?_
    refine rv rfl rfl rfl (mv_r rfl) ?_
    refine rv rfl rfl rfl (addI_r rfl rfl (by omega) (by omega)) ?_
    refine call Tryz.call9 rfl rfl rfl (fun W hS => ap_ok hZ f hDx hKx (c := (apC Z f x (x + 1))) rfl W (hg.old hS (by simp) (fun _ _ h => h) (by first | exact True.intro | (simp only [Over, List.set_cons_zero, List.set_cons_succ, List.eraseIdx_cons_zero, List.eraseIdx_cons_succ, and_true]; omega)))) ?_
    refine rv rfl rfl rfl (mv_r rfl) ?_
    refine rv rfl rfl rfl (ext_r rfl rfl) ?_
    refine rv rfl rfl rfl (ext_r rfl rfl) ?_
    refine allW Tryz.zeroValue32 rfl rfl ?_
    intro b9 ha9 ho9
    simp only [Above] at ha9
    try simp only [Off, book, List.cons_append, List.nil_append, List.set_cons_zero, List.set_cons_succ, ne_eq] at ho9
    refine stWw (i := 0) rfl Tryz.sizeOf32 rfl rfl rfl rfl rfl rfl ?_
    refine rv rfl rfl rfl (asg_r rfl) ?_
    refine OJ.done ?_
    refine PJ.next ?_
    refine CJ.seq ?_
    refine CJ.region ?_
    refine rv rfl rfl rfl (RV.re (v' := .agg (dg f)) (ldRAw_r Tryz.isAgg26 Tryz.sizeOf26 rfl (.head _) hb4 hm4 (by first | (simp only [Off, book, List.cons_append, List.nil_append, List.set_cons_zero, List.set_cons_succ, List.eraseIdx_cons_zero, List.eraseIdx_cons_succ, ne_eq, and_true]; omega) | (simp [Off] <;> omega)) rfl) (rfl)) ?_
    refine rv rfl rfl rfl (mv_r rfl) ?_
    refine rv rfl rfl rfl (mv_r rfl) ?_
    refine rv rfl rfl rfl (addI_r rfl rfl (by omega) (by omega)) ?_
    refine call Tryz.call9 rfl rfl rfl (fun W hS => ap_ok hZ f hDy hKy (c := (apC Z f y (y + 1))) rfl W (hg.old hS (by simp) (fun _ _ h => h) (by first | exact True.intro | (simp only [Over, List.set_cons_zero, List.set_cons_succ, List.eraseIdx_cons_zero, List.eraseIdx_cons_succ, and_true]; omega)))) ?_
    refine rv rfl rfl rfl (mv_r rfl) ?_
    refine rv rfl rfl rfl (ext_r rfl rfl) ?_
    refine rv rfl rfl rfl (ext_r rfl rfl) ?_
    refine allW Tryz.zeroValue32 rfl rfl ?_
    intro b11 ha11 ho11
    simp only [Above] at ha11
    try simp only [Off, book, List.cons_append, List.nil_append, List.set_cons_zero, List.set_cons_succ, ne_eq] at ho11
    refine stWw (i := 0) rfl Tryz.sizeOf32 rfl rfl rfl rfl rfl rfl ?_
    refine rv rfl rfl rfl (asg_r rfl) ?_
    refine OJ.done ?_
    refine PJ.next ?_
    refine CJ.seq ?_
    refine CJ.region ?_
    refine rv rfl rfl rfl (mv_r rfl) ?_
    refine call Tryz.call16 rfl rfl rfl (fun W hS => people_Owner_ok hDx W) ?_
    refine rv rfl rfl rfl (mv_r rfl) ?_
    refine rv rfl rfl rfl (ext_r rfl rfl) ?_
    refine rv rfl rfl rfl (ext_r rfl rfl) ?_
    refine rv rfl rfl rfl (asg_r rfl) ?_
    refine rv rfl rfl rfl (asg_r rfl) ?_
    refine OJ.done ?_
    refine PJ.next ?_
    refine CJ.seq ?_
    refine CJ.region ?_
    refine rv rfl rfl rfl (mv_r rfl) ?_
    refine call Tryz.call16 rfl rfl rfl (fun W hS => people_Owner_ok hDy W) ?_
    refine rv rfl rfl rfl (mv_r rfl) ?_
    refine rv rfl rfl rfl (ext_r rfl rfl) ?_
    refine rv rfl rfl rfl (ext_r rfl rfl) ?_
    refine rv rfl rfl rfl (asg_r rfl) ?_
    refine rv rfl rfl rfl (asg_r rfl) ?_
    refine OJ.done ?_
    refine PJ.next ?_
    refine CJ.seq ?_
    refine CJ.seq ?_
    refine CJ.region ?_
    refine rv rfl rfl rfl (mv_r rfl) ?_
    refine rv rfl rfl rfl (RV.re (v' := .bool false) (neqI_r rfl rfl) rfl) ?_
    refine rv rfl rfl rfl (mv_r rfl) ?_
    refine rv rfl rfl rfl (mv_r rfl) ?_
    refine rv rfl rfl rfl (RV.re (v' := .bool false) (neqI_r rfl rfl) rfl) ?_
    refine rv rfl rfl rfl (pkF_r rfl rfl) ?_
    refine rv rfl rfl rfl (mv_r rfl) ?_
    refine rv rfl rfl rfl (mv_r rfl) ?_
    refine rv rfl rfl rfl (RV.re (v' := .bool false) (neqI_r rfl rfl) rfl) ?_
    refine rv rfl rfl rfl (pkF_r rfl rfl) ?_
    refine rv rfl rfl rfl (mv_r rfl) ?_
    refine rv rfl rfl rfl (mv_r rfl) ?_
    refine rv rfl rfl rfl (RV.re (v' := .bool false) (neqI_r rfl rfl) rfl) ?_
    refine rv rfl rfl rfl (pkF_r rfl rfl) ?_
    refine OJ.done ?_
    refine PJ.next ?_
    refine CJ.condF rfl ?_
    refine CJ.skip ?_
    refine PJ.next ?_
    refine CJ.seq ?_
    refine CJ.region ?_
    refine rv rfl rfl rfl (mv_r rfl) ?_
    refine call Tryz.call17 rfl rfl rfl (fun W hS => law46_listed hZ x hKx W) ?_
    refine rv rfl rfl rfl (mv_r rfl) ?_
    refine call Tryz.call17 rfl rfl rfl (fun W hS => law46_listed hZ y hKy W) ?_
    refine bslW Tryz.underlying38 Tryz.sizeOf49 Tryz.zeroValue49 rfl rfl rfl rfl rfl rfl rfl ?_
    intro b74 ha74 ho74
    simp only [Above] at ha74
    try simp only [Off, List.set_cons_zero, List.set_cons_succ, ne_eq] at ho74
    refine OJ.reH (H' := [(b74, .cells (lsC2 (lstd Z x) (lstd Z y)) 49 (0, 0)), _, _]) rfl ?_
    refine rv rfl rfl rfl (asg_r rfl) ?_
    refine OJ.done ?_
    refine PJ.next ?_
    refine CJ.seq ?_
    refine CJ.region ?_
    refine rv rfl rfl rfl (RV.re (v' := .agg (dg f)) (ldRAw_r Tryz.isAgg26 Tryz.sizeOf26 rfl (.head _) hb4 hm4 (by first | (simp only [Off, book, List.cons_append, List.nil_append, List.set_cons_zero, List.set_cons_succ, List.eraseIdx_cons_zero, List.eraseIdx_cons_succ, ne_eq, and_true]; omega) | (simp [Off] <;> omega)) rfl) (rfl)) ?_
    refine rv rfl rfl rfl (RV.re (v' := .agg (cnC (apC Z f x (x + 1)))) (ldWAw_r (i := 2) rfl Tryz.isAgg32 Tryz.sizeOf32 rfl rfl) (rfl)) ?_
    refine rv rfl rfl rfl (RV.re (v' := .agg (cnC (apC Z f y (y + 1)))) (ldWAw_r (i := 1) rfl Tryz.isAgg32 Tryz.sizeOf32 rfl rfl) (rfl)) ?_
    refine bslR Tryz.underlying39 Tryz.sizeOf32 Tryz.zeroValue32 rfl rfl rfl rfl rfl rfl rfl ?_
    intro b78 w78 hb78 ha78 ho78 hm78 hz78
    simp only [Above] at ha78
    try simp only [Off, book, List.cons_append, List.nil_append, List.set_cons_zero, List.set_cons_succ, ne_eq] at ho78
    refine rv rfl rfl rfl (RV.re (v' := .agg (exC (⟨f, some ⟨b78, 0, none⟩, [(apC Z f x (x + 1)), (apC Z f y (y + 1))], 2⟩ : Ex))) (bldS_r Tryz.underlying41 Tryz.zeroValue41 (PlF.c Tryz.sizeOf26 (PlF.c Tryz.sizeOf39 (PlF.n))) rfl rfl) (rfl)) ?_
    refine allW Tryz.zeroValue41 rfl rfl ?_
    intro b18 ha18 ho18
    simp only [Above] at ha18
    try simp only [Off, book, List.cons_append, List.nil_append, List.set_cons_zero, List.set_cons_succ, ne_eq] at ho18
    refine stWw (i := 0) rfl Tryz.sizeOf41 rfl rfl rfl rfl rfl rfl ?_
    refine OJ.done ?_
    refine PJ.next ?_
    refine CJ.seq ?_
    refine CJ.region ?_
    refine rv rfl rfl rfl (asg_r rfl) ?_
    refine OJ.done ?_
    refine PJ.next ?_
    refine CJ.seq ?_
    refine CJ.seq ?_
    refine CJ.region ?_
    refine rv rfl rfl rfl (mv_r rfl) ?_
    refine rv rfl rfl rfl (mv_r rfl) ?_
    refine OJ.split (t := 81) rfl (fun hc2 => ?_) (fun hc2 => ?_)
    · try simp only [decide_eq_true_eq, decide_eq_false_iff_not, Bool.not_eq_true', Bool.not_eq_false'] at hc2
      refine rv rfl rfl rfl (mv_r rfl) ?_
      refine rv rfl rfl rfl (mv_r rfl) ?_
      refine rv rfl rfl rfl (eqlI_r rfl rfl) ?_
      refine rv rfl rfl rfl (pkT_r rfl rfl) ?_
      refine OJ.done ?_
      refine PJ.next ?_
      refine CJ.cond rfl (fun hc3 => ?_) (fun hc3 => ?_)
      · try simp only [decide_eq_true_eq, decide_eq_false_iff_not, Bool.not_eq_true', Bool.not_eq_false'] at hc3
        refine CJ.region ?_
        refine rv rfl rfl rfl (asg_r rfl) ?_
        refine OJ.done ?_
        refine PJ.next ?_
        refine CJ.seq ?_
        refine CJ.region ?_
        refine rv rfl rfl rfl (mv_r rfl) ?_
        refine rv rfl rfl rfl (RV.re (v' := .agg (poC (polT true))) (bldS_r Tryz.underlying24 Tryz.zeroValue24 (PlF.c Tryz.sizeOf3 (PlF.c Tryz.sizeOf4 (PlF.c Tryz.sizeOf22 (PlF.c Tryz.sizeOf22 (PlF.c Tryz.sizeOf3 (PlF.c Tryz.sizeOf3 (PlF.n))))))) rfl rfl) (by rw [show two = true by assumption]; rfl)) ?_
        refine allW Tryz.zeroValue24 rfl rfl ?_
        intro b20 ha20 ho20
        simp only [Above] at ha20
        try simp only [Off, book, List.cons_append, List.nil_append, List.set_cons_zero, List.set_cons_succ, ne_eq] at ho20
        refine stWw (i := 0) rfl Tryz.sizeOf24 rfl rfl rfl rfl rfl rfl ?_
        refine OJ.done ?_
        refine PJ.next ?_
        refine CJ.seq ?_
        refine CJ.seq ?_
        refine CJ.region ?_
        refine rv rfl rfl rfl (ldWAw_r (i := 0) rfl Tryz.isAgg24 Tryz.sizeOf24 rfl rfl) ?_
        refine rv rfl rfl rfl (mv_r rfl) ?_
        refine rv rfl rfl rfl (ldWAw_r (i := 1) rfl Tryz.isAgg41 Tryz.sizeOf41 rfl rfl) ?_
        refine call Tryz.call14 rfl rfl rfl (fun W hS => by have hgW := (hg.old hS (by simp) (fun _ _ h => h) (by first | exact True.intro | (simp only [Over, List.set_cons_zero, List.set_cons_succ, List.eraseIdx_cons_zero, List.eraseIdx_cons_succ, and_true]; omega))); rw [← t0_same hZ f hDx hDy hne (some ⟨b78, 0, none⟩) 2 (by assumption)]; exact policy_Export hZ (polT true) (polT_few _) [(lstd Z x), (lstd Z y)] (by simp) f [(apC Z f x (x + 1)), (apC Z f y (y + 1))] (by simp) W.heap.size (some ⟨b74, 0, none⟩) 2 (some ⟨b78, 0, none⟩) 2 W (Nat.le_refl _) ⟨sl_nil, sl_nil⟩ (sl_ls2 (hS.own _ (.tail _ (.tail _ (.head _))))) (sl_cn2 (hS.old (.head _) hb78 hm78 (by first | exact True.intro | (simp only [Off, List.set_cons_zero, List.set_cons_succ, List.eraseIdx_cons_zero, List.eraseIdx_cons_succ, ne_eq, and_true]; omega)))) hgW hgW.lt) (v := .int .i64 460) ?_
        refine rv rfl rfl rfl (mv_r rfl) ?_
        refine rv rfl rfl rfl (RV.re (v' := .bool false) (neqI_r rfl rfl) rfl) ?_
        refine OJ.done ?_
        refine PJ.next ?_
        refine CJ.condF rfl ?_
        refine CJ.skip ?_
        refine PJ.next ?_
        refine CJ.seq ?_
        refine CJ.region ?_
        refine rv rfl rfl rfl (mv_r rfl) ?_
        refine rv rfl rfl rfl (idxS_r Tryz.underlying38 Tryz.sizeOf49 rfl rfl (by omega) (by omega)) ?_
        refine rv rfl rfl rfl (fld_r Tryz.underlying49 rfl Tryz.sizeOf4 rfl) ?_
        refine stW (i := 2) rfl Tryz.sizeOf4 rfl rfl rfl rfl (Nat.le_of_ble_eq_true rfl) rfl ?_
        refine OJ.reH (H' := [_, _, (b74, .cells (lsC2 (lstd Z x) (gon (lstd Z y))) 49 (0, 0)), _, _]) rfl ?_
        refine OJ.done ?_
        refine PJ.next ?_
        refine CJ.seq ?_
        refine CJ.seq ?_
        refine CJ.region ?_
        refine rv rfl rfl rfl (RV.re (v' := .bool true) (mv_r rfl) (congrArg Value.bool (by assumption))) ?_
        refine OJ.done ?_
        refine PJ.next ?_
        refine CJ.condT rfl ?_
        refine CJ.region ?_
        refine rv rfl rfl rfl (asg_r rfl) ?_
        refine OJ.done ?_
        refine PJ.next ?_
        refine CJ.seq ?_
        refine CJ.seq ?_
        refine CJ.region ?_
        refine rv rfl rfl rfl (ldWAw_r (i := 0) rfl Tryz.isAgg24 Tryz.sizeOf24 rfl rfl) ?_
        refine rv rfl rfl rfl (mv_r rfl) ?_
        refine rv rfl rfl rfl (ldWAw_r (i := 1) rfl Tryz.isAgg41 Tryz.sizeOf41 rfl rfl) ?_
        refine call Tryz.call14 rfl rfl rfl (fun W hS => by have hgW := (hg.old hS (by simp) (fun _ _ h => h) (by first | exact True.intro | (simp only [Over, List.set_cons_zero, List.set_cons_succ, List.eraseIdx_cons_zero, List.eraseIdx_cons_succ, and_true]; omega))); rw [← t1_two hZ f hDx hDy hne (some ⟨b78, 0, none⟩) 2]; exact policy_Export hZ (polT true) (polT_few _) [(lstd Z x), gon (lstd Z y)] (by simp) f [(apC Z f x (x + 1)), (apC Z f y (y + 1))] (by simp) W.heap.size (some ⟨b74, 0, none⟩) 2 (some ⟨b78, 0, none⟩) 2 W (Nat.le_refl _) ⟨sl_nil, sl_nil⟩ (sl_ls2 (hS.own _ (.tail _ (.tail _ (.head _))))) (sl_cn2 (hS.old (.head _) hb78 hm78 (by first | exact True.intro | (simp only [Off, List.set_cons_zero, List.set_cons_succ, List.eraseIdx_cons_zero, List.eraseIdx_cons_succ, ne_eq, and_true]; omega)))) hgW hgW.lt) (v := .int .i64 460) ?_
        refine rv rfl rfl rfl (mv_r rfl) ?_
        refine rv rfl rfl rfl (RV.re (v' := .bool false) (neqI_r rfl rfl) rfl) ?_
        refine OJ.done ?_
        refine PJ.next ?_
        refine CJ.condF rfl ?_
        refine CJ.skip ?_
        refine PJ.next ?_
        refine CJ.seq ?_
        refine CJ.region ?_
        refine rv rfl rfl rfl (mv_r rfl) ?_
        refine rv rfl rfl rfl (idxS_r Tryz.underlying38 Tryz.sizeOf49 rfl rfl (by omega) (by omega)) ?_
        refine rv rfl rfl rfl (fld_r Tryz.underlying49 rfl Tryz.sizeOf4 rfl) ?_
        refine stW (i := 2) rfl Tryz.sizeOf4 rfl rfl rfl rfl (Nat.le_of_ble_eq_true rfl) rfl ?_
        refine OJ.reH (H' := [_, _, (b74, .cells (lsC2 (gon (lstd Z x)) (gon (lstd Z y))) 49 (0, 0)), _, _]) rfl ?_
        refine OJ.done ?_
        refine PJ.next ?_
        refine CJ.seq ?_
        refine CJ.region ?_
        refine rv rfl rfl rfl (ldWAw_r (i := 0) rfl Tryz.isAgg24 Tryz.sizeOf24 rfl rfl) ?_
        refine rv rfl rfl rfl (mv_r rfl) ?_
        refine rv rfl rfl rfl (ldWAw_r (i := 1) rfl Tryz.isAgg41 Tryz.sizeOf41 rfl rfl) ?_
        refine call Tryz.call14 rfl rfl rfl (fun W hS => by have hgW := (hg.old hS (by simp) (fun _ _ h => h) (by first | exact True.intro | (simp only [Over, List.set_cons_zero, List.set_cons_succ, List.eraseIdx_cons_zero, List.eraseIdx_cons_succ, and_true]; omega))); rw [← t2 hZ f hDx hDy hne (some ⟨b78, 0, none⟩) 2 true]; exact policy_Export hZ (polT true) (polT_few _) [gon (lstd Z x), gon (lstd Z y)] (by simp) f [(apC Z f x (x + 1)), (apC Z f y (y + 1))] (by simp) W.heap.size (some ⟨b74, 0, none⟩) 2 (some ⟨b78, 0, none⟩) 2 W (Nat.le_refl _) ⟨sl_nil, sl_nil⟩ (sl_ls2 (hS.own _ (.tail _ (.tail _ (.head _))))) (sl_cn2 (hS.old (.head _) hb78 hm78 (by first | exact True.intro | (simp only [Off, List.set_cons_zero, List.set_cons_succ, List.eraseIdx_cons_zero, List.eraseIdx_cons_succ, ne_eq, and_true]; omega)))) hgW hgW.lt) (v := .int .i64 460) ?_
        refine rv rfl rfl rfl (RV.re (v' := .bool true) (eqlI_r rfl rfl) rfl) ?_
        refine rv rfl rfl rfl (asg_r rfl) ?_
        refine OJ.done ?_
        refine PJ.next ?_
        refine CJ.ret ?_
        refine retO (.inl rfl) Tryz.results5 (RS.t rfl (RS.n)) (.tail _ (.tail _ (.head _))) (by first | (simp only [Over, List.set_cons_zero, List.set_cons_succ, List.eraseIdx_cons_zero, List.eraseIdx_cons_succ, and_true]; omega) | (simp [Over] <;> omega)) ?_
        rfl
      · try simp only [decide_eq_true_eq, decide_eq_false_iff_not, Bool.not_eq_true', Bool.not_eq_false'] at hc3
        refine CJ.skip ?_
        refine PJ.next ?_
        refine CJ.seq ?_
        refine CJ.region ?_
        refine rv rfl rfl rfl (mv_r rfl) ?_
        refine rv rfl rfl rfl (RV.re (v' := .agg (poC (polT true))) (bldS_r Tryz.underlying24 Tryz.zeroValue24 (PlF.c Tryz.sizeOf3 (PlF.c Tryz.sizeOf4 (PlF.c Tryz.sizeOf22 (PlF.c Tryz.sizeOf22 (PlF.c Tryz.sizeOf3 (PlF.c Tryz.sizeOf3 (PlF.n))))))) rfl rfl) (by rw [show two = true by assumption]; rfl)) ?_
        refine allW Tryz.zeroValue24 rfl rfl ?_
        intro b20 ha20 ho20
        simp only [Above] at ha20
        try simp only [Off, book, List.cons_append, List.nil_append, List.set_cons_zero, List.set_cons_succ, ne_eq] at ho20
        refine stWw (i := 0) rfl Tryz.sizeOf24 rfl rfl rfl rfl rfl rfl ?_
        refine OJ.done ?_
        refine PJ.next ?_
        refine CJ.seq ?_
        refine CJ.seq ?_
        refine CJ.region ?_
        refine rv rfl rfl rfl (ldWAw_r (i := 0) rfl Tryz.isAgg24 Tryz.sizeOf24 rfl rfl) ?_
        refine rv rfl rfl rfl (mv_r rfl) ?_
        refine rv rfl rfl rfl (ldWAw_r (i := 1) rfl Tryz.isAgg41 Tryz.sizeOf41 rfl rfl) ?_
        refine call Tryz.call14 rfl rfl rfl (fun W hS => by have hgW := (hg.old hS (by simp) (fun _ _ h => h) (by first | exact True.intro | (simp only [Over, List.set_cons_zero, List.set_cons_succ, List.eraseIdx_cons_zero, List.eraseIdx_cons_succ, and_true]; omega))); rw [← t0_diff hZ f hDx hDy hne (some ⟨b78, 0, none⟩) 2 (by assumption)]; exact policy_Export hZ (polT true) (polT_few _) [(lstd Z x), (lstd Z y)] (by simp) f [(apC Z f x (x + 1)), (apC Z f y (y + 1))] (by simp) W.heap.size (some ⟨b74, 0, none⟩) 2 (some ⟨b78, 0, none⟩) 2 W (Nat.le_refl _) ⟨sl_nil, sl_nil⟩ (sl_ls2 (hS.own _ (.tail _ (.tail _ (.head _))))) (sl_cn2 (hS.old (.head _) hb78 hm78 (by first | exact True.intro | (simp only [Off, List.set_cons_zero, List.set_cons_succ, List.eraseIdx_cons_zero, List.eraseIdx_cons_succ, ne_eq, and_true]; omega)))) hgW hgW.lt) (v := .int .i64 0) ?_
        refine rv rfl rfl rfl (mv_r rfl) ?_
        refine rv rfl rfl rfl (RV.re (v' := .bool false) (neqI_r rfl rfl) rfl) ?_
        refine OJ.done ?_
        refine PJ.next ?_
        refine CJ.condF rfl ?_
        refine CJ.skip ?_
        refine PJ.next ?_
        refine CJ.seq ?_
        refine CJ.region ?_
        refine rv rfl rfl rfl (mv_r rfl) ?_
        refine rv rfl rfl rfl (idxS_r Tryz.underlying38 Tryz.sizeOf49 rfl rfl (by omega) (by omega)) ?_
        refine rv rfl rfl rfl (fld_r Tryz.underlying49 rfl Tryz.sizeOf4 rfl) ?_
        refine stW (i := 2) rfl Tryz.sizeOf4 rfl rfl rfl rfl (Nat.le_of_ble_eq_true rfl) rfl ?_
        refine OJ.reH (H' := [_, _, (b74, .cells (lsC2 (lstd Z x) (gon (lstd Z y))) 49 (0, 0)), _, _]) rfl ?_
        refine OJ.done ?_
        refine PJ.next ?_
        refine CJ.seq ?_
        refine CJ.seq ?_
        refine CJ.region ?_
        refine rv rfl rfl rfl (RV.re (v' := .bool true) (mv_r rfl) (congrArg Value.bool (by assumption))) ?_
        refine OJ.done ?_
        refine PJ.next ?_
        refine CJ.condT rfl ?_
        refine CJ.region ?_
        refine rv rfl rfl rfl (asg_r rfl) ?_
        refine OJ.done ?_
        refine PJ.next ?_
        refine CJ.seq ?_
        refine CJ.seq ?_
        refine CJ.region ?_
        refine rv rfl rfl rfl (ldWAw_r (i := 0) rfl Tryz.isAgg24 Tryz.sizeOf24 rfl rfl) ?_
        refine rv rfl rfl rfl (mv_r rfl) ?_
        refine rv rfl rfl rfl (ldWAw_r (i := 1) rfl Tryz.isAgg41 Tryz.sizeOf41 rfl rfl) ?_
        refine call Tryz.call14 rfl rfl rfl (fun W hS => by have hgW := (hg.old hS (by simp) (fun _ _ h => h) (by first | exact True.intro | (simp only [Over, List.set_cons_zero, List.set_cons_succ, List.eraseIdx_cons_zero, List.eraseIdx_cons_succ, and_true]; omega))); rw [← t1_two hZ f hDx hDy hne (some ⟨b78, 0, none⟩) 2]; exact policy_Export hZ (polT true) (polT_few _) [(lstd Z x), gon (lstd Z y)] (by simp) f [(apC Z f x (x + 1)), (apC Z f y (y + 1))] (by simp) W.heap.size (some ⟨b74, 0, none⟩) 2 (some ⟨b78, 0, none⟩) 2 W (Nat.le_refl _) ⟨sl_nil, sl_nil⟩ (sl_ls2 (hS.own _ (.tail _ (.tail _ (.head _))))) (sl_cn2 (hS.old (.head _) hb78 hm78 (by first | exact True.intro | (simp only [Off, List.set_cons_zero, List.set_cons_succ, List.eraseIdx_cons_zero, List.eraseIdx_cons_succ, ne_eq, and_true]; omega)))) hgW hgW.lt) (v := .int .i64 460) ?_
        refine rv rfl rfl rfl (mv_r rfl) ?_
        refine rv rfl rfl rfl (RV.re (v' := .bool false) (neqI_r rfl rfl) rfl) ?_
        refine OJ.done ?_
        refine PJ.next ?_
        refine CJ.condF rfl ?_
        refine CJ.skip ?_
        refine PJ.next ?_
        refine CJ.seq ?_
        refine CJ.region ?_
        refine rv rfl rfl rfl (mv_r rfl) ?_
        refine rv rfl rfl rfl (idxS_r Tryz.underlying38 Tryz.sizeOf49 rfl rfl (by omega) (by omega)) ?_
        refine rv rfl rfl rfl (fld_r Tryz.underlying49 rfl Tryz.sizeOf4 rfl) ?_
        refine stW (i := 2) rfl Tryz.sizeOf4 rfl rfl rfl rfl (Nat.le_of_ble_eq_true rfl) rfl ?_
        refine OJ.reH (H' := [_, _, (b74, .cells (lsC2 (gon (lstd Z x)) (gon (lstd Z y))) 49 (0, 0)), _, _]) rfl ?_
        refine OJ.done ?_
        refine PJ.next ?_
        refine CJ.seq ?_
        refine CJ.region ?_
        refine rv rfl rfl rfl (ldWAw_r (i := 0) rfl Tryz.isAgg24 Tryz.sizeOf24 rfl rfl) ?_
        refine rv rfl rfl rfl (mv_r rfl) ?_
        refine rv rfl rfl rfl (ldWAw_r (i := 1) rfl Tryz.isAgg41 Tryz.sizeOf41 rfl rfl) ?_
        refine call Tryz.call14 rfl rfl rfl (fun W hS => by have hgW := (hg.old hS (by simp) (fun _ _ h => h) (by first | exact True.intro | (simp only [Over, List.set_cons_zero, List.set_cons_succ, List.eraseIdx_cons_zero, List.eraseIdx_cons_succ, and_true]; omega))); rw [← t2 hZ f hDx hDy hne (some ⟨b78, 0, none⟩) 2 true]; exact policy_Export hZ (polT true) (polT_few _) [gon (lstd Z x), gon (lstd Z y)] (by simp) f [(apC Z f x (x + 1)), (apC Z f y (y + 1))] (by simp) W.heap.size (some ⟨b74, 0, none⟩) 2 (some ⟨b78, 0, none⟩) 2 W (Nat.le_refl _) ⟨sl_nil, sl_nil⟩ (sl_ls2 (hS.own _ (.tail _ (.tail _ (.head _))))) (sl_cn2 (hS.old (.head _) hb78 hm78 (by first | exact True.intro | (simp only [Off, List.set_cons_zero, List.set_cons_succ, List.eraseIdx_cons_zero, List.eraseIdx_cons_succ, ne_eq, and_true]; omega)))) hgW hgW.lt) (v := .int .i64 460) ?_
        refine rv rfl rfl rfl (RV.re (v' := .bool true) (eqlI_r rfl rfl) rfl) ?_
        refine rv rfl rfl rfl (asg_r rfl) ?_
        refine OJ.done ?_
        refine PJ.next ?_
        refine CJ.ret ?_
        refine retO (.inl rfl) Tryz.results5 (RS.t rfl (RS.n)) (.tail _ (.tail _ (.head _))) (by first | (simp only [Over, List.set_cons_zero, List.set_cons_succ, List.eraseIdx_cons_zero, List.eraseIdx_cons_succ, and_true]; omega) | (simp [Over] <;> omega)) ?_
        rfl
    · try simp only [decide_eq_true_eq, decide_eq_false_iff_not, Bool.not_eq_true', Bool.not_eq_false'] at hc2
      refine OJ.off rfl (by decide) rfl ?_
      refine OJ.off rfl (by decide) rfl ?_
      refine OJ.off rfl (by decide) rfl ?_
      refine rv rfl rfl rfl (pkF_r rfl rfl) ?_
      refine OJ.done ?_
      refine PJ.next ?_
      refine CJ.condF rfl ?_
      refine CJ.skip ?_
      refine PJ.next ?_
      refine CJ.seq ?_
      refine CJ.region ?_
      refine rv rfl rfl rfl (mv_r rfl) ?_
      refine rv rfl rfl rfl (RV.re (v' := .agg (poC (polT false))) (bldS_r Tryz.underlying24 Tryz.zeroValue24 (PlF.c Tryz.sizeOf3 (PlF.c Tryz.sizeOf4 (PlF.c Tryz.sizeOf22 (PlF.c Tryz.sizeOf22 (PlF.c Tryz.sizeOf3 (PlF.c Tryz.sizeOf3 (PlF.n))))))) rfl rfl) (by rw [show two = false by assumption]; rfl)) ?_
      refine allW Tryz.zeroValue24 rfl rfl ?_
      intro b20 ha20 ho20
      simp only [Above] at ha20
      try simp only [Off, book, List.cons_append, List.nil_append, List.set_cons_zero, List.set_cons_succ, ne_eq] at ho20
      refine stWw (i := 0) rfl Tryz.sizeOf24 rfl rfl rfl rfl rfl rfl ?_
      refine OJ.done ?_
      refine PJ.next ?_
      refine CJ.seq ?_
      refine CJ.seq ?_
      refine CJ.region ?_
      refine rv rfl rfl rfl (ldWAw_r (i := 0) rfl Tryz.isAgg24 Tryz.sizeOf24 rfl rfl) ?_
      refine rv rfl rfl rfl (mv_r rfl) ?_
      refine rv rfl rfl rfl (ldWAw_r (i := 1) rfl Tryz.isAgg41 Tryz.sizeOf41 rfl rfl) ?_
      refine call Tryz.call14 rfl rfl rfl (fun W hS => by have hgW := (hg.old hS (by simp) (fun _ _ h => h) (by first | exact True.intro | (simp only [Over, List.set_cons_zero, List.set_cons_succ, List.eraseIdx_cons_zero, List.eraseIdx_cons_succ, and_true]; omega))); rw [← t0_one hZ f hDx hDy hne (some ⟨b78, 0, none⟩) 2]; exact policy_Export hZ (polT false) (polT_few _) [(lstd Z x), (lstd Z y)] (by simp) f [(apC Z f x (x + 1)), (apC Z f y (y + 1))] (by simp) W.heap.size (some ⟨b74, 0, none⟩) 2 (some ⟨b78, 0, none⟩) 2 W (Nat.le_refl _) ⟨sl_nil, sl_nil⟩ (sl_ls2 (hS.own _ (.tail _ (.tail _ (.head _))))) (sl_cn2 (hS.old (.head _) hb78 hm78 (by first | exact True.intro | (simp only [Off, List.set_cons_zero, List.set_cons_succ, List.eraseIdx_cons_zero, List.eraseIdx_cons_succ, ne_eq, and_true]; omega)))) hgW hgW.lt) (v := .int .i64 0) ?_
      refine rv rfl rfl rfl (mv_r rfl) ?_
      refine rv rfl rfl rfl (RV.re (v' := .bool false) (neqI_r rfl rfl) rfl) ?_
      refine OJ.done ?_
      refine PJ.next ?_
      refine CJ.condF rfl ?_
      refine CJ.skip ?_
      refine PJ.next ?_
      refine CJ.seq ?_
      refine CJ.region ?_
      refine rv rfl rfl rfl (mv_r rfl) ?_
      refine rv rfl rfl rfl (idxS_r Tryz.underlying38 Tryz.sizeOf49 rfl rfl (by omega) (by omega)) ?_
      refine rv rfl rfl rfl (fld_r Tryz.underlying49 rfl Tryz.sizeOf4 rfl) ?_
      refine stW (i := 2) rfl Tryz.sizeOf4 rfl rfl rfl rfl (Nat.le_of_ble_eq_true rfl) rfl ?_
      refine OJ.reH (H' := [_, _, (b74, .cells (lsC2 (lstd Z x) (gon (lstd Z y))) 49 (0, 0)), _, _]) rfl ?_
      refine OJ.done ?_
      refine PJ.next ?_
      refine CJ.seq ?_
      refine CJ.seq ?_
      refine CJ.region ?_
      refine rv rfl rfl rfl (RV.re (v' := .bool false) (mv_r rfl) (congrArg Value.bool (by assumption))) ?_
      refine OJ.done ?_
      refine PJ.next ?_
      refine CJ.condF rfl ?_
      refine CJ.skip ?_
      refine PJ.next ?_
      refine CJ.seq ?_
      refine CJ.seq ?_
      refine CJ.region ?_
      refine rv rfl rfl rfl (ldWAw_r (i := 0) rfl Tryz.isAgg24 Tryz.sizeOf24 rfl rfl) ?_
      refine rv rfl rfl rfl (mv_r rfl) ?_
      refine rv rfl rfl rfl (ldWAw_r (i := 1) rfl Tryz.isAgg41 Tryz.sizeOf41 rfl rfl) ?_
      refine call Tryz.call14 rfl rfl rfl (fun W hS => by have hgW := (hg.old hS (by simp) (fun _ _ h => h) (by first | exact True.intro | (simp only [Over, List.set_cons_zero, List.set_cons_succ, List.eraseIdx_cons_zero, List.eraseIdx_cons_succ, and_true]; omega))); rw [← t1_one hZ f hDx hDy hne (some ⟨b78, 0, none⟩) 2]; exact policy_Export hZ (polT false) (polT_few _) [(lstd Z x), gon (lstd Z y)] (by simp) f [(apC Z f x (x + 1)), (apC Z f y (y + 1))] (by simp) W.heap.size (some ⟨b74, 0, none⟩) 2 (some ⟨b78, 0, none⟩) 2 W (Nat.le_refl _) ⟨sl_nil, sl_nil⟩ (sl_ls2 (hS.own _ (.tail _ (.tail _ (.head _))))) (sl_cn2 (hS.old (.head _) hb78 hm78 (by first | exact True.intro | (simp only [Off, List.set_cons_zero, List.set_cons_succ, List.eraseIdx_cons_zero, List.eraseIdx_cons_succ, ne_eq, and_true]; omega)))) hgW hgW.lt) (v := .int .i64 0) ?_
      refine rv rfl rfl rfl (mv_r rfl) ?_
      refine rv rfl rfl rfl (RV.re (v' := .bool false) (neqI_r rfl rfl) rfl) ?_
      refine OJ.done ?_
      refine PJ.next ?_
      refine CJ.condF rfl ?_
      refine CJ.skip ?_
      refine PJ.next ?_
      refine CJ.seq ?_
      refine CJ.region ?_
      refine rv rfl rfl rfl (mv_r rfl) ?_
      refine rv rfl rfl rfl (idxS_r Tryz.underlying38 Tryz.sizeOf49 rfl rfl (by omega) (by omega)) ?_
      refine rv rfl rfl rfl (fld_r Tryz.underlying49 rfl Tryz.sizeOf4 rfl) ?_
      refine stW (i := 2) rfl Tryz.sizeOf4 rfl rfl rfl rfl (Nat.le_of_ble_eq_true rfl) rfl ?_
      refine OJ.reH (H' := [_, _, (b74, .cells (lsC2 (gon (lstd Z x)) (gon (lstd Z y))) 49 (0, 0)), _, _]) rfl ?_
      refine OJ.done ?_
      refine PJ.next ?_
      refine CJ.seq ?_
      refine CJ.region ?_
      refine rv rfl rfl rfl (ldWAw_r (i := 0) rfl Tryz.isAgg24 Tryz.sizeOf24 rfl rfl) ?_
      refine rv rfl rfl rfl (mv_r rfl) ?_
      refine rv rfl rfl rfl (ldWAw_r (i := 1) rfl Tryz.isAgg41 Tryz.sizeOf41 rfl rfl) ?_
      refine call Tryz.call14 rfl rfl rfl (fun W hS => by have hgW := (hg.old hS (by simp) (fun _ _ h => h) (by first | exact True.intro | (simp only [Over, List.set_cons_zero, List.set_cons_succ, List.eraseIdx_cons_zero, List.eraseIdx_cons_succ, and_true]; omega))); rw [← t2 hZ f hDx hDy hne (some ⟨b78, 0, none⟩) 2 false]; exact policy_Export hZ (polT false) (polT_few _) [gon (lstd Z x), gon (lstd Z y)] (by simp) f [(apC Z f x (x + 1)), (apC Z f y (y + 1))] (by simp) W.heap.size (some ⟨b74, 0, none⟩) 2 (some ⟨b78, 0, none⟩) 2 W (Nat.le_refl _) ⟨sl_nil, sl_nil⟩ (sl_ls2 (hS.own _ (.tail _ (.tail _ (.head _))))) (sl_cn2 (hS.old (.head _) hb78 hm78 (by first | exact True.intro | (simp only [Off, List.set_cons_zero, List.set_cons_succ, List.eraseIdx_cons_zero, List.eraseIdx_cons_succ, ne_eq, and_true]; omega)))) hgW hgW.lt) (v := .int .i64 460) ?_
      refine rv rfl rfl rfl (RV.re (v' := .bool true) (eqlI_r rfl rfl) rfl) ?_
      refine rv rfl rfl rfl (asg_r rfl) ?_
      refine OJ.done ?_
      refine PJ.next ?_
      refine CJ.ret ?_
      refine retO (.inl rfl) Tryz.results5 (RS.t rfl (RS.n)) (.tail _ (.tail _ (.head _))) (by first | (simp only [Over, List.set_cons_zero, List.set_cons_succ, List.eraseIdx_cons_zero, List.eraseIdx_cons_succ, and_true]; omega) | (simp [Over] <;> omega)) ?_
      rfl
end Px
