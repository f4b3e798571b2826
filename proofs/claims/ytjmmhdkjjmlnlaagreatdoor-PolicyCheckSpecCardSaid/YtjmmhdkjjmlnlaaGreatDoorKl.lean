/- The contract of PolicyCheckSpec: called with any values of its types it returns true. No condition beyond those that each theorem states. -/
import Derived.Test.YtjmmhdkjjmlnlaaGreatDoorKk
import Derived.Test.YtjmmhdkjjmlnlaaGreatDoorProg
set_option linter.unusedSimpArgs false
set_option linter.unusedVariables false
set_option linter.unusedSectionVars false
namespace Px
open Go Go.RowKit Go.Proofs
def ks30 : List TK := [.i] ++ ([.i] ++ ([]))
theorem eqA30 : EqA Tryz.prog 2 30 ks30 := EqA.struct Tryz.underlying30 (by kernel_rfl) (EqFs.c rfl (by decide) ((EqP.int Tryz.underlying3 Tryz.isAgg3).up (by decide) : EqP Tryz.prog 1 3 [.i]) (EqFs.c rfl (by decide) ((EqP.int Tryz.underlying3 Tryz.isAgg3).up (by decide) : EqP Tryz.prog 1 3 [.i]) (EqFs.n)))
def ks32 : List TK := [.i] ++ (ks30 ++ ([]))
theorem eqA32 : EqA Tryz.prog 3 32 ks32 := EqA.struct Tryz.underlying32 (by kernel_rfl) (EqFs.c rfl (by decide) ((EqP.int Tryz.underlying3 Tryz.isAgg3).up (by decide) : EqP Tryz.prog 2 3 [.i]) (EqFs.c rfl (by decide) ((EqP.agg Tryz.isAgg30 Tryz.sizeOf30 rfl eqA30).up (by decide) : EqP Tryz.prog 2 30 ks30) (EqFs.n)))
theorem eqG32 : Tryz.prog.eqGuardType Tryz.prog.depth 32 = false := by kernel_rfl
theorem eqCn (c : Cn) : eqL (cnC c).toList (cnC c).toList = true := eqL_refl (ks := ks32) (ys := (cnC c).toList) rfl
set_option maxHeartbeats 1600000 in
/-- chartroom/chartroomlaw46.PolicyCheckSpec -/
theorem law46_PolicyCheckSpec {Z : Fx} (hZ : FxOk Z) (p : Po) (N : Nat) (w : World) (hN : N ≤ w.heap.size) (hp : PoAt N w p) (f : Nat → Int) (d x : Int) (hg : Glb w) :
    Calls Tryz.prog 3 #[.agg (poC p), .agg (dg f), .int .i64 d, .int .i64 x] w (Ret w (.bool true)) := by
  have hg4 := hg.lt
  obtain ⟨c, e, hap⟩ := apT_sh Z f d x
  refine enter (vs := [_, _, _, _]) Tryz.func3 rfl Tryz.ntmps3 rfl ?_
  refine CJ.seq ?_
  refine CJ.region ?_
  refine boxR rfl rfl rfl ?_
  intro b4 w4 hb4 ha4 ho4 hm4 hz4
  simp only [Above] at ha4
  try simp only [Off, book, List.cons_append, List.nil_append, List.set_cons_zero, List.set_cons_succ, ne_eq] at ho4
  refine boxR rfl rfl rfl ?_
  intro b5 w5 hb5 ha5 ho5 hm5 hz5
  simp only [Above] at ha5
  try simp only [Off, book, List.cons_append, List.nil_append, List.set_cons_zero, List.set_cons_succ, ne_eq] at ho5
  refine rv rfl rfl rfl (asg_r rfl) ?_
  refine OJ.done ?_
  refine PJ.next ?_
  refine CJ.seq ?_
  refine CJ.seq ?_
  refine CJ.region ?_
  refine call Tryz.call7 rfl rfl rfl (fun W hS => law46_sane hZ W (hg.old hS (by simp) (fun _ _ h => h) (by first | exact True.intro | (simp only [Over, List.set_cons_zero, List.set_cons_succ, List.eraseIdx_cons_zero, List.eraseIdx_cons_succ, and_true]; omega)))) ?_
  refine rv rfl rfl rfl (notB_r rfl) ?_
  refine OJ.done ?_
  refine PJ.next ?_
  refine CJ.condF rfl ?_
  refine CJ.skip ?_
  refine PJ.next ?_
  refine CJ.seq ?_
  refine CJ.seq ?_
  refine CJ.region ?_
  refine rv rfl rfl rfl (RV.re (v' := .agg (poC p)) (ldRAw_r Tryz.isAgg24 Tryz.sizeOf24 rfl (.tail _ (.head _)) hb4 hm4 trivial rfl) (rfl)) ?_
  refine call Tryz.call8 rfl rfl rfl (fun W hS => r46_FewPeople p W) ?_
  refine rv rfl rfl rfl (notB_r rfl) ?_
  refine OJ.done ?_
  refine PJ.next ?_
  refine CJ.cond rfl (fun hc1 => ?_) (fun hc1 => ?_)
  · try simp only [decide_eq_true_eq, decide_eq_false_iff_not, Bool.not_eq_true', Bool.not_eq_false'] at hc1
    refine CJ.seq ?_
    refine CJ.region ?_
    refine rv rfl rfl rfl (asg_r rfl) ?_
    refine OJ.done ?_
    refine PJ.next ?_
    refine CJ.ret ?_
    refine PJ.retThen ?_
    refine retV Tryz.results3 rfl (.tail _ (.tail _ (.head _))) ?_
    rfl
  · try simp only [decide_eq_true_eq, decide_eq_false_iff_not, Bool.not_eq_true', Bool.not_eq_false'] at hc1
    refine CJ.skip ?_
    refine PJ.next ?_
    refine CJ.seq ?_
    have hf := fewB_po (p := p) (by assumption)
    refine CJ.region ?_
    refine rv rfl rfl rfl (RV.re (v' := .agg (dg f)) (ldRAw_r Tryz.isAgg26 Tryz.sizeOf26 rfl (.head _) hb5 hm5 trivial rfl) (rfl)) ?_
    refine rv rfl rfl rfl (mv_r rfl) ?_
    refine rv rfl rfl rfl (mv_r rfl) ?_
    refine call Tryz.call9 rfl rfl rfl (fun W hS => by rw [← hap]; exact policy_Approve hZ f d x W (hg.old hS (by simp) (fun _ _ h => h) (by first | exact True.intro | (simp only [Over, List.set_cons_zero, List.set_cons_succ, List.eraseIdx_cons_zero, List.eraseIdx_cons_succ, and_true]; omega)))) (v := .tuple #[.agg (cnC c), .int .i64 e]) ?_
    refine rv rfl rfl rfl (mv_r rfl) ?_
    refine rv rfl rfl rfl (ext_r rfl rfl) ?_
    refine rv rfl rfl rfl (ext_r rfl rfl) ?_
    refine allW Tryz.zeroValue32 rfl rfl ?_
    intro b9 ha9 ho9
    simp only [Above] at ha9
    try simp only [Off, book, List.cons_append, List.nil_append, List.set_cons_zero, List.set_cons_succ, ne_eq] at ho9
    refine stWw (i := 0) rfl Tryz.sizeOf32 rfl rfl rfl rfl rfl rfl ?_
    refine rv rfl rfl rfl (asg_r rfl) ?_
    refine OJ.done ?_
    refine PJ.next ?_
    refine CJ.seq ?_
    refine CJ.region ?_
    refine rv rfl rfl rfl (RV.re (v' := .agg (dg f)) (ldRAw_r Tryz.isAgg26 Tryz.sizeOf26 rfl (.head _) hb5 hm5 (by first | (simp only [Off, book, List.cons_append, List.nil_append, List.set_cons_zero, List.set_cons_succ, List.eraseIdx_cons_zero, List.eraseIdx_cons_succ, ne_eq, and_true]; omega) | (simp [Off] <;> omega)) rfl) (rfl)) ?_
    refine rv rfl rfl rfl (mv_r rfl) ?_
    refine rv rfl rfl rfl (mv_r rfl) ?_
    refine call Tryz.call10 rfl rfl rfl (fun W hS => by rw [← hap]; exact r46_Approve hZ f d x W) (v := .tuple #[.agg (cnC c), .int .i64 e]) ?_
    refine rv rfl rfl rfl (mv_r rfl) ?_
    refine rv rfl rfl rfl (ext_r rfl rfl) ?_
    refine rv rfl rfl rfl (ext_r rfl rfl) ?_
    refine allW Tryz.zeroValue32 rfl rfl ?_
    intro b11 ha11 ho11
    simp only [Above] at ha11
    try simp only [Off, book, List.cons_append, List.nil_append, List.set_cons_zero, List.set_cons_succ, ne_eq] at ho11
    refine stWw (i := 0) rfl Tryz.sizeOf32 rfl rfl rfl rfl rfl rfl ?_
    refine rv rfl rfl rfl (asg_r rfl) ?_
    refine OJ.done ?_
    refine PJ.next ?_
    refine CJ.seq ?_
    refine CJ.less (E' := [(0, _), (1, _), (2, _), (3, _), (4, _), (5, _), (8, _), (9, _), (10, _), (11, _), (12, _), (13, _), (14, _), (15, _), (16, _), (17, _), (18, _), (19, _), (20, _), (21, _), (22, _), (23, _), (24, _), (25, _), (26, _), (27, _), (28, _), (29, _), (30, _), (31, _)]) ⟨rfl, rfl, rfl, rfl, rfl, rfl, rfl, rfl, rfl, rfl, rfl, rfl, rfl, rfl, rfl, rfl, rfl, rfl, rfl, rfl, rfl, rfl, rfl, rfl, rfl, rfl, rfl, rfl, rfl, rfl, trivial⟩ ?_
    refine CJ.drwD 12 [.det [] _, .det [] _, .det [0, 1] _, .det [2] _, .det [3] _, .det [3] _, .det [3, 4, 5] _, .det [3, 6] _, .det [7] _, .det [8] _, .det [8, 9] _, .det [8] _] (by kernel_rfl) (xc (fun vals => X.val rfl rfl (RV.re (v' := .agg (cnC c)) (ldWAw_r (i := 1) rfl Tryz.isAgg32 Tryz.sizeOf32 rfl rfl) (rfl)) (fun _ _ => rfl)) (xc (fun vals => X.val rfl rfl (RV.re (v' := .agg (cnC c)) (ldWAw_r (i := 0) rfl Tryz.isAgg32 Tryz.sizeOf32 rfl rfl) (rfl)) (fun _ _ => rfl)) (xc (fun vals => X.val rfl rfl (RV.re (v' := .bool true) (eqlA_r eqA32 (by decide) eqG32 rfl rfl rfl) (congrArg Value.bool (eqCn c))) (fun _ _ => rfl)) (xc (fun vals => X.val rfl rfl (mv_r rfl) (fun _ _ => rfl)) (xc (fun vals => X.val rfl rfl (mv_r rfl) (fun _ _ => rfl)) (xc (fun vals => X.val rfl rfl (mv_r rfl) (fun _ _ => rfl)) (xc (fun vals => X.val rfl rfl (RV.re (v' := .bool true) (eqlI_r rfl rfl) (congrArg Value.bool (decide_eq_true rfl))) (fun _ _ => rfl)) (xc (fun vals => X.val rfl rfl (pkT_r rfl rfl) (fun _ _ => rfl)) (xc (fun vals => X.val rfl rfl (mv_r rfl) (fun _ _ => rfl)) (xc (fun vals => X.val rfl rfl (RV.re (v' := .agg (poC p)) (ldRAw_r Tryz.isAgg24 Tryz.sizeOf24 rfl (.tail _ (.head _)) hb4 hm4 (by first | (simp only [Off, book, List.cons_append, List.nil_append, List.set_cons_zero, List.set_cons_succ, List.eraseIdx_cons_zero, List.eraseIdx_cons_succ, ne_eq, and_true]; omega) | (simp [Off] <;> omega)) rfl) (rfl)) (fun _ _ => rfl)) (xc (fun vals => X.callV Tryz.call11 rfl rfl (fun W hS _ => policy_Check p hf N W (Nat.le_trans hN (hS.links _ (.tail _ (.tail _ (.head _)))).size) (hp.up (Nat.le_refl _) (hS.same (.tail _ (.tail _ (.head _))) hN (fun _ _ h => h) (by first | exact True.intro | (simp only [Over, List.set_cons_zero, List.set_cons_succ, List.eraseIdx_cons_zero, List.eraseIdx_cons_succ, and_true]; omega))))) (fun _ => rfl)) (xc (fun vals => X.val rfl rfl (RV.re (v' := .agg (poC p)) (ldRAw_r Tryz.isAgg24 Tryz.sizeOf24 rfl (.tail _ (.head _)) hb4 hm4 (by first | (simp only [Off, book, List.cons_append, List.nil_append, List.set_cons_zero, List.set_cons_succ, List.eraseIdx_cons_zero, List.eraseIdx_cons_succ, ne_eq, and_true]; omega) | (simp [Off] <;> omega)) rfl) (rfl)) (fun _ _ => rfl)) (xn))))))))))))) (by kernel_rfl) (by kernel_rfl) (by kernel_rfl) (fun vals => ?_)
    refine call Tryz.call12 rfl rfl rfl (fun W hS => r46_Check p hf N W (Nat.le_trans hN (hS.links _ (.tail _ (.tail _ (.head _)))).size) (hp.up (Nat.le_refl _) (hS.same (.tail _ (.tail _ (.head _))) hN (fun _ _ h => h) (by first | exact True.intro | (simp only [Over, List.set_cons_zero, List.set_cons_succ, List.eraseIdx_cons_zero, List.eraseIdx_cons_succ, and_true]; omega))))) ?_
    refine rv rfl rfl rfl (RV.re (v' := .bool true) (eqlI_r rfl rfl) (congrArg Value.bool (decide_eq_true rfl))) ?_
    refine rv rfl rfl rfl (pkT_r rfl rfl) ?_
    refine rv rfl rfl rfl (asg_r rfl) ?_
    refine OJ.done ?_
    refine PJ.next ?_
    refine CJ.ret ?_
    refine retO (.inl rfl) Tryz.results3 (RS.t rfl (RS.n)) (.tail _ (.tail _ (.head _))) (by first | (simp only [Over, List.set_cons_zero, List.set_cons_succ, List.eraseIdx_cons_zero, List.eraseIdx_cons_succ, and_true]; omega) | (simp [Over] <;> omega)) ?_
    rfl
end Px
