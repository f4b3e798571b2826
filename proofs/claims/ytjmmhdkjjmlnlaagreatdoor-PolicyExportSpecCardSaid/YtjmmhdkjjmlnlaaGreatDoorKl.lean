/- The contract of PolicyExportSpec: called with any values of its types it returns true. No condition beyond those that each theorem states. -/
import Derived.Test.YtjmmhdkjjmlnlaaGreatDoorKk
import Derived.Test.YtjmmhdkjjmlnlaaGreatDoorProg
set_option linter.unusedSimpArgs false
set_option linter.unusedVariables false
namespace Px
open Go Go.RowKit Go.Proofs
def ks30 : List TK := [.i] ++ ([.i] ++ ([]))
def ks32 : List TK := [.i] ++ (ks30 ++ ([]))
set_option maxHeartbeats 1600000 in
/-- chartroom/chartroomlaw46.PolicyExportSpec -/
theorem law46_PolicyExportSpec {Z : Fx} (hZ : FxOk Z) (p : Po) (N : Nat) (w : World) (hN : N ≤ w.heap.size) (hp : PoAt N w p) (ls : List Ls) (f : Nat → Int) (cs : List Cn) (a : Option Addr) (cp : Nat) (ca : Option Addr) (cc : Nat) (hsl : SlAt lsC 5 N w a ls) (hcs : SlAt cnC 3 N w ca cs) (hg : Glb w) (hg2 : 2 ≤ N) :
    Calls Tryz.prog 4 #[.agg (poC p), .slice a ls.length cp, .agg (exC (⟨f, ca, cs, cc⟩ : Ex))] w (Ret w (.bool true)) := by
  have hg4 := hg.lt
  refine enter (vs := [_, _, _]) Tryz.func4 rfl Tryz.ntmps4 rfl ?_
  refine CJ.seq ?_
  refine CJ.region ?_
  refine boxR rfl rfl rfl ?_
  intro b3 w3 hb3 ha3 ho3 hm3 hz3
  simp only [Above] at ha3
  try simp only [Off, book, List.cons_append, List.nil_append, List.set_cons_zero, List.set_cons_succ, ne_eq] at ho3
  refine boxR rfl rfl rfl ?_
  intro b5 w5 hb5 ha5 ho5 hm5 hz5
  simp only [Above] at ha5
  try simp only [Off, book, List.cons_append, List.nil_append, List.set_cons_zero, List.set_cons_succ, ne_eq] at ho5
  refine rv rfl rfl rfl (asg_r rfl) ?_
  refine OJ.done ?_
  refine PJ.next ?_
  refine CJ.seq ?_
  refine CJ.seq ?_
  refine CJ.region ?_
  refine call Tryz.call7 rfl rfl rfl (fun W hS => law46_sane hZ W (hg.old hS (by simp) (fun _ _ h => h) (by first | exact True.intro | (simp only [Over, List.set_cons_zero, List.set_cons_succ, List.eraseIdx_cons_zero, List.eraseIdx_cons_succ, and_true]; omega)))) ?_
  refine rv rfl rfl rfl (notB_r rfl) ?_
  refine OJ.done ?_
  refine PJ.next ?_
  refine CJ.condF rfl ?_
  refine CJ.skip ?_
  refine PJ.next ?_
  refine CJ.seq ?_
  refine CJ.seq ?_
  refine CJ.region ?_
  refine rv rfl rfl rfl (RV.re (v' := .agg (poC p)) (ldRAw_r Tryz.isAgg24 Tryz.sizeOf24 rfl (.tail _ (.head _)) hb3 hm3 trivial rfl) (rfl)) ?_
  refine call Tryz.call8 rfl rfl rfl (fun W hS => r46_FewPeople p W) ?_
  refine rv rfl rfl rfl (notB_r rfl) ?_
  refine rv rfl rfl rfl (mv_r rfl) ?_
  refine OJ.split (t := 12) rfl (fun hc1 => ?_) (fun hc1 => ?_)
  · try simp only [decide_eq_true_eq, decide_eq_false_iff_not, Bool.not_eq_true', Bool.not_eq_false'] at hc1
    refine OJ.off rfl (by decide) rfl ?_
    refine OJ.off rfl (by decide) rfl ?_
    refine OJ.off rfl (by decide) rfl ?_
    refine OJ.off rfl (by decide) rfl ?_
    refine OJ.off rfl (by decide) rfl ?_
    refine rv rfl rfl rfl (pkT_r rfl rfl) ?_
    refine OJ.done ?_
    refine PJ.next ?_
    refine CJ.condT rfl ?_
    refine CJ.seq ?_
    refine CJ.region ?_
    refine rv rfl rfl rfl (asg_r rfl) ?_
    refine OJ.done ?_
    refine PJ.next ?_
    refine CJ.ret ?_
    refine PJ.retThen ?_
    refine retV Tryz.results4 rfl (.tail _ (.tail _ (.head _))) ?_
    rfl
  · try simp only [decide_eq_true_eq, decide_eq_false_iff_not, Bool.not_eq_true', Bool.not_eq_false'] at hc1
    refine rv rfl rfl rfl (RV.re (v' := .agg (exC (⟨f, ca, cs, cc⟩ : Ex))) (ldRAw_r Tryz.isAgg41 Tryz.sizeOf41 rfl (.head _) hb5 hm5 trivial rfl) (rfl)) ?_
    refine bslR Tryz.underlying43 Tryz.sizeOf41 Tryz.zeroValue41 rfl rfl rfl rfl rfl rfl rfl ?_
    intro b14 w14 hb14 ha14 ho14 hm14 hz14
    simp only [Above] at ha14
    try simp only [Off, book, List.cons_append, List.nil_append, List.set_cons_zero, List.set_cons_succ, ne_eq] at ho14
    refine rv rfl rfl rfl (mv_r rfl) ?_
    refine call Tryz.call13 rfl rfl rfl (fun W hS => r46_FewExports (⟨f, ca, cs, cc⟩ : Ex) ls b14 a cp W (hS.old (.head _) hb14 hm14 trivial)) ?_
    refine rv rfl rfl rfl (notB_r rfl) ?_
    refine rv rfl rfl rfl (pkF_r rfl rfl) ?_
    refine OJ.done ?_
    refine PJ.next ?_
    refine CJ.cond rfl (fun hc2 => ?_) (fun hc2 => ?_)
    · try simp only [decide_eq_true_eq, decide_eq_false_iff_not, Bool.not_eq_true', Bool.not_eq_false'] at hc2
      refine CJ.seq ?_
      refine CJ.region ?_
      refine rv rfl rfl rfl (asg_r rfl) ?_
      refine OJ.done ?_
      refine PJ.next ?_
      refine CJ.ret ?_
      refine PJ.retThen ?_
      refine retV Tryz.results4 rfl (.tail _ (.tail _ (.tail _ (.head _)))) ?_
      rfl
    · try simp only [decide_eq_true_eq, decide_eq_false_iff_not, Bool.not_eq_true', Bool.not_eq_false'] at hc2
      refine CJ.skip ?_
      refine PJ.next ?_
      refine CJ.seq ?_
      have hf := fewB_po (p := p) (by assumption)
      have hfe : fexB cs ls = true := by assumption
      simp only [fexB, Bool.and_eq_true, decide_eq_true_eq] at hfe
      refine CJ.less (E' := [(0, _), (1, _), (2, _), (3, _), (5, _), (6, _), (7, _), (8, _), (9, _), (10, _), (11, _), (12, _), (13, _), (14, _), (15, _), (16, _), (17, _), (18, _)]) ⟨rfl, rfl, rfl, rfl, rfl, rfl, rfl, rfl, rfl, rfl, rfl, rfl, rfl, rfl, rfl, rfl, rfl, rfl, trivial⟩ ?_
      refine CJ.drwD 7 [.det [] _, .det [] _, .det [] _, .det [0, 1, 2] _, .det [] _, .det [] _, .det [] _] (by kernel_rfl) (xc (fun vals => X.val rfl rfl (RV.re (v' := .agg (poC p)) (ldRAw_r Tryz.isAgg24 Tryz.sizeOf24 rfl (.tail _ (.tail _ (.head _))) hb3 hm3 trivial rfl) (rfl)) (fun _ _ => rfl)) (xc (fun vals => X.val rfl rfl (mv_r rfl) (fun _ _ => rfl)) (xc (fun vals => X.val rfl rfl (RV.re (v' := .agg (exC (⟨f, ca, cs, cc⟩ : Ex))) (ldRAw_r Tryz.isAgg41 Tryz.sizeOf41 rfl (.tail _ (.head _)) hb5 hm5 trivial rfl) (rfl)) (fun _ _ => rfl)) (xc (fun vals => X.callV Tryz.call14 rfl rfl (fun W hS _ => policy_Export hZ p hf ls (by omega) f cs (by omega) N a cp ca cc W (Nat.le_trans hN (hS.links _ (.tail _ (.tail _ (.tail _ (.head _))))).size) (hp.up (Nat.le_refl _) (hS.same (.tail _ (.tail _ (.tail _ (.head _)))) hN (fun _ _ h => h) (by first | exact True.intro | (simp only [Over, List.set_cons_zero, List.set_cons_succ, List.eraseIdx_cons_zero, List.eraseIdx_cons_succ, and_true]; omega)))) (hsl.up (Nat.le_refl _) (hS.same (.tail _ (.tail _ (.tail _ (.head _)))) hN (fun _ _ h => h) (by first | exact True.intro | (simp only [Over, List.set_cons_zero, List.set_cons_succ, List.eraseIdx_cons_zero, List.eraseIdx_cons_succ, and_true]; omega)))) (hcs.up (Nat.le_refl _) (hS.same (.tail _ (.tail _ (.tail _ (.head _)))) hN (fun _ _ h => h) (by first | exact True.intro | (simp only [Over, List.set_cons_zero, List.set_cons_succ, List.eraseIdx_cons_zero, List.eraseIdx_cons_succ, and_true]; omega)))) (hg.old hS (by simp) (fun _ _ h => h) (by first | exact True.intro | (simp only [Over, List.set_cons_zero, List.set_cons_succ, List.eraseIdx_cons_zero, List.eraseIdx_cons_succ, and_true]; omega))) hg2) (fun _ => rfl)) (xc (fun vals => X.val rfl rfl (RV.re (v' := .agg (poC p)) (ldRAw_r Tryz.isAgg24 Tryz.sizeOf24 rfl (.tail _ (.tail _ (.head _))) hb3 hm3 trivial rfl) (rfl)) (fun _ _ => rfl)) (xc (fun vals => X.val rfl rfl (mv_r rfl) (fun _ _ => rfl)) (xc (fun vals => X.val rfl rfl (RV.re (v' := .agg (exC (⟨f, ca, cs, cc⟩ : Ex))) (ldRAw_r Tryz.isAgg41 Tryz.sizeOf41 rfl (.tail _ (.head _)) hb5 hm5 trivial rfl) (rfl)) (fun _ _ => rfl)) (xn)))))))) (by kernel_rfl) (by kernel_rfl) (by kernel_rfl) (fun vals => ?_)
      refine call Tryz.call15 rfl rfl rfl (fun W hS => r46_Export hZ p hf ls (by omega) f cs (by omega) N a cp ca cc W (Nat.le_trans hN (hS.links _ (.tail _ (.tail _ (.tail _ (.head _))))).size) (hp.up (Nat.le_refl _) (hS.same (.tail _ (.tail _ (.tail _ (.head _)))) hN (fun _ _ h => h) (by first | exact True.intro | (simp only [Over, List.set_cons_zero, List.set_cons_succ, List.eraseIdx_cons_zero, List.eraseIdx_cons_succ, and_true]; omega)))) (hsl.up (Nat.le_refl _) (hS.same (.tail _ (.tail _ (.tail _ (.head _)))) hN (fun _ _ h => h) (by first | exact True.intro | (simp only [Over, List.set_cons_zero, List.set_cons_succ, List.eraseIdx_cons_zero, List.eraseIdx_cons_succ, and_true]; omega)))) (hcs.up (Nat.le_refl _) (hS.same (.tail _ (.tail _ (.tail _ (.head _)))) hN (fun _ _ h => h) (by first | exact True.intro | (simp only [Over, List.set_cons_zero, List.set_cons_succ, List.eraseIdx_cons_zero, List.eraseIdx_cons_succ, and_true]; omega))))) ?_
      refine rv rfl rfl rfl (RV.re (v' := .bool true) (eqlI_r rfl rfl) (congrArg Value.bool (decide_eq_true rfl))) ?_
      refine rv rfl rfl rfl (asg_r rfl) ?_
      refine OJ.done ?_
      refine PJ.next ?_
      refine CJ.ret ?_
      refine retV Tryz.results4 rfl (.tail _ (.tail _ (.tail _ (.head _)))) ?_
      rfl
end Px
