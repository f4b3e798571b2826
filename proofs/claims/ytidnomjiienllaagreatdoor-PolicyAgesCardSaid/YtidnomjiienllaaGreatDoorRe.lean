/- The row of PolicyAges holds. No condition beyond those that each theorem states. -/
import Derived.Test.YtidnomjiienllaaGreatDoorRc
import Derived.Test.YtidnomjiienllaaGreatDoorRd
set_option linter.unusedSimpArgs false
set_option linter.unusedVariables false
set_option linter.unusedSectionVars false
namespace Go.Proofs.YtidnomjiienllaaGreatDoor
open Go Go.ChangeShapes Go.WideShapes Go.ChangeAt Go.RowKit Px
theorem named3 : Tryz.pinned.checked.prog.funcNamed Rows.policyAgesRow.func = some 3 := by kernel_rfl
theorem policyAges_holds : Rows.PolicyAgesSaid :=
 OpenClaim.holds_of_wide 3 Tryz.f3 rfl rfl rfl rfl rfl rfl rfl ⟨rfl, rfl, rfl, rfl, rfl⟩ rfl rfl rfl rfl rfl named3 Tryz.func3 closed
  (of_decide_eq_true (by kernel_rfl)) (by unfold Func.isWrapper; first | (rw [if_pos (by decide +kernel)]; kernel_rfl) | (rw [if_neg (by decide +kernel)]; exact ⟨rfl, rfl⟩))
  (fun os started H enc _ => lifted os started H enc)
end Go.Proofs.YtidnomjiienllaaGreatDoor
