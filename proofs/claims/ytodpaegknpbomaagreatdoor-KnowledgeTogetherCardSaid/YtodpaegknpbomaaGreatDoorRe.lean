/- The row of KnowledgeTogether holds. No condition beyond those stated. -/
import Derived.Test.YtodpaegknpbomaaGreatDoorRc
import Derived.Test.YtodpaegknpbomaaGreatDoorRd
set_option linter.unusedSimpArgs false
set_option linter.unusedVariables false
set_option linter.unusedSectionVars false
set_option linter.unnecessarySimpa false
namespace Go.Proofs.YtodpaegknpbomaaGreatDoor
open Go Go.ChangeShapes Go.WideShapes Go.ChangeAt Go.RowKit Px
theorem named3 : Tryz.pinned.checked.prog.funcNamed Rows.knowledgeTogetherRow.func = some 6 := by kernel_rfl
theorem knowledgeTogether_holds : Rows.KnowledgeTogetherSaid :=
 OpenClaim.holds_of_wide 6 Tryz.f6 rfl rfl rfl rfl rfl rfl rfl ⟨rfl, rfl, rfl, rfl, rfl⟩ rfl rfl rfl rfl rfl named3 Tryz.func6 closed
  (of_decide_eq_true (by kernel_rfl)) (by unfold Func.isWrapper; first | (rw [if_pos (by decide +kernel)]; kernel_rfl) | (rw [if_neg (by decide +kernel)]; exact ⟨rfl, rfl⟩))
  (fun os started H enc _ => lifted os started H enc)
end Go.Proofs.YtodpaegknpbomaaGreatDoor
