/- The row of KnowledgeClosed holds. No conditions. -/
import Derived.Test.YtodpaegknpbomaaGreatDoorRc
import Derived.Test.YtodpaegknpbomaaGreatDoorRd
namespace Go.Proofs.YtodpaegknpbomaaGreatDoor
open Go Go.ChangeShapes Go.WideShapes Go.ChangeAt Go.RowKit Px
theorem named3 : Tryz.pinned.checked.prog.funcNamed Rows.knowledgeClosedRow.func = some 4 := by kernel_rfl
theorem knowledgeClosed_holds : Rows.KnowledgeClosedSaid :=
 OpenClaim.holds_of_wide 4 Tryz.f4 rfl rfl rfl rfl rfl rfl rfl ⟨rfl, rfl, rfl, rfl, rfl⟩ rfl rfl rfl rfl rfl named3 Tryz.func4 closed
  (of_decide_eq_true (by kernel_rfl)) (by unfold Func.isWrapper; first | (rw [if_pos (by decide +kernel)]; kernel_rfl) | (rw [if_neg (by decide +kernel)]; exact ⟨rfl, rfl⟩))
  (fun os started H enc _ => lifted os started H enc)
end Go.Proofs.YtodpaegknpbomaaGreatDoor
