/- The row of LinksAcceptedSpec holds. No conditions. -/
import Derived.Test.YtjhfonpoebkgeaaGreatDoorRc
import Derived.Test.YtjhfonpoebkgeaaGreatDoorRd
namespace Go.Proofs.YtjhfonpoebkgeaaGreatDoor
open Go Go.ChangeShapes Go.WideShapes Go.ChangeAt Go.RowKit Px
theorem named3 : Tryz.pinned.checked.prog.funcNamed Rows.linksAcceptedSpecRow.func = some 3 := by kernel_rfl
theorem linksAcceptedSpec_holds : Rows.LinksAcceptedSpecSaid :=
 OpenClaim.holds_of_wide 3 Tryz.f3 rfl rfl rfl rfl rfl rfl rfl ⟨rfl, rfl, rfl, rfl, rfl⟩ rfl rfl rfl rfl rfl named3 Tryz.func3 closed
  (of_decide_eq_true (by kernel_rfl)) (by unfold Func.isWrapper; first | (rw [if_pos (by decide +kernel)]; kernel_rfl) | (rw [if_neg (by decide +kernel)]; exact ⟨rfl, rfl⟩))
  (fun os started H enc _ => lifted os started H enc)
end Go.Proofs.YtjhfonpoebkgeaaGreatDoor
