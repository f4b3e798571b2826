/- The closed facts of the card of LinksMakeSpec. No condition beyond those that each theorem states. -/
import Derived.Test.YtcfkhjpgdpeimaaGreatDoorRows
import Derived.Test.YtcfkhjpgdpeimaaGreatDoorTie
import Derived.Test.YtcfkhjpgdpeimaaGreatDoorCards
import Derived.SevenTiedAt
import Derived.ProofKit
set_option linter.unusedSimpArgs false
set_option linter.unusedVariables false
namespace Go.Proofs.YtcfkhjpgdpeimaaGreatDoor
open Go Go.RowKit
theorem card_goes : false = Rows.linksMakeSpecRow.goesBy Tryz.pinned.checked.prog := by kernel_rfl
theorem card_wf : Rows.linksMakeSpecRow.wfByText (OpenSpec.ofChange Rows.linksMakeSpecSpec) = true := by kernel_rfl
theorem card_main : Tryz.pinned.checked.prog.mainIs = some (true, "a7e5937041b28687e43a838da9575605bc0c89a0412c721e431dedc48a0cecae".toList) := by kernel_rfl
theorem card_looks : true = Tryz.pinned.checked.prog.looks [] := by kernel_rfl
theorem card_named : Tryz.pinned.checked.prog.funcNamed Rows.linksMakeSpecRow.func = some 3 := by kernel_rfl
theorem card_w27 : Tryz.pinned.checked.prog.wantsStandIn 27 = false := by kernel_rfl
theorem card_w30 : Tryz.pinned.checked.prog.wantsStandIn 30 = false := by kernel_rfl
theorem card_w3 : Tryz.pinned.checked.prog.wantsStandIn 3 = false := by kernel_rfl
end Go.Proofs.YtcfkhjpgdpeimaaGreatDoor
