/- The closed facts of the card of LinksAcceptedSpec. No conditions. -/
import Derived.Test.YtjhfonpoebkgeaaGreatDoorRows
import Derived.Test.YtjhfonpoebkgeaaGreatDoorTie
import Derived.Test.YtjhfonpoebkgeaaGreatDoorCards
import Derived.SevenTiedAt
import Derived.ProofKit
namespace Go.Proofs.YtjhfonpoebkgeaaGreatDoor
open Go Go.RowKit
theorem card_named : Tryz.pinned.checked.prog.funcNamed Rows.linksAcceptedSpecRow.func = some 3 := by kernel_rfl
theorem goes_one {P : Program} (h : P.funcs.any Func.goes = false) (f : Nat) : P.goes f = false := by
 have h2 : ∀ g : Nat, (P.funcs[g]?).any Func.goes = false := fun g => by
  cases hg : P.funcs[g]? with
  | none => rfl
  | some fn =>
   obtain ⟨h3, h4⟩ := Array.getElem?_eq_some_iff.1 hg
   have := Array.any_eq_false.1 h g h3
   rw [h4] at this
   simpa using this
 unfold Program.goes
 rw [h, Bool.and_false, Bool.or_false]
 simp [h2]
theorem no_goes : Tryz.pinned.checked.prog.funcs.any Func.goes = false := by kernel_rfl
theorem card_goes : false = Rows.linksAcceptedSpecRow.goesBy Tryz.pinned.checked.prog := by
 unfold OpenClaim.goesBy Program.goesAt Program.goesFrom
 rw [card_named]
 simp only [Option.any_some, goes_one no_goes, Bool.false_or]
 first | rfl | (split <;> simp [goes_one no_goes])
theorem card_wf : Rows.linksAcceptedSpecRow.wfByText (OpenSpec.ofChange Rows.linksAcceptedSpecSpec) = true := by kernel_rfl
theorem card_main : Tryz.pinned.checked.prog.mainIs = some (true, "31b12530373c379b1b3db10b04bcbc43a8d2b47dcc48aaef0e23fe4a2476aa19".toList) := by kernel_rfl
theorem card_looks : true = Tryz.pinned.checked.prog.looks [] := by kernel_rfl
theorem card_w31 : Tryz.pinned.checked.prog.wantsStandIn 31 = false := by kernel_rfl
theorem card_w32 : Tryz.pinned.checked.prog.wantsStandIn 32 = false := by kernel_rfl
theorem card_w38 : Tryz.pinned.checked.prog.wantsStandIn 38 = false := by kernel_rfl
end Go.Proofs.YtjhfonpoebkgeaaGreatDoor
