/- The tied card of PolicyTwo holds: for every input the law returns true and the input reads as it did. No condition beyond those that each theorem states. -/
import Derived.Test.YtjmmhdkjjmlnlaaGreatDoorRe
import Derived.Test.YtjmmhdkjjmlnlaaGreatDoorRf
set_option linter.unusedSimpArgs false
set_option linter.unusedVariables false
set_option linter.unusedSectionVars false
namespace Go.Proofs.YtjmmhdkjjmlnlaaGreatDoor
open Go Go.RowKit
theorem card_stand : ∀ (j : Nat) t, Tryz.f5.params[j]? = some t → Tryz.pinned.checked.prog.wantsStandIn t = false := by
  intro j t ht
  rw [Tryz.params5] at ht
  match j, ht with
  | 0, ht => obtain rfl : 26 = t := by simpa using ht
             exact card_w26
  | 1, ht => obtain rfl : 3 = t := by simpa using ht
             exact card_w3
  | 2, ht => obtain rfl : 3 = t := by simpa using ht
             exact card_w3
  | 3, ht => obtain rfl : 4 = t := by simpa using ht
             exact card_w4
  | j + 4, ht => simp at ht
theorem policyTwo_card : Rows.PolicyTwoCardSaid :=
  Claim7.holds_tied_plain_at .later [] [.data, .data, .widerDeep, .sentinel, .sentinel] true (true, "664efc23f7f8d02f716f24a331e441cd61250a040e7899043e6afc1490270e61") true
    policyTwo_holds (fun _ h => by cases h) card_wf (fun _ h => by cases h) policyTwo_row_tie rfl ⟨rfl, rfl⟩ card_main rfl
    (fun f fn hf hfn => by
      obtain rfl : f = 5 := Option.some.inj (card_named.symm.trans hf) |>.symm
      obtain rfl : fn = Tryz.f5 := (Option.some.inj (Tryz.func5.symm.trans hfn)).symm
      exact ⟨card_looks, card_stand⟩)
    card_goes
#print axioms policyTwo_card
end Go.Proofs.YtjmmhdkjjmlnlaaGreatDoor
