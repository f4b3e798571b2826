/- The tied card of PolicyExact holds: for every input the law returns true and the input reads as it did. No condition beyond those that each theorem states. -/
import Derived.Test.YtjmmhdkjjmlnlaaGreatDoorRe
import Derived.Test.YtjmmhdkjjmlnlaaGreatDoorRf
set_option linter.unusedSimpArgs false
set_option linter.unusedVariables false
set_option linter.unusedSectionVars false
namespace Go.Proofs.YtjmmhdkjjmlnlaaGreatDoor
open Go Go.RowKit
theorem card_stand : ∀ (j : Nat) t, Tryz.f6.params[j]? = some t → Tryz.pinned.checked.prog.wantsStandIn t = false := by
  intro j t ht
  rw [Tryz.params6] at ht
  match j, ht with
  | 0, ht => obtain rfl : 24 = t := by simpa using ht
             exact card_w24
  | 1, ht => obtain rfl : 38 = t := by simpa using ht
             exact card_w38
  | 2, ht => obtain rfl : 41 = t := by simpa using ht
             exact card_w41
  | j + 3, ht => simp at ht
theorem policyExact_card : Rows.PolicyExactCardSaid :=
  Claim7.holds_tied_plain_at .later [] [.data, .data, .widerDeep, .sentinel, .sentinel] true (true, "664efc23f7f8d02f716f24a331e441cd61250a040e7899043e6afc1490270e61") true
    policyExact_holds (fun _ h => by cases h) card_wf (fun _ h => by cases h) policyExact_row_tie rfl ⟨rfl, rfl⟩ card_main rfl
    (fun f fn hf hfn => by
      obtain rfl : f = 6 := Option.some.inj (card_named.symm.trans hf) |>.symm
      obtain rfl : fn = Tryz.f6 := (Option.some.inj (Tryz.func6.symm.trans hfn)).symm
      exact ⟨card_looks, card_stand⟩)
    card_goes
#print axioms policyExact_card
end Go.Proofs.YtjmmhdkjjmlnlaaGreatDoor
