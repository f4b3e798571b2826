/- The tied card of PolicyExportSpec holds: for every input the law returns true and the input reads as it did. No condition beyond those that each theorem states. -/
import Derived.Test.YtjmmhdkjjmlnlaaGreatDoorRe
import Derived.Test.YtjmmhdkjjmlnlaaGreatDoorRf
set_option linter.unusedSimpArgs false
set_option linter.unusedVariables false
namespace Go.Proofs.YtjmmhdkjjmlnlaaGreatDoor
open Go Go.RowKit
theorem card_stand : ∀ (j : Nat) t, Tryz.f4.params[j]? = some t → Tryz.pinned.checked.prog.wantsStandIn t = false := by
  intro j t ht
  rw [Tryz.params4] at ht
  match j, ht with
  | 0, ht => obtain rfl : 24 = t := by simpa using ht
             exact card_w24
  | 1, ht => obtain rfl : 38 = t := by simpa using ht
             exact card_w38
  | 2, ht => obtain rfl : 41 = t := by simpa using ht
             exact card_w41
  | j + 3, ht => simp at ht
theorem policyExportSpec_card : Rows.PolicyExportSpecCardSaid :=
  Claim7.holds_tied_plain_at .later [] [.data, .data, .widerDeep, .sentinel, .sentinel] true (true, "664efc23f7f8d02f716f24a331e441cd61250a040e7899043e6afc1490270e61") true
    policyExportSpec_holds (fun _ h => by cases h) card_wf (fun _ h => by cases h) policyExportSpec_row_tie rfl ⟨rfl, rfl⟩ card_main rfl
    (fun f fn hf hfn => by
      obtain rfl : f = 4 := Option.some.inj (card_named.symm.trans hf) |>.symm
      obtain rfl : fn = Tryz.f4 := (Option.some.inj (Tryz.func4.symm.trans hfn)).symm
      exact ⟨card_looks, card_stand⟩)
    card_goes
#print axioms policyExportSpec_card
end Go.Proofs.YtjmmhdkjjmlnlaaGreatDoor
