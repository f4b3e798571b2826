/- The tied card of LinksMakeSpec holds: for every input the law returns true and the input reads as it did. No condition beyond those that each theorem states. -/
import Derived.Test.YtcfkhjpgdpeimaaGreatDoorRe
import Derived.Test.YtcfkhjpgdpeimaaGreatDoorRf
set_option linter.unusedSimpArgs false
set_option linter.unusedVariables false
namespace Go.Proofs.YtcfkhjpgdpeimaaGreatDoor
open Go Go.RowKit
theorem card_stand : ∀ (j : Nat) t, Tryz.f3.params[j]? = some t → Tryz.pinned.checked.prog.wantsStandIn t = false := by
  intro j t ht
  rw [Tryz.params3] at ht
  match j, ht with
  | 0, ht => obtain rfl : 27 = t := by simpa using ht
             exact card_w27
  | 1, ht => obtain rfl : 30 = t := by simpa using ht
             exact card_w30
  | 2, ht => obtain rfl : 3 = t := by simpa using ht
             exact card_w3
  | 3, ht => obtain rfl : 3 = t := by simpa using ht
             exact card_w3
  | 4, ht => obtain rfl : 3 = t := by simpa using ht
             exact card_w3
  | j + 5, ht => simp at ht
theorem linksMakeSpec_card : Rows.LinksMakeSpecCardSaid :=
  Claim7.holds_tied_plain_at .later [] [.data, .data, .sentinel] true (true, "a7e5937041b28687e43a838da9575605bc0c89a0412c721e431dedc48a0cecae") true
    linksMakeSpec_holds (fun _ h => by cases h) card_wf (fun _ h => by cases h) linksMakeSpec_row_tie rfl ⟨rfl, rfl⟩ card_main rfl
    (fun f fn hf hfn => by
      obtain rfl : f = 3 := Option.some.inj (card_named.symm.trans hf) |>.symm
      obtain rfl : fn = Tryz.f3 := (Option.some.inj (Tryz.func3.symm.trans hfn)).symm
      exact ⟨card_looks, card_stand⟩)
    card_goes
#print axioms linksMakeSpec_card
end Go.Proofs.YtcfkhjpgdpeimaaGreatDoor
