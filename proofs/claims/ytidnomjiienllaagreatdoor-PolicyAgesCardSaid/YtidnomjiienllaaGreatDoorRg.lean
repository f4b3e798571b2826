/- The tied card of PolicyAges holds: for every input the law returns true and the input reads as it did. No condition beyond those that each theorem states. -/
import Derived.Test.YtidnomjiienllaaGreatDoorRe
import Derived.Test.YtidnomjiienllaaGreatDoorRf
set_option linter.unusedSimpArgs false
set_option linter.unusedVariables false
set_option linter.unusedSectionVars false
namespace Go.Proofs.YtidnomjiienllaaGreatDoor
open Go Go.RowKit
theorem card_stand : ∀ (j : Nat) t, Tryz.f3.params[j]? = some t → Tryz.pinned.checked.prog.wantsStandIn t = false := by
 intro j t ht
 rw [Tryz.params3] at ht
 match j, ht with
 | 0, ht => (obtain rfl : 31 = t := by simpa using ht); exact card_w31
 | 1, ht => (obtain rfl : 34 = t := by simpa using ht); exact card_w34
 | 2, ht => (obtain rfl : 35 = t := by simpa using ht); exact card_w35
 | j + 3, ht => simp at ht
theorem policyAges_card : Rows.PolicyAgesCardSaid :=
 Claim7.holds_tied_plain_at .later [] [.data, .data, .widerDeep, .sentinel, .sentinel] true (true, "7867494782525c9f738ec7c4398f46f4a5a70cce440b0178ab20de2aa5aec3cf") true
  policyAges_holds (fun _ h => by cases h) card_wf (fun _ h => by cases h) policyAges_row_tie rfl ⟨rfl, rfl⟩ card_main rfl
  (fun f fn hf hfn => by
   obtain rfl : f = 3 := Option.some.inj (card_named.symm.trans hf) |>.symm
   obtain rfl : fn = Tryz.f3 := (Option.some.inj (Tryz.func3.symm.trans hfn)).symm
   exact ⟨card_looks, card_stand⟩)
  card_goes
end Go.Proofs.YtidnomjiienllaaGreatDoor
