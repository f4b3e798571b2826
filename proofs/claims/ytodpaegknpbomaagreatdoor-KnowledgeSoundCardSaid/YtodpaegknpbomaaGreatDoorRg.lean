/- The tied card of KnowledgeSound holds: for every input the law returns true and the input reads as it did. No conditions. -/
import Derived.Test.YtodpaegknpbomaaGreatDoorRe
import Derived.Test.YtodpaegknpbomaaGreatDoorRf
namespace Go.Proofs.YtodpaegknpbomaaGreatDoor
open Go Go.RowKit
theorem card_stand : ∀ (j : Nat) t, Tryz.f3.params[j]? = some t → Tryz.pinned.checked.prog.wantsStandIn t = false := by
 intro j t ht
 rw [Tryz.params3] at ht
 match j, ht with
 | 0, ht => (obtain rfl : 31 = t := (by simpa using ht)); exact card_w31
 | 1, ht => (obtain rfl : 3 = t := (by simpa using ht)); exact card_w3
 | 2, ht => (obtain rfl : 35 = t := (by simpa using ht)); exact card_w35
 | j + 3, ht => simp at ht
theorem knowledgeSound_card : Rows.KnowledgeSoundCardSaid :=
 Claim7.holds_tied_plain_at .later [] [.data, .data, .sentinel, .widerDeep, .data, .sentinel, .sentinel] true (true, "e976cb11bf5c15adaa4afef83c00b7096a042ff3632e50b2fa3f7915be4b4966") true
  knowledgeSound_holds (fun _ h => by cases h) card_wf (fun _ h => by cases h) knowledgeSound_row_tie rfl ⟨rfl, rfl⟩ card_main rfl
  (fun f fn hf hfn => by
   obtain rfl : f = 3 := Option.some.inj (card_named.symm.trans hf) |>.symm
   obtain rfl : fn = Tryz.f3 := (Option.some.inj (Tryz.func3.symm.trans hfn)).symm
   exact ⟨card_looks, card_stand⟩)
  card_goes
end Go.Proofs.YtodpaegknpbomaaGreatDoor
