/- The tied card of LinksAcceptedSpec holds: for every input the law returns true and the input reads as it did. No conditions. -/
import Derived.Test.YtjhfonpoebkgeaaGreatDoorRe
import Derived.Test.YtjhfonpoebkgeaaGreatDoorRf
namespace Go.Proofs.YtjhfonpoebkgeaaGreatDoor
open Go Go.RowKit
theorem card_stand : ∀ (j : Nat) t, Tryz.f3.params[j]? = some t → Tryz.pinned.checked.prog.wantsStandIn t = false := by
 intro j t ht
 rw [Tryz.params3] at ht
 match j, ht with
 | 0, ht => (obtain rfl : 31 = t := (by simpa using ht)); exact card_w31
 | 1, ht => (obtain rfl : 32 = t := (by simpa using ht)); exact card_w32
 | 2, ht => (obtain rfl : 38 = t := (by simpa using ht)); exact card_w38
 | j + 3, ht => simp at ht
theorem linksAcceptedSpec_card : Rows.LinksAcceptedSpecCardSaid :=
 Claim7.holds_tied_plain_at .later [] [.data, .data, .sentinel] true (true, "31b12530373c379b1b3db10b04bcbc43a8d2b47dcc48aaef0e23fe4a2476aa19") true
  linksAcceptedSpec_holds (fun _ h => by cases h) card_wf (fun _ h => by cases h) linksAcceptedSpec_row_tie rfl ⟨rfl, rfl⟩ card_main rfl
  (fun f fn hf hfn => by
   obtain rfl : f = 3 := Option.some.inj (card_named.symm.trans hf) |>.symm
   obtain rfl : fn = Tryz.f3 := (Option.some.inj (Tryz.func3.symm.trans hfn)).symm
   exact ⟨card_looks, card_stand⟩)
  card_goes
end Go.Proofs.YtjhfonpoebkgeaaGreatDoor
