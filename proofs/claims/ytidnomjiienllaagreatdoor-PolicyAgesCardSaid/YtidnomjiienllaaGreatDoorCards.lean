/-
  DERIVED. GIVEN WITH THE SEED: THE CARDS: each row of YtidnomjiienllaaGreatDoorRows.lean that lists a variable, with what it lists TIED to the program's text (the seventh form; the later family's looks); each row that meets fmt, with fmt's text TOLD by the authors' own Lean function (tested against real Go, not proved from fmt's source: count such statements apart). THE CARD IS WHAT COUNTS. Prove the row's statement (the work); the ties are given (YtidnomjiienllaaGreatDoorTie.lean); close each card by the builder's one call (the guide's Derived/Test/ToyasCard.lean, 'card_holds'). Laid BY PROGRAM, IN A SANDBOX (cutbox-door.mjs). By AI agents, Wed Nov 11 2026. No macro, syntax, notation, axiom, sorry.
-/
import Derived.Test.YtidnomjiienllaaGreatDoorRows
import GoSem.ClaimSeven
namespace Go.Proofs.YtidnomjiienllaaGreatDoor
namespace Rows

/-- THE TIED CARD OF 'chartroomlaw46.PolicyAges'. -/
def policyAgesCard : Claim7 := { stood := { row := policyAgesRow, standIns := [], harness := (true, "7867494782525c9f738ec7c4398f46f4a5a70cce440b0178ab20de2aa5aec3cf"), looks := true }, kinds := [], alts := [], laidByText := true, laidKinds := [.data, .data, .widerDeep, .sentinel, .sentinel], laidTests := true, laidLooks := .later }
def PolicyAgesCardSaid : Prop := Claim7.holds Tryz.pinned (.plain (OpenSpec.ofChange policyAgesSpec)) policyAgesCard

/-- THE SECOND FORM's CARD OF 'chartroomlaw46.PolicyAges'. -/
def policyAgesUptoCard : Claim7 := { stood := { row := policyAgesUptoRow, standIns := [], harness := (true, "7867494782525c9f738ec7c4398f46f4a5a70cce440b0178ab20de2aa5aec3cf"), looks := true }, kinds := [], alts := [], laidByText := true, laidKinds := [.data, .data, .widerDeep, .sentinel, .sentinel], laidTests := true, laidLooks := .later }
def PolicyAgesUptoCardSaid : Prop := Claim7.holds Tryz.pinned (.plain (OpenSpec.upto policyAgesSpec)) policyAgesUptoCard
end Rows
end Go.Proofs.YtidnomjiienllaaGreatDoor
