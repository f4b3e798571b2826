/-
  DERIVED. GIVEN WITH THE SEED: THE CARDS: each row of YtjhfonpoebkgeaaGreatDoorRows.lean that lists a variable, with what it lists TIED to the program's text (the seventh form; the later family's looks); each row that meets fmt, with fmt's text TOLD by the authors' own Lean function (tested against real Go, not proved from fmt's source: count such statements apart). THE CARD IS WHAT COUNTS. Prove the row's statement (the work); the ties are given (YtjhfonpoebkgeaaGreatDoorTie.lean); close each card by the builder's one call (the guide's Derived/Test/ToyasCard.lean, 'card_holds'). Laid BY PROGRAM, IN A SANDBOX (cutbox-door.mjs). By AI agents, Wed Nov 11 2026. No macro, syntax, notation, axiom, sorry.
-/
import Derived.Test.YtjhfonpoebkgeaaGreatDoorRows
import GoSem.ClaimSeven
namespace Go.Proofs.YtjhfonpoebkgeaaGreatDoor
namespace Rows

/-- THE TIED CARD OF 'chartroomlaw40.LinksAcceptedSpec'. -/
def linksAcceptedSpecCard : Claim7 := { stood := { row := linksAcceptedSpecRow, standIns := [], harness := (true, "31b12530373c379b1b3db10b04bcbc43a8d2b47dcc48aaef0e23fe4a2476aa19"), looks := true }, kinds := [], alts := [], laidByText := true, laidKinds := [.data, .data, .sentinel], laidTests := true, laidLooks := .later }
def LinksAcceptedSpecCardSaid : Prop := Claim7.holds Tryz.pinned (.plain (OpenSpec.ofChange linksAcceptedSpecSpec)) linksAcceptedSpecCard

/-- THE SECOND FORM's CARD OF 'chartroomlaw40.LinksAcceptedSpec'. -/
def linksAcceptedSpecUptoCard : Claim7 := { stood := { row := linksAcceptedSpecUptoRow, standIns := [], harness := (true, "31b12530373c379b1b3db10b04bcbc43a8d2b47dcc48aaef0e23fe4a2476aa19"), looks := true }, kinds := [], alts := [], laidByText := true, laidKinds := [.data, .data, .sentinel], laidTests := true, laidLooks := .later }
def LinksAcceptedSpecUptoCardSaid : Prop := Claim7.holds Tryz.pinned (.plain (OpenSpec.upto linksAcceptedSpecSpec)) linksAcceptedSpecUptoCard
end Rows
end Go.Proofs.YtjhfonpoebkgeaaGreatDoor
