/-
  DERIVED. GIVEN WITH THE SEED: THE CARDS: each row of YtpgobjebhigaoaaGreatDoorRows.lean that lists a variable, with what it lists TIED to the program's text (the seventh form; the later family's looks); each row that meets fmt, with fmt's text TOLD by the authors' own Lean function (tested against real Go, not proved from fmt's source: count such statements apart). THE CARD IS WHAT COUNTS. Prove the row's statement (the work); the ties are given (YtpgobjebhigaoaaGreatDoorTie.lean); close each card by the builder's one call (the guide's Derived/Test/ToyasCard.lean, 'card_holds'). Laid BY PROGRAM, IN A SANDBOX (cutbox-door.mjs). By AI agents, Wed Nov 11 2026. No macro, syntax, notation, axiom, sorry.
-/
import Derived.Test.YtpgobjebhigaoaaGreatDoorRows
import GoSem.ClaimSeven
namespace Go.Proofs.YtpgobjebhigaoaaGreatDoor
namespace Rows

/-- THE TIED CARD OF 'chartroomlaw40.LinksWithin'. -/
def linksWithinCard : Claim7 := { stood := { row := linksWithinRow, standIns := [], harness := (true, "627b091019369045a9d99206be7ee9b8f7dceafa66ce00ca85cfa01be965d548"), looks := true }, kinds := [], alts := [], laidByText := true, laidKinds := [.data, .data, .sentinel], laidTests := true, laidLooks := .later }
def LinksWithinCardSaid : Prop := Claim7.holds Tryz.pinned (.plain (OpenSpec.ofChange linksWithinSpec)) linksWithinCard

/-- THE TIED CARD OF 'chartroomlaw40.LinksParents'. -/
def linksParentsCard : Claim7 := { stood := { row := linksParentsRow, standIns := [], harness := (true, "627b091019369045a9d99206be7ee9b8f7dceafa66ce00ca85cfa01be965d548"), looks := true }, kinds := [], alts := [], laidByText := true, laidKinds := [.data, .data, .sentinel], laidTests := true, laidLooks := .later }
def LinksParentsCardSaid : Prop := Claim7.holds Tryz.pinned (.plain (OpenSpec.ofChange linksParentsSpec)) linksParentsCard

/-- THE TIED CARD OF 'chartroomlaw40.LinksTurns'. -/
def linksTurnsCard : Claim7 := { stood := { row := linksTurnsRow, standIns := [], harness := (true, "627b091019369045a9d99206be7ee9b8f7dceafa66ce00ca85cfa01be965d548"), looks := true }, kinds := [], alts := [], laidByText := true, laidKinds := [.data, .data, .sentinel], laidTests := true, laidLooks := .later }
def LinksTurnsCardSaid : Prop := Claim7.holds Tryz.pinned (.plain (OpenSpec.ofChange linksTurnsSpec)) linksTurnsCard

/-- THE SECOND FORM's CARD OF 'chartroomlaw40.LinksWithin'. -/
def linksWithinUptoCard : Claim7 := { stood := { row := linksWithinUptoRow, standIns := [], harness := (true, "627b091019369045a9d99206be7ee9b8f7dceafa66ce00ca85cfa01be965d548"), looks := true }, kinds := [], alts := [], laidByText := true, laidKinds := [.data, .data, .sentinel], laidTests := true, laidLooks := .later }
def LinksWithinUptoCardSaid : Prop := Claim7.holds Tryz.pinned (.plain (OpenSpec.upto linksWithinSpec)) linksWithinUptoCard

/-- THE SECOND FORM's CARD OF 'chartroomlaw40.LinksParents'. -/
def linksParentsUptoCard : Claim7 := { stood := { row := linksParentsUptoRow, standIns := [], harness := (true, "627b091019369045a9d99206be7ee9b8f7dceafa66ce00ca85cfa01be965d548"), looks := true }, kinds := [], alts := [], laidByText := true, laidKinds := [.data, .data, .sentinel], laidTests := true, laidLooks := .later }
def LinksParentsUptoCardSaid : Prop := Claim7.holds Tryz.pinned (.plain (OpenSpec.upto linksParentsSpec)) linksParentsUptoCard

/-- THE SECOND FORM's CARD OF 'chartroomlaw40.LinksTurns'. -/
def linksTurnsUptoCard : Claim7 := { stood := { row := linksTurnsUptoRow, standIns := [], harness := (true, "627b091019369045a9d99206be7ee9b8f7dceafa66ce00ca85cfa01be965d548"), looks := true }, kinds := [], alts := [], laidByText := true, laidKinds := [.data, .data, .sentinel], laidTests := true, laidLooks := .later }
def LinksTurnsUptoCardSaid : Prop := Claim7.holds Tryz.pinned (.plain (OpenSpec.upto linksTurnsSpec)) linksTurnsUptoCard
end Rows
end Go.Proofs.YtpgobjebhigaoaaGreatDoor
