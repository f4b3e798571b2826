/-
  DERIVED. GIVEN WITH THE SEED: THE CARDS: each row of YtodpaegknpbomaaGreatDoorRows.lean that lists a variable, with what it lists TIED to the program's text (the seventh form; the later family's looks); each row that meets fmt, with fmt's text TOLD by the authors' own Lean function (tested against real Go, not proved from fmt's source: count such statements apart). THE CARD IS WHAT COUNTS. Prove the row's statement (the work); the ties are given (YtodpaegknpbomaaGreatDoorTie.lean); close each card by the builder's one call (the guide's Derived/Test/ToyasCard.lean, 'card_holds'). Laid BY PROGRAM, IN A SANDBOX (cutbox-door.mjs). By AI agents, Wed Nov 11 2026. No macro, syntax, notation, axiom, sorry.
-/
import Derived.Test.YtodpaegknpbomaaGreatDoorRows
import GoSem.ClaimSeven
namespace Go.Proofs.YtodpaegknpbomaaGreatDoor
namespace Rows

/-- THE TIED CARD OF 'chartroomlaw44.KnowledgeSound'. -/
def knowledgeSoundCard : Claim7 := { stood := { row := knowledgeSoundRow, standIns := [], harness := (true, "e976cb11bf5c15adaa4afef83c00b7096a042ff3632e50b2fa3f7915be4b4966"), looks := true }, kinds := [], alts := [], laidByText := true, laidKinds := [.data, .data, .sentinel, .widerDeep, .data, .sentinel, .sentinel], laidTests := true, laidLooks := .later }
def KnowledgeSoundCardSaid : Prop := Claim7.holds Tryz.pinned (.plain (OpenSpec.ofChange knowledgeSoundSpec)) knowledgeSoundCard

/-- THE TIED CARD OF 'chartroomlaw44.KnowledgeClosed'. -/
def knowledgeClosedCard : Claim7 := { stood := { row := knowledgeClosedRow, standIns := [], harness := (true, "e976cb11bf5c15adaa4afef83c00b7096a042ff3632e50b2fa3f7915be4b4966"), looks := true }, kinds := [], alts := [], laidByText := true, laidKinds := [.data, .data, .sentinel, .widerDeep, .data, .sentinel, .sentinel], laidTests := true, laidLooks := .later }
def KnowledgeClosedCardSaid : Prop := Claim7.holds Tryz.pinned (.plain (OpenSpec.ofChange knowledgeClosedSpec)) knowledgeClosedCard

/-- THE TIED CARD OF 'chartroomlaw44.KnowledgeMore'. -/
def knowledgeMoreCard : Claim7 := { stood := { row := knowledgeMoreRow, standIns := [], harness := (true, "e976cb11bf5c15adaa4afef83c00b7096a042ff3632e50b2fa3f7915be4b4966"), looks := true }, kinds := [], alts := [], laidByText := true, laidKinds := [.data, .data, .sentinel, .widerDeep, .data, .sentinel, .sentinel], laidTests := true, laidLooks := .later }
def KnowledgeMoreCardSaid : Prop := Claim7.holds Tryz.pinned (.plain (OpenSpec.ofChange knowledgeMoreSpec)) knowledgeMoreCard

/-- THE TIED CARD OF 'chartroomlaw44.KnowledgeTogether'. -/
def knowledgeTogetherCard : Claim7 := { stood := { row := knowledgeTogetherRow, standIns := [], harness := (true, "e976cb11bf5c15adaa4afef83c00b7096a042ff3632e50b2fa3f7915be4b4966"), looks := true }, kinds := [], alts := [], laidByText := true, laidKinds := [.data, .data, .sentinel, .widerDeep, .data, .sentinel, .sentinel], laidTests := true, laidLooks := .later }
def KnowledgeTogetherCardSaid : Prop := Claim7.holds Tryz.pinned (.plain (OpenSpec.ofChange knowledgeTogetherSpec)) knowledgeTogetherCard

/-- THE SECOND FORM's CARD OF 'chartroomlaw44.KnowledgeSound'. -/
def knowledgeSoundUptoCard : Claim7 := { stood := { row := knowledgeSoundUptoRow, standIns := [], harness := (true, "e976cb11bf5c15adaa4afef83c00b7096a042ff3632e50b2fa3f7915be4b4966"), looks := true }, kinds := [], alts := [], laidByText := true, laidKinds := [.data, .data, .sentinel, .widerDeep, .data, .sentinel, .sentinel], laidTests := true, laidLooks := .later }
def KnowledgeSoundUptoCardSaid : Prop := Claim7.holds Tryz.pinned (.plain (OpenSpec.upto knowledgeSoundSpec)) knowledgeSoundUptoCard

/-- THE SECOND FORM's CARD OF 'chartroomlaw44.KnowledgeClosed'. -/
def knowledgeClosedUptoCard : Claim7 := { stood := { row := knowledgeClosedUptoRow, standIns := [], harness := (true, "e976cb11bf5c15adaa4afef83c00b7096a042ff3632e50b2fa3f7915be4b4966"), looks := true }, kinds := [], alts := [], laidByText := true, laidKinds := [.data, .data, .sentinel, .widerDeep, .data, .sentinel, .sentinel], laidTests := true, laidLooks := .later }
def KnowledgeClosedUptoCardSaid : Prop := Claim7.holds Tryz.pinned (.plain (OpenSpec.upto knowledgeClosedSpec)) knowledgeClosedUptoCard

/-- THE SECOND FORM's CARD OF 'chartroomlaw44.KnowledgeMore'. -/
def knowledgeMoreUptoCard : Claim7 := { stood := { row := knowledgeMoreUptoRow, standIns := [], harness := (true, "e976cb11bf5c15adaa4afef83c00b7096a042ff3632e50b2fa3f7915be4b4966"), looks := true }, kinds := [], alts := [], laidByText := true, laidKinds := [.data, .data, .sentinel, .widerDeep, .data, .sentinel, .sentinel], laidTests := true, laidLooks := .later }
def KnowledgeMoreUptoCardSaid : Prop := Claim7.holds Tryz.pinned (.plain (OpenSpec.upto knowledgeMoreSpec)) knowledgeMoreUptoCard

/-- THE SECOND FORM's CARD OF 'chartroomlaw44.KnowledgeTogether'. -/
def knowledgeTogetherUptoCard : Claim7 := { stood := { row := knowledgeTogetherUptoRow, standIns := [], harness := (true, "e976cb11bf5c15adaa4afef83c00b7096a042ff3632e50b2fa3f7915be4b4966"), looks := true }, kinds := [], alts := [], laidByText := true, laidKinds := [.data, .data, .sentinel, .widerDeep, .data, .sentinel, .sentinel], laidTests := true, laidLooks := .later }
def KnowledgeTogetherUptoCardSaid : Prop := Claim7.holds Tryz.pinned (.plain (OpenSpec.upto knowledgeTogetherSpec)) knowledgeTogetherUptoCard
end Rows
end Go.Proofs.YtodpaegknpbomaaGreatDoor
