/-
  DERIVED. GIVEN WITH THE SEED: THE CARDS: each row of YtjnpoeilfdbaaaaGreatDoorRows.lean that lists a variable, with what it lists TIED to the program's text (the seventh form; the later family's looks); each row that meets fmt, with fmt's text TOLD by the authors' own Lean function (tested against real Go, not proved from fmt's source: count such statements apart). THE CARD IS WHAT COUNTS. Prove the row's statement (the work); the ties are given (YtjnpoeilfdbaaaaGreatDoorTie.lean); close each card by the builder's one call (the guide's Derived/Test/ToyasCard.lean, 'card_holds'). Laid BY PROGRAM, IN A SANDBOX (cutbox-door.mjs). By AI agents, Wed Nov 11 2026. No macro, syntax, notation, axiom, sorry.
-/
import Derived.Test.YtjnpoeilfdbaaaaGreatDoorRows
import GoSem.ClaimSeven
namespace Go.Proofs.YtjnpoeilfdbaaaaGreatDoor
namespace Rows

/-- THE TIED CARD OF 'clearwaylaw26.LookupVertices'. -/
def lookupVerticesCard : Claim7 := { stood := { row := lookupVerticesRow, standIns := [], harness := (true, "8dc56d72ab75e1b985d919be32d2ddd5d03ae5d80294a4fc1755be8df9122345"), looks := true }, kinds := [], alts := [], laidByText := true, laidKinds := [.data, .data, .data], laidTests := true, laidLooks := .later }
def LookupVerticesCardSaid : Prop := Claim7.holds Tryz.pinned (.plain (OpenSpec.ofChange lookupVerticesSpec)) lookupVerticesCard

/-- THE TIED CARD OF 'clearwaylaw26.LookupBetween'. -/
def lookupBetweenCard : Claim7 := { stood := { row := lookupBetweenRow, standIns := [], harness := (true, "8dc56d72ab75e1b985d919be32d2ddd5d03ae5d80294a4fc1755be8df9122345"), looks := true }, kinds := [], alts := [], laidByText := true, laidKinds := [.data, .data, .data], laidTests := true, laidLooks := .later }
def LookupBetweenCardSaid : Prop := Claim7.holds Tryz.pinned (.plain (OpenSpec.ofChange lookupBetweenSpec)) lookupBetweenCard

/-- THE SECOND FORM's CARD OF 'clearwaylaw26.LookupVertices'. -/
def lookupVerticesUptoCard : Claim7 := { stood := { row := lookupVerticesUptoRow, standIns := [], harness := (true, "8dc56d72ab75e1b985d919be32d2ddd5d03ae5d80294a4fc1755be8df9122345"), looks := true }, kinds := [], alts := [], laidByText := true, laidKinds := [.data, .data, .data], laidTests := true, laidLooks := .later }
def LookupVerticesUptoCardSaid : Prop := Claim7.holds Tryz.pinned (.plain (OpenSpec.upto lookupVerticesSpec)) lookupVerticesUptoCard

/-- THE SECOND FORM's CARD OF 'clearwaylaw26.LookupBetween'. -/
def lookupBetweenUptoCard : Claim7 := { stood := { row := lookupBetweenUptoRow, standIns := [], harness := (true, "8dc56d72ab75e1b985d919be32d2ddd5d03ae5d80294a4fc1755be8df9122345"), looks := true }, kinds := [], alts := [], laidByText := true, laidKinds := [.data, .data, .data], laidTests := true, laidLooks := .later }
def LookupBetweenUptoCardSaid : Prop := Claim7.holds Tryz.pinned (.plain (OpenSpec.upto lookupBetweenSpec)) lookupBetweenUptoCard
end Rows
end Go.Proofs.YtjnpoeilfdbaaaaGreatDoor
