/-
  DERIVED. GIVEN WITH THE SEED: THE CARDS: each row of YtfijdjigiapnbaaGreatDoorRows.lean that lists a variable, with what it lists TIED to the program's text (the seventh form; the later family's looks); each row that meets fmt, with fmt's text TOLD by the authors' own Lean function (tested against real Go, not proved from fmt's source: count such statements apart). THE CARD IS WHAT COUNTS. Prove the row's statement (the work); the ties are given (YtfijdjigiapnbaaGreatDoorTie.lean); close each card by the builder's one call (the guide's Derived/Test/ToyasCard.lean, 'card_holds'). Laid BY PROGRAM, IN A SANDBOX (cutbox-door.mjs). By AI agents, Wed Nov 11 2026. No macro, syntax, notation, axiom, sorry.
-/
import Derived.Test.YtfijdjigiapnbaaGreatDoorRows
import GoSem.ClaimSeven
namespace Go.Proofs.YtfijdjigiapnbaaGreatDoor
namespace Rows

/-- THE TIED CARD OF 'clearwaylaw25.PackCodes'. -/
def packCodesCard : Claim7 := { stood := { row := packCodesRow, standIns := [], harness := (true, "08a807f8a503a95adf17799ff5edcbc1815a6a4acf55a750bf4901e3c8da0056"), looks := true }, kinds := [], alts := [], laidByText := true, laidKinds := [.data, .data, .data], laidTests := true, laidLooks := .later }
def PackCodesCardSaid : Prop := Claim7.holds Tryz.pinned (.plain (OpenSpec.ofChange packCodesSpec)) packCodesCard

/-- THE TIED CARD OF 'clearwaylaw26.LookupLeast'. -/
def lookupLeastCard : Claim7 := { stood := { row := lookupLeastRow, standIns := [], harness := (true, "08a807f8a503a95adf17799ff5edcbc1815a6a4acf55a750bf4901e3c8da0056"), looks := true }, kinds := [], alts := [], laidByText := true, laidKinds := [.data, .data, .data], laidTests := true, laidLooks := .later }
def LookupLeastCardSaid : Prop := Claim7.holds Tryz.pinned (.plain (OpenSpec.ofChange lookupLeastSpec)) lookupLeastCard

/-- THE TIED CARD OF 'clearwaylaw26.LookupVertices'. -/
def lookupVerticesCard : Claim7 := { stood := { row := lookupVerticesRow, standIns := [], harness := (true, "08a807f8a503a95adf17799ff5edcbc1815a6a4acf55a750bf4901e3c8da0056"), looks := true }, kinds := [], alts := [], laidByText := true, laidKinds := [.data, .data, .data], laidTests := true, laidLooks := .later }
def LookupVerticesCardSaid : Prop := Claim7.holds Tryz.pinned (.plain (OpenSpec.ofChange lookupVerticesSpec)) lookupVerticesCard

/-- THE TIED CARD OF 'clearwaylaw26.LookupBetween'. -/
def lookupBetweenCard : Claim7 := { stood := { row := lookupBetweenRow, standIns := [], harness := (true, "08a807f8a503a95adf17799ff5edcbc1815a6a4acf55a750bf4901e3c8da0056"), looks := true }, kinds := [], alts := [], laidByText := true, laidKinds := [.data, .data, .data], laidTests := true, laidLooks := .later }
def LookupBetweenCardSaid : Prop := Claim7.holds Tryz.pinned (.plain (OpenSpec.ofChange lookupBetweenSpec)) lookupBetweenCard

/-- THE SECOND FORM's CARD OF 'clearwaylaw25.PackCodes'. -/
def packCodesUptoCard : Claim7 := { stood := { row := packCodesUptoRow, standIns := [], harness := (true, "08a807f8a503a95adf17799ff5edcbc1815a6a4acf55a750bf4901e3c8da0056"), looks := true }, kinds := [], alts := [], laidByText := true, laidKinds := [.data, .data, .data], laidTests := true, laidLooks := .later }
def PackCodesUptoCardSaid : Prop := Claim7.holds Tryz.pinned (.plain (OpenSpec.upto packCodesSpec)) packCodesUptoCard

/-- THE SECOND FORM's CARD OF 'clearwaylaw26.LookupLeast'. -/
def lookupLeastUptoCard : Claim7 := { stood := { row := lookupLeastUptoRow, standIns := [], harness := (true, "08a807f8a503a95adf17799ff5edcbc1815a6a4acf55a750bf4901e3c8da0056"), looks := true }, kinds := [], alts := [], laidByText := true, laidKinds := [.data, .data, .data], laidTests := true, laidLooks := .later }
def LookupLeastUptoCardSaid : Prop := Claim7.holds Tryz.pinned (.plain (OpenSpec.upto lookupLeastSpec)) lookupLeastUptoCard

/-- THE SECOND FORM's CARD OF 'clearwaylaw26.LookupVertices'. -/
def lookupVerticesUptoCard : Claim7 := { stood := { row := lookupVerticesUptoRow, standIns := [], harness := (true, "08a807f8a503a95adf17799ff5edcbc1815a6a4acf55a750bf4901e3c8da0056"), looks := true }, kinds := [], alts := [], laidByText := true, laidKinds := [.data, .data, .data], laidTests := true, laidLooks := .later }
def LookupVerticesUptoCardSaid : Prop := Claim7.holds Tryz.pinned (.plain (OpenSpec.upto lookupVerticesSpec)) lookupVerticesUptoCard

/-- THE SECOND FORM's CARD OF 'clearwaylaw26.LookupBetween'. -/
def lookupBetweenUptoCard : Claim7 := { stood := { row := lookupBetweenUptoRow, standIns := [], harness := (true, "08a807f8a503a95adf17799ff5edcbc1815a6a4acf55a750bf4901e3c8da0056"), looks := true }, kinds := [], alts := [], laidByText := true, laidKinds := [.data, .data, .data], laidTests := true, laidLooks := .later }
def LookupBetweenUptoCardSaid : Prop := Claim7.holds Tryz.pinned (.plain (OpenSpec.upto lookupBetweenSpec)) lookupBetweenUptoCard
end Rows
end Go.Proofs.YtfijdjigiapnbaaGreatDoor
