/-
  DERIVED. GIVEN WITH THE SEED: THE CARDS: each row of YtbfdhoggchedjaaGreatDoorRows.lean that lists a variable, with what it lists TIED to the program's text (the seventh form; the later family's looks); each row that meets fmt, with fmt's text TOLD by the authors' own Lean function (tested against real Go, not proved from fmt's source: count such statements apart). THE CARD IS WHAT COUNTS. Prove the row's statement (the work); the ties are given (YtbfdhoggchedjaaGreatDoorTie.lean); close each card by the builder's one call (the guide's Derived/Test/ToyasCard.lean, 'card_holds'). Laid BY PROGRAM, IN A SANDBOX (cutbox-door.mjs). By AI agents, Wed Nov 11 2026. No macro, syntax, notation, axiom, sorry.
-/
import Derived.Test.YtbfdhoggchedjaaGreatDoorRows
import GoSem.ClaimSeven
namespace Go.Proofs.YtbfdhoggchedjaaGreatDoor
namespace Rows

/-- THE TIED CARD OF 'solderlaw02.RealDoes'. -/
def realDoesCard : Claim7 := { stood := { row := realDoesRow, standIns := [], harness := (true, "536d162e5bae54687803fa429bf981b11e807c06e0ebb81840b4a8c835d17054"), looks := true }, kinds := [], alts := [], laidByText := true, laidKinds := [.data, .data, .widerDeep, .widerDeep, .data, .data, .data, .data, .data, .data, .sentinel, .sentinel, .pinned, .pinned, .pinned], laidTests := true, laidLooks := .later }
def RealDoesCardSaid : Prop := Claim7.holds Tryz.pinned (.plain (OpenSpec.ofChange realDoesSpec)) realDoesCard

/-- THE TIED CARD OF 'solderlaw02.RealEdges'. -/
def realEdgesCard : Claim7 := { stood := { row := realEdgesRow, standIns := [], harness := (true, "536d162e5bae54687803fa429bf981b11e807c06e0ebb81840b4a8c835d17054"), looks := true }, kinds := [], alts := [], laidByText := true, laidKinds := [.data, .data, .widerDeep, .widerDeep, .data, .data, .data, .data, .data, .data, .sentinel, .sentinel, .pinned, .pinned, .pinned], laidTests := true, laidLooks := .later }
def RealEdgesCardSaid : Prop := Claim7.holds Tryz.pinned (.plain (OpenSpec.ofChange realEdgesSpec)) realEdgesCard

/-- THE TIED CARD OF 'solderlaw02.RealOrder'. -/
def realOrderCard : Claim7 := { stood := { row := realOrderRow, standIns := [], harness := (true, "536d162e5bae54687803fa429bf981b11e807c06e0ebb81840b4a8c835d17054"), looks := true }, kinds := [], alts := [], laidByText := true, laidKinds := [.data, .data, .widerDeep, .widerDeep, .data, .data, .data, .data, .data, .data, .sentinel, .sentinel, .pinned, .pinned, .pinned], laidTests := true, laidLooks := .later }
def RealOrderCardSaid : Prop := Claim7.holds Tryz.pinned (.plain (OpenSpec.ofChange realOrderSpec)) realOrderCard

/-- THE TIED CARD OF 'solderlaw02.RealSums'. -/
def realSumsCard : Claim7 := { stood := { row := realSumsRow, standIns := [], harness := (true, "536d162e5bae54687803fa429bf981b11e807c06e0ebb81840b4a8c835d17054"), looks := true }, kinds := [], alts := [], laidByText := true, laidKinds := [.data, .data, .widerDeep, .widerDeep, .data, .data, .data, .data, .data, .data, .sentinel, .sentinel, .pinned, .pinned, .pinned], laidTests := true, laidLooks := .later }
def RealSumsCardSaid : Prop := Claim7.holds Tryz.pinned (.plain (OpenSpec.ofChange realSumsSpec)) realSumsCard

/-- THE TIED CARD OF 'solderlaw02.RealTurns'. -/
def realTurnsCard : Claim7 := { stood := { row := realTurnsRow, standIns := [], harness := (true, "536d162e5bae54687803fa429bf981b11e807c06e0ebb81840b4a8c835d17054"), looks := true }, kinds := [], alts := [], laidByText := true, laidKinds := [.data, .data, .widerDeep, .widerDeep, .data, .data, .data, .data, .data, .data, .sentinel, .sentinel, .pinned, .pinned, .pinned], laidTests := true, laidLooks := .later }
def RealTurnsCardSaid : Prop := Claim7.holds Tryz.pinned (.plain (OpenSpec.ofChange realTurnsSpec)) realTurnsCard

/-- THE TIED CARD OF 'solderlaw02.RealTexts'. -/
def realTextsCard : Claim7 := { stood := { row := realTextsRow, standIns := [], harness := (true, "536d162e5bae54687803fa429bf981b11e807c06e0ebb81840b4a8c835d17054"), looks := true }, kinds := [], alts := [], laidByText := true, laidKinds := [.data, .data, .widerDeep, .widerDeep, .data, .data, .data, .data, .data, .data, .sentinel, .sentinel, .pinned, .pinned, .pinned], laidTests := true, laidLooks := .later }
def RealTextsCardSaid : Prop := Claim7.holds Tryz.pinned (.plain (OpenSpec.ofChange realTextsSpec)) realTextsCard

/-- THE TIED CARD OF 'solderlaw02.RealBack'. -/
def realBackCard : Claim7 := { stood := { row := realBackRow, standIns := [], harness := (true, "536d162e5bae54687803fa429bf981b11e807c06e0ebb81840b4a8c835d17054"), looks := true }, kinds := [], alts := [], laidByText := true, laidKinds := [.data, .data, .widerDeep, .widerDeep, .data, .data, .data, .data, .data, .data, .sentinel, .sentinel, .pinned, .pinned, .pinned], laidTests := true, laidLooks := .later }
def RealBackCardSaid : Prop := Claim7.holds Tryz.pinned (.plain (OpenSpec.ofChange realBackSpec)) realBackCard

/-- THE SECOND FORM's CARD OF 'solderlaw02.RealDoes'. -/
def realDoesUptoCard : Claim7 := { stood := { row := realDoesUptoRow, standIns := [], harness := (true, "536d162e5bae54687803fa429bf981b11e807c06e0ebb81840b4a8c835d17054"), looks := true }, kinds := [], alts := [], laidByText := true, laidKinds := [.data, .data, .widerDeep, .widerDeep, .data, .data, .data, .data, .data, .data, .sentinel, .sentinel, .pinned, .pinned, .pinned], laidTests := true, laidLooks := .later }
def RealDoesUptoCardSaid : Prop := Claim7.holds Tryz.pinned (.plain (OpenSpec.upto realDoesSpec)) realDoesUptoCard

/-- THE SECOND FORM's CARD OF 'solderlaw02.RealEdges'. -/
def realEdgesUptoCard : Claim7 := { stood := { row := realEdgesUptoRow, standIns := [], harness := (true, "536d162e5bae54687803fa429bf981b11e807c06e0ebb81840b4a8c835d17054"), looks := true }, kinds := [], alts := [], laidByText := true, laidKinds := [.data, .data, .widerDeep, .widerDeep, .data, .data, .data, .data, .data, .data, .sentinel, .sentinel, .pinned, .pinned, .pinned], laidTests := true, laidLooks := .later }
def RealEdgesUptoCardSaid : Prop := Claim7.holds Tryz.pinned (.plain (OpenSpec.upto realEdgesSpec)) realEdgesUptoCard

/-- THE SECOND FORM's CARD OF 'solderlaw02.RealOrder'. -/
def realOrderUptoCard : Claim7 := { stood := { row := realOrderUptoRow, standIns := [], harness := (true, "536d162e5bae54687803fa429bf981b11e807c06e0ebb81840b4a8c835d17054"), looks := true }, kinds := [], alts := [], laidByText := true, laidKinds := [.data, .data, .widerDeep, .widerDeep, .data, .data, .data, .data, .data, .data, .sentinel, .sentinel, .pinned, .pinned, .pinned], laidTests := true, laidLooks := .later }
def RealOrderUptoCardSaid : Prop := Claim7.holds Tryz.pinned (.plain (OpenSpec.upto realOrderSpec)) realOrderUptoCard

/-- THE SECOND FORM's CARD OF 'solderlaw02.RealSums'. -/
def realSumsUptoCard : Claim7 := { stood := { row := realSumsUptoRow, standIns := [], harness := (true, "536d162e5bae54687803fa429bf981b11e807c06e0ebb81840b4a8c835d17054"), looks := true }, kinds := [], alts := [], laidByText := true, laidKinds := [.data, .data, .widerDeep, .widerDeep, .data, .data, .data, .data, .data, .data, .sentinel, .sentinel, .pinned, .pinned, .pinned], laidTests := true, laidLooks := .later }
def RealSumsUptoCardSaid : Prop := Claim7.holds Tryz.pinned (.plain (OpenSpec.upto realSumsSpec)) realSumsUptoCard

/-- THE SECOND FORM's CARD OF 'solderlaw02.RealTurns'. -/
def realTurnsUptoCard : Claim7 := { stood := { row := realTurnsUptoRow, standIns := [], harness := (true, "536d162e5bae54687803fa429bf981b11e807c06e0ebb81840b4a8c835d17054"), looks := true }, kinds := [], alts := [], laidByText := true, laidKinds := [.data, .data, .widerDeep, .widerDeep, .data, .data, .data, .data, .data, .data, .sentinel, .sentinel, .pinned, .pinned, .pinned], laidTests := true, laidLooks := .later }
def RealTurnsUptoCardSaid : Prop := Claim7.holds Tryz.pinned (.plain (OpenSpec.upto realTurnsSpec)) realTurnsUptoCard

/-- THE SECOND FORM's CARD OF 'solderlaw02.RealTexts'. -/
def realTextsUptoCard : Claim7 := { stood := { row := realTextsUptoRow, standIns := [], harness := (true, "536d162e5bae54687803fa429bf981b11e807c06e0ebb81840b4a8c835d17054"), looks := true }, kinds := [], alts := [], laidByText := true, laidKinds := [.data, .data, .widerDeep, .widerDeep, .data, .data, .data, .data, .data, .data, .sentinel, .sentinel, .pinned, .pinned, .pinned], laidTests := true, laidLooks := .later }
def RealTextsUptoCardSaid : Prop := Claim7.holds Tryz.pinned (.plain (OpenSpec.upto realTextsSpec)) realTextsUptoCard

/-- THE SECOND FORM's CARD OF 'solderlaw02.RealBack'. -/
def realBackUptoCard : Claim7 := { stood := { row := realBackUptoRow, standIns := [], harness := (true, "536d162e5bae54687803fa429bf981b11e807c06e0ebb81840b4a8c835d17054"), looks := true }, kinds := [], alts := [], laidByText := true, laidKinds := [.data, .data, .widerDeep, .widerDeep, .data, .data, .data, .data, .data, .data, .sentinel, .sentinel, .pinned, .pinned, .pinned], laidTests := true, laidLooks := .later }
def RealBackUptoCardSaid : Prop := Claim7.holds Tryz.pinned (.plain (OpenSpec.upto realBackSpec)) realBackUptoCard
end Rows
end Go.Proofs.YtbfdhoggchedjaaGreatDoor
