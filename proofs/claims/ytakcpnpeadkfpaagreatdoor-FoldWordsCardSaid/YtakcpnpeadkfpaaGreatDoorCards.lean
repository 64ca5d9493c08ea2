/-
  DERIVED. GIVEN WITH THE SEED: THE CARDS: each row of YtakcpnpeadkfpaaGreatDoorRows.lean that lists a variable, with what it lists TIED to the program's text (the seventh form; the later family's looks); each row that meets fmt, with fmt's text TOLD by the authors' own Lean function (tested against real Go, not proved from fmt's source: count such statements apart). THE CARD IS WHAT COUNTS. Prove the row's statement (the work); the ties are given (YtakcpnpeadkfpaaGreatDoorTie.lean); close each card by the builder's one call (the guide's Derived/Test/ToyasCard.lean, 'card_holds'). Laid BY PROGRAM, IN A SANDBOX (cutbox-door.mjs). By AI agents, Wed Nov 11 2026. No macro, syntax, notation, axiom, sorry.
-/
import Derived.Test.YtakcpnpeadkfpaaGreatDoorRows
import GoSem.ClaimSeven
namespace Go.Proofs.YtakcpnpeadkfpaaGreatDoor
namespace Rows

/-- THE TIED CARD OF 'solderlaw13.FoldOperators'. -/
def foldOperatorsCard : Claim7 := { stood := { row := foldOperatorsRow, standIns := [], harness := (true, "5621ee221913425f8bf0f08cd2f8481266d9e54698e5e2ffd5f529f61e0eeb6f"), looks := true }, kinds := [], alts := [], laidByText := true, laidKinds := [.data, .data, .widerDeep, .widerDeep, .data, .data, .data, .data, .data, .data, .sentinel, .sentinel, .pinned, .pinned, .pinned], laidTests := true, laidLooks := .later }
def FoldOperatorsCardSaid : Prop := Claim7.holds Tryz.pinned (.plain (OpenSpec.ofChange foldOperatorsSpec)) foldOperatorsCard

/-- THE TIED CARD OF 'solderlaw13.FoldWords'. -/
def foldWordsCard : Claim7 := { stood := { row := foldWordsRow, standIns := [], harness := (true, "5621ee221913425f8bf0f08cd2f8481266d9e54698e5e2ffd5f529f61e0eeb6f"), looks := true }, kinds := [], alts := [], laidByText := true, laidKinds := [.data, .data, .widerDeep, .widerDeep, .data, .data, .data, .data, .data, .data, .sentinel, .sentinel, .pinned, .pinned, .pinned], laidTests := true, laidLooks := .later }
def FoldWordsCardSaid : Prop := Claim7.holds Tryz.pinned (.plain (OpenSpec.ofChange foldWordsSpec)) foldWordsCard

/-- THE TIED CARD OF 'solderlaw13.FoldEdges'. -/
def foldEdgesCard : Claim7 := { stood := { row := foldEdgesRow, standIns := [], harness := (true, "5621ee221913425f8bf0f08cd2f8481266d9e54698e5e2ffd5f529f61e0eeb6f"), looks := true }, kinds := [], alts := [], laidByText := true, laidKinds := [.data, .data, .widerDeep, .widerDeep, .data, .data, .data, .data, .data, .data, .sentinel, .sentinel, .pinned, .pinned, .pinned], laidTests := true, laidLooks := .later }
def FoldEdgesCardSaid : Prop := Claim7.holds Tryz.pinned (.plain (OpenSpec.ofChange foldEdgesSpec)) foldEdgesCard

/-- THE SECOND FORM's CARD OF 'solderlaw13.FoldOperators'. -/
def foldOperatorsUptoCard : Claim7 := { stood := { row := foldOperatorsUptoRow, standIns := [], harness := (true, "5621ee221913425f8bf0f08cd2f8481266d9e54698e5e2ffd5f529f61e0eeb6f"), looks := true }, kinds := [], alts := [], laidByText := true, laidKinds := [.data, .data, .widerDeep, .widerDeep, .data, .data, .data, .data, .data, .data, .sentinel, .sentinel, .pinned, .pinned, .pinned], laidTests := true, laidLooks := .later }
def FoldOperatorsUptoCardSaid : Prop := Claim7.holds Tryz.pinned (.plain (OpenSpec.upto foldOperatorsSpec)) foldOperatorsUptoCard

/-- THE SECOND FORM's CARD OF 'solderlaw13.FoldWords'. -/
def foldWordsUptoCard : Claim7 := { stood := { row := foldWordsUptoRow, standIns := [], harness := (true, "5621ee221913425f8bf0f08cd2f8481266d9e54698e5e2ffd5f529f61e0eeb6f"), looks := true }, kinds := [], alts := [], laidByText := true, laidKinds := [.data, .data, .widerDeep, .widerDeep, .data, .data, .data, .data, .data, .data, .sentinel, .sentinel, .pinned, .pinned, .pinned], laidTests := true, laidLooks := .later }
def FoldWordsUptoCardSaid : Prop := Claim7.holds Tryz.pinned (.plain (OpenSpec.upto foldWordsSpec)) foldWordsUptoCard

/-- THE SECOND FORM's CARD OF 'solderlaw13.FoldEdges'. -/
def foldEdgesUptoCard : Claim7 := { stood := { row := foldEdgesUptoRow, standIns := [], harness := (true, "5621ee221913425f8bf0f08cd2f8481266d9e54698e5e2ffd5f529f61e0eeb6f"), looks := true }, kinds := [], alts := [], laidByText := true, laidKinds := [.data, .data, .widerDeep, .widerDeep, .data, .data, .data, .data, .data, .data, .sentinel, .sentinel, .pinned, .pinned, .pinned], laidTests := true, laidLooks := .later }
def FoldEdgesUptoCardSaid : Prop := Claim7.holds Tryz.pinned (.plain (OpenSpec.upto foldEdgesSpec)) foldEdgesUptoCard
end Rows
end Go.Proofs.YtakcpnpeadkfpaaGreatDoor
