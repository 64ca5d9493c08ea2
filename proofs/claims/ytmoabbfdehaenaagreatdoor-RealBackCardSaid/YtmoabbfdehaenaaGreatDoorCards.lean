/-
  DERIVED. GIVEN WITH THE SEED: THE CARDS: each row of YtmoabbfdehaenaaGreatDoorRows.lean that lists a variable, with what it lists TIED to the program's text (the seventh form; the later family's looks); each row that meets fmt, with fmt's text TOLD by the authors' own Lean function (tested against real Go, not proved from fmt's source: count such statements apart). THE CARD IS WHAT COUNTS. Prove the row's statement (the work); the ties are given (YtmoabbfdehaenaaGreatDoorTie.lean); close each card by the builder's one call (the guide's Derived/Test/ToyasCard.lean, 'card_holds'). Laid BY PROGRAM, IN A SANDBOX (cutbox-door.mjs). By AI agents, Wed Nov 11 2026. No macro, syntax, notation, axiom, sorry.
-/
import Derived.Test.YtmoabbfdehaenaaGreatDoorRows
import GoSem.ClaimSeven
namespace Go.Proofs.YtmoabbfdehaenaaGreatDoor
namespace Rows

/-- THE TIED CARD OF 'solderlaw02.RealTurns'. -/
def realTurnsCard : Claim7 := { stood := { row := realTurnsRow, standIns := [], harness := (true, "defb18d870a1b34b6e8e7b910f77e7a586c31ee36423317166a879f69d1fb5f3"), looks := true }, kinds := [], alts := [], laidByText := true, laidKinds := [.data, .data, .widerDeep, .widerDeep, .data, .data, .data, .data, .data, .data, .sentinel, .sentinel, .pinned, .pinned, .pinned], laidTests := true, laidLooks := .later }
def RealTurnsCardSaid : Prop := Claim7.holds Tryz.pinned (.plain (OpenSpec.ofChange realTurnsSpec)) realTurnsCard

/-- THE TIED CARD OF 'solderlaw02.RealBack'. -/
def realBackCard : Claim7 := { stood := { row := realBackRow, standIns := [], harness := (true, "defb18d870a1b34b6e8e7b910f77e7a586c31ee36423317166a879f69d1fb5f3"), looks := true }, kinds := [], alts := [], laidByText := true, laidKinds := [.data, .data, .widerDeep, .widerDeep, .data, .data, .data, .data, .data, .data, .sentinel, .sentinel, .pinned, .pinned, .pinned], laidTests := true, laidLooks := .later }
def RealBackCardSaid : Prop := Claim7.holds Tryz.pinned (.plain (OpenSpec.ofChange realBackSpec)) realBackCard

/-- THE SECOND FORM's CARD OF 'solderlaw02.RealTurns'. -/
def realTurnsUptoCard : Claim7 := { stood := { row := realTurnsUptoRow, standIns := [], harness := (true, "defb18d870a1b34b6e8e7b910f77e7a586c31ee36423317166a879f69d1fb5f3"), looks := true }, kinds := [], alts := [], laidByText := true, laidKinds := [.data, .data, .widerDeep, .widerDeep, .data, .data, .data, .data, .data, .data, .sentinel, .sentinel, .pinned, .pinned, .pinned], laidTests := true, laidLooks := .later }
def RealTurnsUptoCardSaid : Prop := Claim7.holds Tryz.pinned (.plain (OpenSpec.upto realTurnsSpec)) realTurnsUptoCard

/-- THE SECOND FORM's CARD OF 'solderlaw02.RealBack'. -/
def realBackUptoCard : Claim7 := { stood := { row := realBackUptoRow, standIns := [], harness := (true, "defb18d870a1b34b6e8e7b910f77e7a586c31ee36423317166a879f69d1fb5f3"), looks := true }, kinds := [], alts := [], laidByText := true, laidKinds := [.data, .data, .widerDeep, .widerDeep, .data, .data, .data, .data, .data, .data, .sentinel, .sentinel, .pinned, .pinned, .pinned], laidTests := true, laidLooks := .later }
def RealBackUptoCardSaid : Prop := Claim7.holds Tryz.pinned (.plain (OpenSpec.upto realBackSpec)) realBackUptoCard
end Rows
end Go.Proofs.YtmoabbfdehaenaaGreatDoor
