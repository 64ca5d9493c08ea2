/-
  DERIVED. GIVEN WITH THE SEED: THE CARDS: each row of YtdeeainihfnbdaaGreatDoorRows.lean that lists a variable, with what it lists TIED to the program's text (the seventh form; the later family's looks); each row that meets fmt, with fmt's text TOLD by the authors' own Lean function (tested against real Go, not proved from fmt's source: count such statements apart). THE CARD IS WHAT COUNTS. Prove the row's statement (the work); the ties are given (YtdeeainihfnbdaaGreatDoorTie.lean); close each card by the builder's one call (the guide's Derived/Test/ToyasCard.lean, 'card_holds'). Laid BY PROGRAM, IN A SANDBOX (cutbox-door.mjs). By AI agents, Wed Nov 11 2026. No macro, syntax, notation, axiom, sorry.
-/
import Derived.Test.YtdeeainihfnbdaaGreatDoorRows
import GoSem.ClaimSeven
namespace Go.Proofs.YtdeeainihfnbdaaGreatDoor
namespace Rows

/-- THE TIED CARD OF 'solderlaw14.BindOrder'. -/
def bindOrderCard : Claim7 := { stood := { row := bindOrderRow, standIns := [], harness := (true, "12a5753cec8075e008ec9645ba5e725c912e5b42079390f19d707b78149b5853"), looks := false }, kinds := [], alts := [], laidByText := true, laidKinds := [.data, .data, .data], laidTests := true, laidLooks := .later }
def BindOrderCardSaid : Prop := Claim7.holds Tryz.pinned (.plain (OpenSpec.ofChange bindOrderSpec)) bindOrderCard

/-- THE TIED CARD OF 'solderlaw14.BindStatics'. -/
def bindStaticsCard : Claim7 := { stood := { row := bindStaticsRow, standIns := [], harness := (true, "12a5753cec8075e008ec9645ba5e725c912e5b42079390f19d707b78149b5853"), looks := false }, kinds := [], alts := [], laidByText := true, laidKinds := [.data, .data, .data], laidTests := true, laidLooks := .later }
def BindStaticsCardSaid : Prop := Claim7.holds Tryz.pinned (.plain (OpenSpec.ofChange bindStaticsSpec)) bindStaticsCard

/-- THE TIED CARD OF 'solderlaw14.BindFaces'. -/
def bindFacesCard : Claim7 := { stood := { row := bindFacesRow, standIns := [], harness := (true, "12a5753cec8075e008ec9645ba5e725c912e5b42079390f19d707b78149b5853"), looks := false }, kinds := [], alts := [], laidByText := true, laidKinds := [.data, .data, .data], laidTests := true, laidLooks := .later }
def BindFacesCardSaid : Prop := Claim7.holds Tryz.pinned (.plain (OpenSpec.ofChange bindFacesSpec)) bindFacesCard

/-- THE TIED CARD OF 'solderlaw14.BindMeets'. -/
def bindMeetsCard : Claim7 := { stood := { row := bindMeetsRow, standIns := [], harness := (true, "12a5753cec8075e008ec9645ba5e725c912e5b42079390f19d707b78149b5853"), looks := false }, kinds := [], alts := [], laidByText := true, laidKinds := [.data, .data, .data], laidTests := true, laidLooks := .later }
def BindMeetsCardSaid : Prop := Claim7.holds Tryz.pinned (.plain (OpenSpec.ofChange bindMeetsSpec)) bindMeetsCard

/-- THE SECOND FORM's CARD OF 'solderlaw14.BindOrder'. -/
def bindOrderUptoCard : Claim7 := { stood := { row := bindOrderUptoRow, standIns := [], harness := (true, "12a5753cec8075e008ec9645ba5e725c912e5b42079390f19d707b78149b5853"), looks := false }, kinds := [], alts := [], laidByText := true, laidKinds := [.data, .data, .data], laidTests := true, laidLooks := .later }
def BindOrderUptoCardSaid : Prop := Claim7.holds Tryz.pinned (.plain (OpenSpec.upto bindOrderSpec)) bindOrderUptoCard

/-- THE SECOND FORM's CARD OF 'solderlaw14.BindStatics'. -/
def bindStaticsUptoCard : Claim7 := { stood := { row := bindStaticsUptoRow, standIns := [], harness := (true, "12a5753cec8075e008ec9645ba5e725c912e5b42079390f19d707b78149b5853"), looks := false }, kinds := [], alts := [], laidByText := true, laidKinds := [.data, .data, .data], laidTests := true, laidLooks := .later }
def BindStaticsUptoCardSaid : Prop := Claim7.holds Tryz.pinned (.plain (OpenSpec.upto bindStaticsSpec)) bindStaticsUptoCard

/-- THE SECOND FORM's CARD OF 'solderlaw14.BindFaces'. -/
def bindFacesUptoCard : Claim7 := { stood := { row := bindFacesUptoRow, standIns := [], harness := (true, "12a5753cec8075e008ec9645ba5e725c912e5b42079390f19d707b78149b5853"), looks := false }, kinds := [], alts := [], laidByText := true, laidKinds := [.data, .data, .data], laidTests := true, laidLooks := .later }
def BindFacesUptoCardSaid : Prop := Claim7.holds Tryz.pinned (.plain (OpenSpec.upto bindFacesSpec)) bindFacesUptoCard

/-- THE SECOND FORM's CARD OF 'solderlaw14.BindMeets'. -/
def bindMeetsUptoCard : Claim7 := { stood := { row := bindMeetsUptoRow, standIns := [], harness := (true, "12a5753cec8075e008ec9645ba5e725c912e5b42079390f19d707b78149b5853"), looks := false }, kinds := [], alts := [], laidByText := true, laidKinds := [.data, .data, .data], laidTests := true, laidLooks := .later }
def BindMeetsUptoCardSaid : Prop := Claim7.holds Tryz.pinned (.plain (OpenSpec.upto bindMeetsSpec)) bindMeetsUptoCard
end Rows
end Go.Proofs.YtdeeainihfnbdaaGreatDoor
