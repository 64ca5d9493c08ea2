/- FoldWords: plain laws. -/
import Derived.Test.YtakcpnpeadkfpaaGreatDoorGw
set_option linter.unusedVariables false
set_option linter.unusedSimpArgs false
set_option linter.unusedSectionVars false
namespace Go.Proofs.YtakcpnpeadkfpaaGreatDoor.Lw
open Go Go.Proofs.YtakcpnpeadkfpaaGreatDoor.Lg Go.Proofs.YtakcpnpeadkfpaaGreatDoor.Ev Go.Proofs.YtakcpnpeadkfpaaGreatDoor.Sx
theorem xor_law {a : Nat} (ha : a < 4294967296) : wrapF .u32 (Int.ofNat (Nat.xor (dwN 6 a 4294967295) a)) = Int.ofNat 4294967295 := by
  rw [(tilde ha).1]
  have h : Nat.xor (4294967295 - a) a = 4294967295 := by
    show (4294967295 - a) ^^^ a = 4294967295
    rw [← xor_all ha, Nat.xor_comm a, Nat.xor_assoc, Nat.xor_self, Nat.xor_zero]
  rw [h]; rfl
theorem neg_law {a : Nat} (ha : a < 4294967296) : wrapF .u32 (Int.ofNat (dwN 2 0 a) + Int.ofNat a) = Int.ofNat 0 := by
  letI := rhoV 0 ⟨0, 0, 0⟩ rfl
  have h := dw_is (k := 2) (a := 0) (b := a) (by decide) (by omega) ha
  have e : doW 2 0 a = wrapF .u32 (Int.ofNat 0 - Int.ofNat a) := (c2 (a := 0) (by omega) ha).symm.trans (wrQ_eq _ _)
  rw [e, wu32] at h
  rw [wu32]
  have h : ((0 : Int) - (a : Int)) % 4294967296 = ((dwN 2 0 a : Nat) : Int) := h
  show (((dwN 2 0 a : Nat) : Int) + (a : Int)) % 4294967296 = 0
  omega
end Go.Proofs.YtakcpnpeadkfpaaGreatDoor.Lw
