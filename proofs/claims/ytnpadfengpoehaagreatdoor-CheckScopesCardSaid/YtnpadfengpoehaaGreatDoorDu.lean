/- CheckScopes: only the remainder of the first argument matters; a run at one. -/
import Derived.Test.YtnpadfengpoehaaGreatDoorGu
set_option linter.unusedVariables false
set_option linter.unusedSimpArgs false
set_option linter.unusedSectionVars false
namespace Go.Proofs.YtnpadfengpoehaaGreatDoor.Sx
open Go Go.Proofs.YtnpadfengpoehaaGreatDoor.Ev
instance rho0D : Rho := rhoV 0 ⟨0, 0, 0⟩ rfl
noncomputable section
def oD (m : Int) (a : Nat) (b : Bool) : Bool := isTrue (S4_10 (SF tabA 999) 999 (Int.ofNat a) b (gH m))
def rem12 (n : Int) : Nat := (wrapF .u64 n).toNat % 12
theorem key12 (n : Int) : wrapF .i64 (Int.tmod (wrapF .u64 n) (Int.ofNat 12)) = Int.ofNat (rem12 n) := by
  have h0 : 0 ≤ wrapF .u64 n := by
    rw [wrapF_eq]; unfold IntKind.wrap; simp [IntKind.signed, IntKind.bits]; omega
  obtain ⟨k, hk⟩ := Int.eq_ofNat_of_zero_le h0
  unfold rem12
  rw [hk]
  have e : Int.tmod (k : Int) (Int.ofNat 12) = Int.ofNat (k % 12) := rfl
  rw [e]
  have hlt : k % 12 < 12 := Nat.mod_lt _ (by omega)
  show (bif Nat.ble (k % 12) 9223372036854775807 then Int.ofNat (k % 12) else _) = _
  rw [show Nat.ble (k % 12) 9223372036854775807 = true from by rw [Nat.ble_eq]; omega]
  rfl
theorem rem12_nat (n : Nat) (h : n < 12) : rem12 (.ofNat n) = n := by
  unfold rem12
  have : wrapF .u64 (.ofNat n) = .ofNat n := by
    show (bif Nat.ble n 18446744073709551615 then Int.ofNat n else _) = _
    rw [show Nat.ble n 18446744073709551615 = true from by rw [Nat.ble_eq]; omega]
    rfl
  rw [this]; exact Nat.mod_eq_of_lt h
theorem rem12_lt (n : Int) : rem12 n < 12 := Nat.mod_lt _ (by omega)
theorem modD (D : CallD) (m : Nat) (n : Int) (b : Bool) (h : HP) : S4_10 D m (.ofNat (rem12 n)) b h = S4_10 D m n b h := by
  unfold S4_10; simp only [key12, rem12_nat _ (rem12_lt n)]
theorem enterD (m n : Int) (b : Bool) : SF tabA 1000 4 [.int .i64 n, .bool b] (gH m) .no = S4_10 (SF tabA 999) 999 n b (gH m) := by kernel_rfl
end
end Go.Proofs.YtnpadfengpoehaaGreatDoor.Sx
