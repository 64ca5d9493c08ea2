/- ParseDeep: only the remainder of the first argument matters; a run at one. -/
import Derived.Test.YtomglhellgmbkaaGreatDoorGu
set_option linter.unusedVariables false
set_option linter.unusedSimpArgs false
set_option linter.unusedSectionVars false
namespace Go.Proofs.YtomglhellgmbkaaGreatDoor.Sx
open Go Go.Proofs.YtomglhellgmbkaaGreatDoor.Ev
instance rho0D : Rho := rhoG 0 rfl
noncomputable section
def and2D (q p : Bool) : Bool := Bool.rec false p q
theorem and2D_eq (q p : Bool) (h : and2D q p = true) : q = true ∧ p = true := by
  cases q with
  | false => exact absurd h (by show ¬ false = true; simp)
  | true => exact ⟨rfl, h⟩
def oD (m : Int) (a : Nat) (b : Bool) : Bool := isTrue (S4_6 (SF tabA 999) 999 (Int.ofNat a) b (h0G m))
def rem50 (n : Int) : Nat := (wrapF .u64 n).toNat % 50
theorem key50 (n : Int) : wrapF .i64 (Int.tmod (wrapF .u64 n) (Int.ofNat 50)) = Int.ofNat (rem50 n) := by
  have h0 : 0 ≤ wrapF .u64 n := by
    rw [wrapF_eq]; unfold IntKind.wrap; simp [IntKind.signed, IntKind.bits]; omega
  obtain ⟨k, hk⟩ := Int.eq_ofNat_of_zero_le h0
  unfold rem50
  rw [hk]
  have e : Int.tmod (k : Int) (Int.ofNat 50) = Int.ofNat (k % 50) := rfl
  rw [e]
  have hlt : k % 50 < 50 := Nat.mod_lt _ (by omega)
  show (bif Nat.ble (k % 50) 9223372036854775807 then Int.ofNat (k % 50) else _) = _
  rw [show Nat.ble (k % 50) 9223372036854775807 = true from by rw [Nat.ble_eq]; omega]
  rfl
theorem rem50_nat (n : Nat) (h : n < 50) : rem50 (.ofNat n) = n := by
  unfold rem50
  have : wrapF .u64 (.ofNat n) = .ofNat n := by
    show (bif Nat.ble n 18446744073709551615 then Int.ofNat n else _) = _
    rw [show Nat.ble n 18446744073709551615 = true from by rw [Nat.ble_eq]; omega]
    rfl
  rw [this]; exact Nat.mod_eq_of_lt h
theorem rem50_lt (n : Int) : rem50 n < 50 := Nat.mod_lt _ (by omega)
theorem modD (D : CallD) (m : Nat) (n : Int) (b : Bool) (h : HP) : S4_6 D m (.ofNat (rem50 n)) b h = S4_6 D m n b h := by
  unfold S4_6; simp only [key50, rem50_nat _ (rem50_lt n)]
theorem enterD (m n : Int) (b : Bool) : SF tabA 1000 4 [.int .i64 n, .bool b] (h0G m) .no = S4_6 (SF tabA 999) 999 n b (h0G m) := by kernel_rfl
end
end Go.Proofs.YtomglhellgmbkaaGreatDoor.Sx
