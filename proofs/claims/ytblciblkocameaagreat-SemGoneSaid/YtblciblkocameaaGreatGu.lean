/- SemGone: only the remainder of the first argument matters; a run at one. -/
import Derived.Test.YtblciblkocameaaGreatSt
set_option linter.unusedVariables false
set_option linter.unusedSimpArgs false
namespace Go.Proofs.YtblciblkocameaaGreat.Sx
open Go Go.Proofs.YtblciblkocameaaGreat.Ev
noncomputable section
def and2G (q p : Bool) : Bool := Bool.rec false p q
theorem and2G_eq (q p : Bool) (h : and2G q p = true) : q = true ∧ p = true := by
  cases q with
  | false => exact absurd h (by show ¬ false = true; simp)
  | true => exact ⟨rfl, h⟩
def o8 (a : Nat) (b : Bool) : Bool := isTrue (S8_1 (SF tabS 999) 999 (Int.ofNat a) b ⟨.h, .leaf⟩)
def rem30 (n : Int) : Nat := (wrapF .u64 n).toNat % 30
theorem key30 (n : Int) : wrapF .i64 (Int.tmod (wrapF .u64 n) (Int.ofNat 30)) = Int.ofNat (rem30 n) := by
  have h0 : 0 ≤ wrapF .u64 n := by
    rw [wrapF_eq]; unfold IntKind.wrap; simp [IntKind.signed, IntKind.bits]; omega
  obtain ⟨k, hk⟩ := Int.eq_ofNat_of_zero_le h0
  unfold rem30
  rw [hk]
  have e : Int.tmod (k : Int) (Int.ofNat 30) = Int.ofNat (k % 30) := rfl
  rw [e]
  have hlt : k % 30 < 30 := Nat.mod_lt _ (by omega)
  show (bif Nat.ble (k % 30) 9223372036854775807 then Int.ofNat (k % 30) else _) = _
  rw [show Nat.ble (k % 30) 9223372036854775807 = true from by rw [Nat.ble_eq]; omega]
  rfl
theorem rem30_nat (n : Nat) (h : n < 30) : rem30 (.ofNat n) = n := by
  unfold rem30
  have : wrapF .u64 (.ofNat n) = .ofNat n := by
    show (bif Nat.ble n 18446744073709551615 then Int.ofNat n else _) = _
    rw [show Nat.ble n 18446744073709551615 = true from by rw [Nat.ble_eq]; omega]
    rfl
  rw [this]; exact Nat.mod_eq_of_lt h
theorem rem30_lt (n : Int) : rem30 n < 30 := Nat.mod_lt _ (by omega)
theorem mod8 (D : CallD) (m : Nat) (n : Int) (b : Bool) (h : HP) : S8_1 D m (.ofNat (rem30 n)) b h = S8_1 D m n b h := by
  unfold S8_1; simp only [key30, rem30_nat _ (rem30_lt n)]
theorem enter8 (n : Int) (b : Bool) : SF tabS 1000 8 [.int .i64 n, .bool b] ⟨.h, .leaf⟩ .no = S8_1 (SF tabS 999) 999 n b ⟨.h, .leaf⟩ := by kernel_rfl
end
end Go.Proofs.YtblciblkocameaaGreat.Sx
