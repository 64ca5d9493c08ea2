/- BindStatics: the table with slices.Sorted and awake as functions with known answers; only the remainder of the argument matters; a run at one. -/
import Derived.Test.YtdeeainihfnbdaaGreatDoorSt
import Derived.Test.YtdeeainihfnbdaaGreatDoorSo
set_option linter.unusedVariables false
set_option linter.unusedSimpArgs false
set_option linter.unusedSectionVars false
namespace Go.Proofs.YtdeeainihfnbdaaGreatDoor.Sx
open Go Go.Proofs.YtdeeainihfnbdaaGreatDoor.Ev
instance rho0B : Rho := Rho.plain (fun _ => 0) (fun _ => Nat.zero_le _) rfl
noncomputable section
def tabO : ST := .node 38 tabS (.node 39 (.pr 39 So.sortP) tabS)
def tabA : ST := .node 7 tabO (.node 8 (.pr 8 yesM.at) tabO)
theorem okO : ST.Ok Tryz.prog tabO := .node _ _ _ okS (.node _ _ _ (.pr _ _ fun w0 => So.pr_sort w0) okS)
theorem awake_ran : gc [] (SF tabO 900 8 [] ⟨.h, .leaf⟩ .no) = some (.bool true, []) := by kernel_rfl
theorem okA : ST.Ok Tryz.prog tabA := .node _ _ _ okO (.node _ _ _ (.pr _ _ fun w0 => pr_yes (n := 900) (by kernel_rfl) okO ⟨_, Tryz.func8, by kernel_rfl, by decide +kernel⟩ awake_ran w0) okO)
def oB (a : Nat) : Bool := isTrue (S4_4 (SF tabA 999) 999 (Int.ofNat a) ⟨.h, .leaf⟩)
def rem7 (n : Int) : Nat := (wrapF .u64 n).toNat % 7
theorem key7 (n : Int) : wrapF .i64 (Int.tmod (wrapF .u64 n) (Int.ofNat 7)) = Int.ofNat (rem7 n) := by
  have h0 : 0 ≤ wrapF .u64 n := by
    rw [wrapF_eq]; unfold IntKind.wrap; simp [IntKind.signed, IntKind.bits]; omega
  obtain ⟨k, hk⟩ := Int.eq_ofNat_of_zero_le h0
  unfold rem7
  rw [hk]
  have e : Int.tmod (k : Int) (Int.ofNat 7) = Int.ofNat (k % 7) := rfl
  rw [e]
  have hlt : k % 7 < 7 := Nat.mod_lt _ (by omega)
  show (bif Nat.ble (k % 7) 9223372036854775807 then Int.ofNat (k % 7) else _) = _
  rw [show Nat.ble (k % 7) 9223372036854775807 = true from by rw [Nat.ble_eq]; omega]
  rfl
theorem rem7_nat (n : Nat) (h : n < 7) : rem7 (.ofNat n) = n := by
  unfold rem7
  have : wrapF .u64 (.ofNat n) = .ofNat n := by
    show (bif Nat.ble n 18446744073709551615 then Int.ofNat n else _) = _
    rw [show Nat.ble n 18446744073709551615 = true from by rw [Nat.ble_eq]; omega]
    rfl
  rw [this]; exact Nat.mod_eq_of_lt h
theorem rem7_lt (n : Int) : rem7 n < 7 := Nat.mod_lt _ (by omega)
theorem modB (D : CallD) (m : Nat) (n : Int) (h : HP) : S4_4 D m (.ofNat (rem7 n)) h = S4_4 D m n h := by
  unfold S4_4; simp only [key7, rem7_nat _ (rem7_lt n)]
theorem enterB (n : Int) : SF tabA 1000 4 [.int .i64 n] ⟨.h, .leaf⟩ .no = S4_4 (SF tabA 999) 999 n ⟨.h, .leaf⟩ := by kernel_rfl
end
end Go.Proofs.YtdeeainihfnbdaaGreatDoor.Sx
