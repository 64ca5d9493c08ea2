/- SemBounds: only the remainders of the arguments matter; a run at two of them; awake as a function with a known answer. -/
import Derived.Test.YtblciblkocameaaGreatSt
set_option linter.unusedVariables false
set_option linter.unusedSimpArgs false
set_option linter.unusedSectionVars false
namespace Go.Proofs.YtblciblkocameaaGreat.Sx
open Go Go.Proofs.YtblciblkocameaaGreat.Ev
instance rho0B : Rho := Rho.plain (fun _ => 0) (fun _ => Nat.zero_le _) rfl
noncomputable section
def and2B (q p : Bool) : Bool := Bool.rec false p q
theorem and2B_eq (q p : Bool) (h : and2B q p = true) : q = true ∧ p = true := by
  cases q with
  | false => exact absurd h (by show ¬ false = true; simp)
  | true => exact ⟨rfl, h⟩
theorem awake_ran : gc [] (SF tabS 900 13 [] ⟨.h, .leaf⟩ .no) = some (.bool true, []) := by kernel_rfl
def tabY : ST := .node 12 tabS (.node 13 (.pr 13 yesM.at) tabS)
theorem okY : ST.Ok Tryz.prog tabY := .node _ _ _ okS (.node _ _ _ (.pr _ _ fun w0 => pr_yes (n := 900) (by kernel_rfl) okS ⟨_, Tryz.func13, by kernel_rfl, by decide +kernel⟩ awake_ran w0) okS)
def o6 (t : ST) (a b : Nat) : Bool := isTrue (S6_0 (SF t 999) 999 (Int.ofNat a) (Int.ofNat b) ⟨.h, .leaf⟩)
def rem20 (n : Int) : Nat := (wrapF .u64 n).toNat % 20
theorem key20 (n : Int) : wrapF .i64 (Int.tmod (wrapF .u64 n) (Int.ofNat 20)) = Int.ofNat (rem20 n) := by
  have h0 : 0 ≤ wrapF .u64 n := by
    rw [wrapF_eq]; unfold IntKind.wrap; simp [IntKind.signed, IntKind.bits]; omega
  obtain ⟨k, hk⟩ := Int.eq_ofNat_of_zero_le h0
  unfold rem20
  rw [hk]
  have e : Int.tmod (k : Int) (Int.ofNat 20) = Int.ofNat (k % 20) := rfl
  rw [e]
  have hlt : k % 20 < 20 := Nat.mod_lt _ (by omega)
  show (bif Nat.ble (k % 20) 9223372036854775807 then Int.ofNat (k % 20) else _) = _
  rw [show Nat.ble (k % 20) 9223372036854775807 = true from by rw [Nat.ble_eq]; omega]
  rfl
theorem rem20_nat (n : Nat) (h : n < 20) : rem20 (.ofNat n) = n := by
  unfold rem20
  have : wrapF .u64 (.ofNat n) = .ofNat n := by
    show (bif Nat.ble n 18446744073709551615 then Int.ofNat n else _) = _
    rw [show Nat.ble n 18446744073709551615 = true from by rw [Nat.ble_eq]; omega]
    rfl
  rw [this]; exact Nat.mod_eq_of_lt h
theorem rem20_lt (n : Int) : rem20 n < 20 := Nat.mod_lt _ (by omega)
def rem60 (n : Int) : Nat := (wrapF .u64 n).toNat % 60
theorem key60 (n : Int) : wrapF .i64 (Int.tmod (wrapF .u64 n) (Int.ofNat 60)) = Int.ofNat (rem60 n) := by
  have h0 : 0 ≤ wrapF .u64 n := by
    rw [wrapF_eq]; unfold IntKind.wrap; simp [IntKind.signed, IntKind.bits]; omega
  obtain ⟨k, hk⟩ := Int.eq_ofNat_of_zero_le h0
  unfold rem60
  rw [hk]
  have e : Int.tmod (k : Int) (Int.ofNat 60) = Int.ofNat (k % 60) := rfl
  rw [e]
  have hlt : k % 60 < 60 := Nat.mod_lt _ (by omega)
  show (bif Nat.ble (k % 60) 9223372036854775807 then Int.ofNat (k % 60) else _) = _
  rw [show Nat.ble (k % 60) 9223372036854775807 = true from by rw [Nat.ble_eq]; omega]
  rfl
theorem rem60_nat (n : Nat) (h : n < 60) : rem60 (.ofNat n) = n := by
  unfold rem60
  have : wrapF .u64 (.ofNat n) = .ofNat n := by
    show (bif Nat.ble n 18446744073709551615 then Int.ofNat n else _) = _
    rw [show Nat.ble n 18446744073709551615 = true from by rw [Nat.ble_eq]; omega]
    rfl
  rw [this]; exact Nat.mod_eq_of_lt h
theorem rem60_lt (n : Int) : rem60 n < 60 := Nat.mod_lt _ (by omega)
theorem mod6 (D : CallD) (m : Nat) (n i : Int) (h : HP) : S6_0 D m (.ofNat (rem20 n)) (.ofNat (rem60 i)) h = S6_0 D m n i h := by
  unfold S6_0; simp only [key20, key60, rem20_nat _ (rem20_lt n), rem60_nat _ (rem60_lt i)]
def AB (l : List Bool) : Bool := List.rec true (fun b _ ih => and2B b ih) l
theorem AB6 (f : Nat → Bool) (s : Nat) (h : AB [f s, f (s + 1), f (s + 2), f (s + 3), f (s + 4), f (s + 5)] = true) (i : Nat) (h1 : s ≤ i) (h2 : i < s + 6) : f i = true := by
  obtain ⟨a0, h⟩ := and2B_eq _ _ h
  obtain ⟨a1, h⟩ := and2B_eq _ _ h
  obtain ⟨a2, h⟩ := and2B_eq _ _ h
  obtain ⟨a3, h⟩ := and2B_eq _ _ h
  obtain ⟨a4, h⟩ := and2B_eq _ _ h
  obtain ⟨a5, h⟩ := and2B_eq _ _ h
  have e : i = s ∨ i = s + 1 ∨ i = s + 2 ∨ i = s + 3 ∨ i = s + 4 ∨ i = s + 5 := by omega
  rcases e with rfl | rfl | rfl | rfl | rfl | rfl <;> assumption
def tabT (e1 e2 : Memo) : ST := .node 11 tabY (.node 12 (.pr 12 (memos [e1, e2])) tabY)
theorem okT {e1 e2 : Memo} (h1 : e1.Ran tabY 900 12) (h2 : e2.Ran tabY 900 12) : ST.Ok Tryz.prog (tabT e1 e2) ∧ (tabT e1 e2).find 6 = tabS.find 6 := ⟨.node _ _ _ okY (.node _ _ _ (.pr _ _ fun w0 => pr_memo (by kernel_rfl) okY (n := 900) ⟨_, Tryz.func12, by kernel_rfl, by decide +kernel⟩ (memos_ok fun e he => by
  simp only [List.mem_cons, List.not_mem_nil, or_false] at he
  rcases he with rfl | rfl
  · exact h1
  · exact h2) w0) okY), by kernel_rfl⟩
theorem all60 (f : Nat → Bool) (h0 : AB [f 0, f 1, f 2, f 3, f 4, f 5] = true) (h1 : AB [f 6, f 7, f 8, f 9, f 10, f 11] = true) (h2 : AB [f 12, f 13, f 14, f 15, f 16, f 17] = true) (h3 : AB [f 18, f 19, f 20, f 21, f 22, f 23] = true) (h4 : AB [f 24, f 25, f 26, f 27, f 28, f 29] = true) (h5 : AB [f 30, f 31, f 32, f 33, f 34, f 35] = true) (h6 : AB [f 36, f 37, f 38, f 39, f 40, f 41] = true) (h7 : AB [f 42, f 43, f 44, f 45, f 46, f 47] = true) (h8 : AB [f 48, f 49, f 50, f 51, f 52, f 53] = true) (h9 : AB [f 54, f 55, f 56, f 57, f 58, f 59] = true) (i : Nat) (hi : i < 60) : f i = true := by
  have h : (0 ≤ i ∧ i < 6) ∨ (6 ≤ i ∧ i < 12) ∨ (12 ≤ i ∧ i < 18) ∨ (18 ≤ i ∧ i < 24) ∨ (24 ≤ i ∧ i < 30) ∨ (30 ≤ i ∧ i < 36) ∨ (36 ≤ i ∧ i < 42) ∨ (42 ≤ i ∧ i < 48) ∨ (48 ≤ i ∧ i < 54) ∨ (54 ≤ i ∧ i < 60) := by omega
  rcases h with ⟨a, b⟩ | ⟨a, b⟩ | ⟨a, b⟩ | ⟨a, b⟩ | ⟨a, b⟩ | ⟨a, b⟩ | ⟨a, b⟩ | ⟨a, b⟩ | ⟨a, b⟩ | ⟨a, b⟩
  · exact AB6 f 0 h0 i a b
  · exact AB6 f 6 h1 i a b
  · exact AB6 f 12 h2 i a b
  · exact AB6 f 18 h3 i a b
  · exact AB6 f 24 h4 i a b
  · exact AB6 f 30 h5 i a b
  · exact AB6 f 36 h6 i a b
  · exact AB6 f 42 h7 i a b
  · exact AB6 f 48 h8 i a b
  · exact AB6 f 54 h9 i a b
theorem enter6 (t : ST) (ht : t.find 6 = tabS.find 6) (n i : Int) : SF t 1000 6 [.int .i64 n, .int .i64 i] ⟨.h, .leaf⟩ .no = S6_0 (SF t 999) 999 n i ⟨.h, .leaf⟩ := by
  show (t.find 6).run (SF t 999) 999 _ _ _ = _
  rw [ht]; kernel_rfl
end
end Go.Proofs.YtblciblkocameaaGreat.Sx
