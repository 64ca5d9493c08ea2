/- SemReals: only the remainders of the arguments matter; a run at three of them. -/
import Derived.Test.YtblciblkocameaaGreatSt
set_option linter.unusedVariables false
set_option linter.unusedSimpArgs false
namespace Go.Proofs.YtblciblkocameaaGreat.Sx
open Go Go.Proofs.YtblciblkocameaaGreat.Ev
noncomputable section
def one (a b c : Nat) : Bool := isTrue (S10_2 (SF tabS 999) 999 (Int.ofNat a) (Int.ofNat b) (Int.ofNat c) ⟨.h, .leaf⟩)
def and2 (q p : Bool) : Bool := Bool.rec false p q
def all6 (b c : Nat) : Bool := and2 (one 0 b c) (and2 (one 1 b c) (and2 (one 2 b c) (and2 (one 3 b c) (and2 (one 4 b c) (one 5 b c)))))
theorem and6 (q p : Bool) (h : and2 q p = true) : q = true ∧ p = true := by
  cases q with
  | false => exact absurd h (by show ¬ false = true; simp)
  | true => exact ⟨rfl, h⟩
theorem all6_one (b c : Nat) (h : all6 b c = true) (a : Nat) (ha : a < 6) : one a b c = true := by
  obtain ⟨h0, h⟩ := and6 _ _ h
  obtain ⟨h1, h⟩ := and6 _ _ h
  obtain ⟨h2, h⟩ := and6 _ _ h
  obtain ⟨h3, h⟩ := and6 _ _ h
  obtain ⟨h4, h5⟩ := and6 _ _ h
  have : a = 0 ∨ a = 1 ∨ a = 2 ∨ a = 3 ∨ a = 4 ∨ a = 5 := by omega
  rcases this with rfl | rfl | rfl | rfl | rfl | rfl
  · exact h0
  · exact h1
  · exact h2
  · exact h3
  · exact h4
  · exact h5
theorem tmod6 (n : Nat) : Int.tmod (Int.ofNat n) (Int.ofNat 6) = Int.ofNat (n % 6) := rfl
theorem mod_1 (D : CallD) (m x y : Nat) (t7 t9 : AV) (t12 t14 : Int) (h : HP) : S10_1 D m (.ofNat (x % 6)) (.ofNat (y % 6)) t7 t9 t12 t14 h = S10_1 D m (.ofNat x) (.ofNat y) t7 t9 t12 t14 h := by
  unfold S10_1; simp only [tmod6, Nat.mod_mod]
theorem mod_0 (D : CallD) (m x y : Nat) (t7 t9 : AV) (t10 t11 t12 : Int) (h : HP) : S10_0 D m (.ofNat (x % 6)) (.ofNat (y % 6)) t7 t9 t10 t11 t12 h = S10_0 D m (.ofNat x) (.ofNat y) t7 t9 t10 t11 t12 h := by
  unfold S10_0; simp only [mod_1]
theorem mod_2 (D : CallD) (m x y z : Nat) (h : HP) : S10_2 D m (.ofNat (x % 6)) (.ofNat (y % 6)) (.ofNat (z % 6)) h = S10_2 D m (.ofNat x) (.ofNat y) (.ofNat z) h := by
  unfold S10_2; simp only [tmod6, Nat.mod_mod, mod_0]
theorem enter (x y z : Nat) : SF tabS 1000 10 [.int .u8 (.ofNat x), .int .u8 (.ofNat y), .int .u8 (.ofNat z)] ⟨.h, .leaf⟩ .no = S10_2 (SF tabS 999) 999 (.ofNat x) (.ofNat y) (.ofNat z) ⟨.h, .leaf⟩ := by kernel_rfl
end
end Go.Proofs.YtblciblkocameaaGreat.Sx
