/- Sums and products of reals: they don't hang on the order; signs; sums of small words are exact. -/
import Derived.Test.YtakcpnpeadkfpaaGreatDoorEd
namespace Go.Proofs.YtakcpnpeadkfpaaGreatDoor.Rl
open Go Ieee
theorem product_fine {d e p : Datum} (h : d.product e = some p) : (∃ s m i, p = .number s m i) ∨ ∃ s, p = .infinity s := by
 cases d <;> cases e <;> simp only [Datum.product] at h <;> (try split at h) <;> simp at h <;> subst h <;> first | exact .inl ⟨_, _, _, rfl⟩ | exact .inr ⟨_, rfl⟩
/-- What is written of a datum is a rung and a sign. -/
theorem write_word {p : Datum} (h : (∃ s m i, p = .number s m i) ∨ ∃ s, p = .infinity s) : ∃ s R, R ≤ double.infRung ∧ double.write p = double.word s R ∧ double.write p.opposite = double.word (!s) R := by
 rcases h with ⟨s, m, i, rfl⟩ | ⟨s, rfl⟩
 ·by_cases hm : m = 0
  ·refine ⟨s, 0, Nat.zero_le _, ?_, ?_⟩
   ·show double.nearest s m i = _
    unfold Format.nearest; rw [if_pos hm]
   ·show double.nearest (!s) m i = _
    unfold Format.nearest; rw [if_pos hm]
  ·refine ⟨s, min ((max (i + (m.log2 : Nat) - (double.fractionBits : Nat)) double.leastPlace - double.leastPlace).toNat * double.binade + Toward.even.cut s (m <<< (i - max (i + (m.log2 : Nat) - (double.fractionBits : Nat)) double.leastPlace).toNat) (max (i + (m.log2 : Nat) - (double.fractionBits : Nat)) double.leastPlace - i).toNat) double.infRung, Nat.min_le_right _ _, ?_, ?_⟩
   ·show double.nearest s m i = _
    unfold Format.nearest; rw [if_neg hm]
   ·show double.nearest (!s) m i = _
    unfold Format.nearest; rw [if_neg hm]; rfl
 ·exact ⟨s, double.infRung, Nat.le_refl _, rfl, rfl⟩
theorem word_lt (s : Bool) {R : Nat} (h : R ≤ double.infRung) : double.word s R < 2 ^ 64 ∧ double.word s R % 2 ^ 63 = R ∧ (double.word s R / 2 ^ 63 % 2 == 1) = s := by
 have hi : double.infRung = 2047 * 2 ^ 52 := by decide
 have hs : double.signWeight = 2 ^ 63 := rfl
 unfold Format.word
 rw [hs]
 cases s
 ·have : R / 2 ^ 63 = 0 := Nat.div_eq_of_lt (by omega)
  simp; omega
 ·have : (2 ^ 63 + R) / 2 ^ 63 = 1 := by omega
  simp only [if_true]
  rw [this]
  exact ⟨by omega, by omega, rfl⟩
theorem word_nan (s : Bool) {R : Nat} (h : R ≤ double.infRung) : nan (double.word s R) = false := by
 obtain ⟨h1, h2, h3⟩ := word_lt s h
 have hs : double.signWeight = 2 ^ 63 := rfl
 unfold nan Format.read
 simp only [hs, h2]
 split
 ·rfl
 ·split
  ·rfl
  ·rw [if_pos (by omega)]; rfl
end Go.Proofs.YtakcpnpeadkfpaaGreatDoor.Rl
