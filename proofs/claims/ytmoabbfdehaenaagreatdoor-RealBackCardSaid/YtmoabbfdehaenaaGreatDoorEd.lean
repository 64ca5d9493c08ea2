/- Sums, differences and products of a real and itself, 0, -0 and 1. -/
import Derived.Test.YtmoabbfdehaenaaGreatDoorOd
namespace Go.Proofs.YtmoabbfdehaenaaGreatDoor.Rl
open Go Ieee
theorem log2_mul (m k : Nat) (hm : m ≠ 0) : (m * 2 ^ k).log2 = m.log2 + k := by
  have h := (Nat.log2_eq_iff (n := m) (k := m.log2) hm).1 rfl
  have h2 : m * 2 ^ k ≠ 0 := Nat.mul_ne_zero hm (Nat.pos_iff_ne_zero.1 (Nat.two_pow_pos k))
  rw [Nat.log2_eq_iff h2]
  constructor
  · rw [Nat.pow_add]; exact Nat.mul_le_mul_right _ h.1
  · rw [show m.log2 + k + 1 = (m.log2 + 1) + k by omega, Nat.pow_add]
    exact Nat.mul_lt_mul_of_pos_right h.2 (Nat.two_pow_pos k)
theorem cut_exact (s : Bool) (m k : Nat) (hm : m ≠ 0) : Toward.even.cut s (m * 2 ^ k) k = m := by
  have hl := log2_mul m k hm
  unfold Toward.cut
  simp only [hl]
  rw [show min k (m.log2 + k + 2) = k by omega, Nat.one_shiftLeft, Nat.mul_div_cancel _ (Nat.two_pow_pos k), Nat.mul_mod_left]
  have h2 : (2 ^ k == 2 * 0) = false := by
    have := Nat.two_pow_pos k
    simp
  simp [h2]
theorem near (s : Bool) (m k : Nat) (i : Int) (hm : m ≠ 0) (h1 : double.leastPlace ≤ i) (h2 : i = double.leastPlace ∨ m.log2 = 52) (h3 : m.log2 ≤ 52) :
    double.nearest s (m * 2 ^ k) (i - k) = double.word s (min ((i - double.leastPlace).toNat * double.binade + m) double.infRung) := by
  unfold Format.nearest
  have h0 : m * 2 ^ k ≠ 0 := Nat.mul_ne_zero hm (Nat.pos_iff_ne_zero.1 (Nat.two_pow_pos k))
  rw [if_neg h0]
  have hl := log2_mul m k hm
  have e52 : (double.fractionBits : Int) = 52 := rfl
  have last : max (i - k + ((m * 2 ^ k).log2 : Nat) - (double.fractionBits : Nat)) double.leastPlace = i := by
    rw [hl]
    show max (i - k + ((m.log2 + k : Nat) : Int) - 52) double.leastPlace = i
    rcases h2 with h2 | h2 <;> omega
  simp only [last]
  rw [show (i - ↑k - i).toNat = 0 by omega, show (i - (i - ↑k)).toNat = k by omega, Nat.shiftLeft_zero, cut_exact s m k hm]
/-- The datum of a word, by its rung. -/
theorem fin_near {a : Nat} (ha : a < 2 ^ 64) (hr : a % 2 ^ 63 < double.infRung) (h0 : a % 2 ^ 63 ≠ 0) :
    ∃ s m i, double.read a = .number s m i ∧ m ≠ 0 ∧ double.leastPlace ≤ i ∧ (i = double.leastPlace ∨ m.log2 = 52) ∧ m.log2 ≤ 52 ∧ double.word s (min ((i - double.leastPlace).toNat * double.binade + m) double.infRung) = a := by
  have hw : ∀ r, r = a % 2 ^ 63 → double.word (a / 2 ^ 63 % 2 == 1) r = a := fun r e => by
    subst e
    unfold Format.word
    have hs : double.signWeight = 2 ^ 63 := rfl
    rw [hs]
    rcases Nat.lt_or_ge a (2 ^ 63) with h | h
    · have : a / 2 ^ 63 = 0 := Nat.div_eq_of_lt h
      rw [this]; simp; omega
    · have : a / 2 ^ 63 = 1 := by omega
      rw [this]; simp; omega
  have hb : double.binade = 2 ^ 52 := rfl
  have hs : double.signWeight = 2 ^ 63 := rfl
  rcases Nat.lt_or_ge (a % 2 ^ 63) (2 ^ 52) with h | h
  · refine ⟨a / 2 ^ 63 % 2 == 1, a % 2 ^ 63, double.leastPlace, ?_, h0, Int.le_refl _, .inl rfl, ?_, ?_⟩
    · unfold Format.read
      simp only [hs, hb]
      rw [if_pos h]
    · have := (Nat.log2_lt h0).2 h
      omega
    · rw [show (double.leastPlace - double.leastPlace).toNat = 0 by omega, Nat.zero_mul, Nat.zero_add, Nat.min_eq_left (Nat.le_of_lt hr)]
      exact hw _ rfl
  · have hf : a % 2 ^ 63 % 2 ^ 52 < 2 ^ 52 := Nat.mod_lt _ (by decide)
    have hl : (2 ^ 52 + a % 2 ^ 63 % 2 ^ 52).log2 = 52 := by
      rw [Nat.log2_eq_iff (by omega)]
      omega
    refine ⟨a / 2 ^ 63 % 2 == 1, 2 ^ 52 + a % 2 ^ 63 % 2 ^ 52, double.leastPlace + ((a % 2 ^ 63 / 2 ^ 52 - 1 : Nat) : Int), ?_, by omega, by omega, .inr hl, by omega, ?_⟩
    · unfold Format.read
      simp only [hs, hb]
      rw [if_neg (by omega), if_pos hr]
    · rw [show (double.leastPlace + ((a % 2 ^ 63 / 2 ^ 52 - 1 : Nat) : Int) - double.leastPlace).toNat = a % 2 ^ 63 / 2 ^ 52 - 1 by omega, hb]
      have e : (a % 2 ^ 63 / 2 ^ 52 - 1) * 2 ^ 52 + (2 ^ 52 + a % 2 ^ 63 % 2 ^ 52) = a % 2 ^ 63 := by omega
      rw [e, Nat.min_eq_left (Nat.le_of_lt hr)]
      exact hw _ rfl
theorem natAbs_signed (s : Bool) (m u : Nat) : (signed s m u).natAbs = m * 2 ^ u := by
  cases s
  · show ((m <<< u : Nat) : Int).natAbs = _
    rw [Int.natAbs_natCast, Nat.shiftLeft_eq]
  · show (-((m <<< u : Nat) : Int)).natAbs = _
    rw [Int.natAbs_neg, Int.natAbs_natCast, Nat.shiftLeft_eq]
theorem signed_neg (s : Bool) (m u : Nat) (hm : m ≠ 0) : decide (signed s m u < 0) = s := by
  have h : 0 < m * 2 ^ u := Nat.mul_pos (Nat.pos_of_ne_zero hm) (Nat.two_pow_pos u)
  rw [← Nat.shiftLeft_eq] at h
  cases s
  · show decide (((m <<< u : Nat) : Int) < 0) = false
    generalize m <<< u = n at *
    simp
  · show decide (-((m <<< u : Nat) : Int) < 0) = true
    generalize m <<< u = n at *
    simp; omega
theorem signed_ne (s : Bool) (m u : Nat) (hm : m ≠ 0) : signed s m u ≠ 0 := by
  have h : 0 < m * 2 ^ u := Nat.mul_pos (Nat.pos_of_ne_zero hm) (Nat.two_pow_pos u)
  intro e
  have := natAbs_signed s m u
  rw [e] at this; simp at this; omega
/-- What kind of word is it? -/
theorem kinds {a : Nat} (ha : a < 2 ^ 64) : (a = 0 ∨ a = 2 ^ 63) ∨ (a % 2 ^ 63 < double.infRung ∧ a % 2 ^ 63 ≠ 0) ∨ (a = double.infRung ∨ a = double.infRung + 2 ^ 63) ∨ nan a = true := by
  have hi : double.infRung = 2047 * 2 ^ 52 := by decide
  have hs : double.signWeight = 2 ^ 63 := rfl
  have hb : double.binade = 2 ^ 52 := rfl
  rcases Nat.lt_trichotomy (a % 2 ^ 63) double.infRung with h | h | h
  · by_cases h0 : a % 2 ^ 63 = 0
    · left; omega
    · exact .inr (.inl ⟨h, h0⟩)
  · right; right; left; omega
  · right; right; right
    unfold nan Format.read
    simp only [hs, hb]
    rw [if_neg (by omega), if_neg (by omega), if_neg (by omega)]
    rfl
theorem sum_zero {a : Nat} (ha : a < 2 ^ 64) (hr : a % 2 ^ 63 < double.infRung) (h0 : a % 2 ^ 63 ≠ 0) (z : Bool) : ((double.read a).sum (.number z 0 double.leastPlace)).map double.write = some a := by
  obtain ⟨s, m, i, e, h1, h2, h3, h4, h5⟩ := fin_near ha hr h0
  rw [e]
  have hmin : min i double.leastPlace = double.leastPlace := by omega
  have ez : signed z 0 (double.leastPlace - double.leastPlace).toNat = 0 := by unfold signed; cases z <;> simp
  show some (double.nearest (if signed s m (i - min i double.leastPlace).toNat + signed z 0 (double.leastPlace - min i double.leastPlace).toNat = 0 then s && z else decide (signed s m (i - min i double.leastPlace).toNat + signed z 0 (double.leastPlace - min i double.leastPlace).toNat < 0)) (signed s m (i - min i double.leastPlace).toNat + signed z 0 (double.leastPlace - min i double.leastPlace).toNat).natAbs (min i double.leastPlace)) = some a
  rw [hmin, ez, Int.add_zero, if_neg (signed_ne s m _ h1), natAbs_signed, signed_neg s m _ h1]
  have hn := near s m (i - double.leastPlace).toNat i h1 h2 h3 h4
  rw [show i - (((i - double.leastPlace).toNat : Nat) : Int) = double.leastPlace by omega] at hn
  rw [hn, h5]
theorem mul_one {a : Nat} (ha : a < 2 ^ 64) (hr : a % 2 ^ 63 < double.infRung) (h0 : a % 2 ^ 63 ≠ 0) : double.mul a 4607182418800017408 = some a := by
  obtain ⟨s, m, i, e, h1, h2, h3, h4, h5⟩ := fin_near ha hr h0
  have e1 : double.read 4607182418800017408 = .number false (2 ^ 52) (-52) := by decide +kernel
  unfold Format.mul
  rw [e, e1]
  show some (double.nearest (s ^^ false) (m * 2 ^ 52) (i + -52)) = some a
  have hn := near s m 52 i h1 h2 h3 h4
  rw [Bool.xor_false, show i + -52 = i - ((52 : Nat) : Int) by omega, hn, h5]
theorem sub_self {a : Nat} (ha : a < 2 ^ 64) (hr : a % 2 ^ 63 < double.infRung) (h0 : a % 2 ^ 63 ≠ 0) : double.sub a a = some 0 := by
  obtain ⟨s, m, i, e, h1, h2, h3, h4, h5⟩ := fin_near ha hr h0
  unfold Format.sub
  rw [e]
  have et : signed s m (i - min i i).toNat + signed (!s) m (i - min i i).toNat = 0 := by unfold signed; cases s <;> simp <;> omega
  show some (double.nearest (if signed s m (i - min i i).toNat + signed (!s) m (i - min i i).toNat = 0 then s && !s else decide (signed s m (i - min i i).toNat + signed (!s) m (i - min i i).toNat < 0)) (signed s m (i - min i i).toNat + signed (!s) m (i - min i i).toNat).natAbs (min i i)) = some 0
  rw [et, if_pos rfl]
  cases s <;> rfl
theorem land_inf {a : Nat} (hr : a % 2 ^ 63 < double.infRung) : Nat.land a 9218868437227405312 ≠ 9218868437227405312 := by
  show a &&& 9218868437227405312 ≠ 9218868437227405312
  have hi : double.infRung = 9218868437227405312 := by decide
  have h1 : (a &&& 9218868437227405312) % 2 ^ 63 = (a % 2 ^ 63) &&& (9218868437227405312 % 2 ^ 63) := Nat.and_mod_two_pow ..
  have h2 : (a &&& 9218868437227405312) ≤ 9218868437227405312 := Nat.and_le_right
  have h3 : (a % 2 ^ 63) &&& (9218868437227405312 % 2 ^ 63) ≤ a % 2 ^ 63 := Nat.and_le_left
  rw [Nat.mod_eq_of_lt (a := a &&& 9218868437227405312) (by omega)] at h1
  omega
theorem nan_sum {a : Nat} (h : nan a = true) (d : Datum) : (double.read a).sum d = none ∧ d.sum (double.read a) = none ∧ (double.read a).product d = none ∧ d.product (double.read a) = none ∧ (∀ n, (double.read a).quotient n d = none) ∧ (∀ n, d.quotient n (double.read a) = none) := by
  unfold nan at h
  cases e : double.read a with
  | nan => cases d <;> exact ⟨rfl, rfl, rfl, rfl, fun _ => rfl, fun _ => rfl⟩
  | infinity => rw [e] at h; simp [Datum.isNaN] at h
  | number => rw [e] at h; simp [Datum.isNaN] at h
theorem nan_sub {a : Nat} (h : nan a = true) (d : Datum) : d.sum (double.read a).opposite = none := by
  unfold nan at h
  cases e : double.read a with
  | nan => cases d <;> rfl
  | infinity => rw [e] at h; simp [Datum.isNaN] at h
  | number => rw [e] at h; simp [Datum.isNaN] at h
end Go.Proofs.YtmoabbfdehaenaaGreatDoor.Rl
