/- Sums and products of reals: they don't hang on the order; signs; sums of small words are exact. -/
import Derived.Test.YtbfdhoggchedjaaGreatDoorEd
namespace Go.Proofs.YtbfdhoggchedjaaGreatDoor.Rl
open Go Ieee
theorem sum_comm (d e : Datum) : d.sum e = e.sum d := by
  cases d with
  | nan => cases e <;> rfl
  | infinity s =>
    cases e with
    | nan => rfl
    | infinity t => cases s <;> cases t <;> rfl
    | number => rfl
  | number s m i =>
    cases e with
    | nan => rfl
    | infinity => rfl
    | number t n j =>
      simp only [Datum.sum]
      rw [Int.min_comm, Int.add_comm, Bool.and_comm]
theorem product_comm (d e : Datum) : d.product e = e.product d := by
  cases d with
  | nan => cases e <;> rfl
  | infinity s =>
    cases e with
    | nan => rfl
    | infinity t => cases s <;> cases t <;> rfl
    | number t n j => simp only [Datum.product]
  | number s m i =>
    cases e with
    | nan => rfl
    | infinity t => simp only [Datum.product]
    | number t n j =>
      simp only [Datum.product]
      rw [Bool.xor_comm, Nat.mul_comm, Int.add_comm]
theorem product_opp (d e : Datum) : d.opposite.product e = (d.product e).map Datum.opposite := by
  cases d with
  | nan => cases e <;> rfl
  | infinity s =>
    cases e with
    | nan => rfl
    | infinity t => cases s <;> cases t <;> rfl
    | number t n j =>
      simp only [Datum.product, Datum.opposite]
      split
      · rfl
      · cases s <;> cases t <;> rfl
  | number s m i =>
    cases e with
    | nan => rfl
    | infinity t =>
      simp only [Datum.product, Datum.opposite]
      split
      · rfl
      · cases s <;> cases t <;> rfl
    | number t n j => cases s <;> cases t <;> rfl
theorem product_fine {d e p : Datum} (h : d.product e = some p) : (∃ s m i, p = .number s m i) ∨ ∃ s, p = .infinity s := by
  cases d <;> cases e <;> simp only [Datum.product] at h <;> (try split at h) <;> simp at h <;> subst h <;> first | exact .inl ⟨_, _, _, rfl⟩ | exact .inr ⟨_, rfl⟩
/-- What is written of a datum is a rung and a sign. -/
theorem write_word {p : Datum} (h : (∃ s m i, p = .number s m i) ∨ ∃ s, p = .infinity s) : ∃ s R, R ≤ double.infRung ∧ double.write p = double.word s R ∧ double.write p.opposite = double.word (!s) R := by
  rcases h with ⟨s, m, i, rfl⟩ | ⟨s, rfl⟩
  · by_cases hm : m = 0
    · refine ⟨s, 0, Nat.zero_le _, ?_, ?_⟩
      · show double.nearest s m i = _
        unfold Format.nearest; rw [if_pos hm]
      · show double.nearest (!s) m i = _
        unfold Format.nearest; rw [if_pos hm]
    · refine ⟨s, min ((max (i + (m.log2 : Nat) - (double.fractionBits : Nat)) double.leastPlace - double.leastPlace).toNat * double.binade + Toward.even.cut s (m <<< (i - max (i + (m.log2 : Nat) - (double.fractionBits : Nat)) double.leastPlace).toNat) (max (i + (m.log2 : Nat) - (double.fractionBits : Nat)) double.leastPlace - i).toNat) double.infRung, Nat.min_le_right _ _, ?_, ?_⟩
      · show double.nearest s m i = _
        unfold Format.nearest; rw [if_neg hm]
      · show double.nearest (!s) m i = _
        unfold Format.nearest; rw [if_neg hm]; rfl
  · exact ⟨s, double.infRung, Nat.le_refl _, rfl, rfl⟩
theorem word_lt (s : Bool) {R : Nat} (h : R ≤ double.infRung) : double.word s R < 2 ^ 64 ∧ double.word s R % 2 ^ 63 = R ∧ (double.word s R / 2 ^ 63 % 2 == 1) = s := by
  have hi : double.infRung = 2047 * 2 ^ 52 := by decide
  have hs : double.signWeight = 2 ^ 63 := rfl
  unfold Format.word
  rw [hs]
  cases s
  · have : R / 2 ^ 63 = 0 := Nat.div_eq_of_lt (by omega)
    simp; omega
  · have : (2 ^ 63 + R) / 2 ^ 63 = 1 := by omega
    simp only [if_true]
    rw [this]
    exact ⟨by omega, by omega, rfl⟩
theorem word_nan (s : Bool) {R : Nat} (h : R ≤ double.infRung) : nan (double.word s R) = false := by
  obtain ⟨h1, h2, h3⟩ := word_lt s h
  have hs : double.signWeight = 2 ^ 63 := rfl
  unfold nan Format.read
  simp only [hs, h2]
  split
  · rfl
  · split
    · rfl
    · rw [if_pos (by omega)]; rfl
theorem word_of {x R : Nat} {s : Bool} (hx : x < 2 ^ 64) (h1 : x % 2 ^ 63 = R) (h2 : (x / 2 ^ 63 % 2 == 1) = s) : x = double.word s R := by
  have hs : double.signWeight = 2 ^ 63 := rfl
  unfold Format.word
  rw [hs]
  cases s
  · have : ¬ (x / 2 ^ 63 % 2 = 1) := by simpa using h2
    simp; omega
  · have : x / 2 ^ 63 % 2 = 1 := by simpa using h2
    simp; omega
/-- A small word as a real. -/
def sig (x : Nat) : Nat := x * 2 ^ (52 - x.log2)
def plc (x : Nat) : Int := (x.log2 : Int) - 52
theorem small_log {x : Nat} (h0 : x ≠ 0) (h : x < 2 ^ 52) : x.log2 < 52 := (Nat.log2_lt h0).2 h
theorem sig_log {x : Nat} (h0 : x ≠ 0) (h : x < 2 ^ 52) : (sig x).log2 = 52 ∧ sig x ≠ 0 := by
  have := small_log h0 h
  refine ⟨?_, Nat.mul_ne_zero h0 (Nat.pos_iff_ne_zero.1 (Nat.two_pow_pos _))⟩
  unfold sig
  rw [log2_mul _ _ h0]; omega
theorem near_small {x : Nat} (h0 : x ≠ 0) (h : x < 2 ^ 52) : double.nearest false x 0 = double.word false ((x.log2 + 1022) * 2 ^ 52 + sig x) := by
  have hl := small_log h0 h
  have hb : double.binade = 2 ^ 52 := rfl
  have hp : double.leastPlace = -1074 := by decide
  have hi : double.infRung = 2047 * 2 ^ 52 := by decide
  obtain ⟨g1, g2⟩ := sig_log h0 h
  have g3 := ((Nat.log2_eq_iff g2).1 g1).2
  unfold Format.nearest
  rw [if_neg h0]
  have last : max ((0 : Int) + (x.log2 : Nat) - (double.fractionBits : Nat)) double.leastPlace = plc x := by
    show max ((0 : Int) + (x.log2 : Nat) - 52) double.leastPlace = (x.log2 : Int) - 52
    omega
  simp only [last]
  have e1 : (0 - plc x).toNat = 52 - x.log2 := by unfold plc; omega
  have e2 : (plc x - 0).toNat = 0 := by unfold plc; omega
  have e3 : (plc x - double.leastPlace).toNat = x.log2 + 1022 := by unfold plc; omega
  rw [e1, e2, e3, hb, Nat.shiftLeft_eq]
  have hc := cut_exact false (sig x) 0 g2
  rw [Nat.pow_zero, Nat.mul_one] at hc
  show double.word false (min ((x.log2 + 1022) * 2 ^ 52 + Toward.even.cut false (sig x) 0) double.infRung) = _
  rw [hc, Nat.min_eq_left (by omega)]
theorem read_small {x : Nat} (h0 : x ≠ 0) (h : x < 2 ^ 52) : double.read (double.nearest false x 0) = .number false (sig x) (plc x) := by
  have hl := small_log h0 h
  obtain ⟨g1, g2⟩ := sig_log h0 h
  have g3 := (Nat.log2_eq_iff g2).1 g1
  have hb : double.binade = 2 ^ 52 := rfl
  have hs : double.signWeight = 2 ^ 63 := rfl
  have hp : double.leastPlace = -1074 := by decide
  have hi : double.infRung = 2047 * 2 ^ 52 := by decide
  rw [near_small h0 h]
  obtain ⟨w1, w2, w3⟩ := word_lt false (R := (x.log2 + 1022) * 2 ^ 52 + sig x) (by omega)
  unfold Format.read
  simp only [hs, w2, w3, hb]
  rw [if_neg (by omega), if_pos (by omega)]
  have e1 : 2 ^ 52 + ((x.log2 + 1022) * 2 ^ 52 + sig x) % 2 ^ 52 = sig x := by omega
  have e2 : ((x.log2 + 1022) * 2 ^ 52 + sig x) / 2 ^ 52 - 1 = x.log2 + 1022 := by omega
  rw [e1, e2, show double.leastPlace + ((x.log2 + 1022 : Nat) : Int) = plc x by unfold plc; omega]
theorem sum_small {v w : Nat} (hv : v ≠ 0) (hw : w ≠ 0) (h : v + w < 2 ^ 52) : double.add (double.nearest false v 0) (double.nearest false w 0) = some (double.nearest false (v + w) 0) := by
  have h0 : v + w ≠ 0 := by omega
  have lv := small_log hv (by omega)
  have lw := small_log hw (by omega)
  have ls := small_log h0 h
  obtain ⟨g1, g2⟩ := sig_log h0 h
  have m1 : v.log2 ≤ (v + w).log2 := by
    have a := (Nat.log2_eq_iff hv).1 rfl
    have b := (Nat.log2_eq_iff h0).1 rfl
    have : 2 ^ v.log2 < 2 ^ ((v + w).log2 + 1) := by omega
    have := (Nat.pow_lt_pow_iff_right (by omega)).1 this
    omega
  unfold Format.add
  rw [read_small hv (by omega), read_small hw (by omega)]
  have hs : ∀ x : Nat, x.log2 < 52 → ∀ b : Int, b ≤ plc x → signed false (sig x) (plc x - b).toNat = ((x * 2 ^ (-b).toNat : Nat) : Int) := fun x hx b hb => by
    show ((sig x <<< (plc x - b).toNat : Nat) : Int) = _
    rw [Nat.shiftLeft_eq]
    unfold sig
    rw [Nat.mul_assoc, ← Nat.pow_add]
    congr 3
    unfold plc at *; omega
  show some (double.nearest (if signed false (sig v) (plc v - min (plc v) (plc w)).toNat + signed false (sig w) (plc w - min (plc v) (plc w)).toNat = 0 then false && false else decide (signed false (sig v) (plc v - min (plc v) (plc w)).toNat + signed false (sig w) (plc w - min (plc v) (plc w)).toNat < 0)) (signed false (sig v) (plc v - min (plc v) (plc w)).toNat + signed false (sig w) (plc w - min (plc v) (plc w)).toNat).natAbs (min (plc v) (plc w))) = _
  rw [hs v lv _ (by omega), hs w lw _ (by omega)]
  generalize hb : min (plc v) (plc w) = b
  have hb1 : b ≤ plc v := by omega
  have et : ((v * 2 ^ (-b).toNat : Nat) : Int) + ((w * 2 ^ (-b).toNat : Nat) : Int) = (((v + w) * 2 ^ (-b).toNat : Nat) : Int) := by
    rw [Nat.add_mul, Int.natCast_add]
  rw [et]
  have hpos : 0 < (v + w) * 2 ^ (-b).toNat := Nat.mul_pos (by omega) (Nat.two_pow_pos _)
  generalize hn : (v + w) * 2 ^ (-b).toNat = n at *
  have e0 : (if ((n : Nat) : Int) = 0 then false && false else decide (((n : Nat) : Int) < 0)) = false := by
    rw [if_neg (by omega)]; simp
  rw [e0, Int.natAbs_natCast, ← hn]
  have hk : (v + w) * 2 ^ (-b).toNat = sig (v + w) * 2 ^ (plc (v + w) - b).toNat := by
    unfold sig
    rw [Nat.mul_assoc, ← Nat.pow_add]
    congr 2
    unfold plc at *; omega
  have hn := near false (sig (v + w)) (plc (v + w) - b).toNat (plc (v + w)) g2 (by unfold plc; have : double.leastPlace = -1074 := by decide
                                                                                   omega) (.inr g1) (by omega)
  rw [show plc (v + w) - (((plc (v + w) - b).toNat : Nat) : Int) = b by unfold plc at *; omega] at hn
  rw [hk, hn, near_small h0 h]
  have hp : double.leastPlace = -1074 := by decide
  have hi : double.infRung = 2047 * 2 ^ 52 := by decide
  have hb : double.binade = 2 ^ 52 := rfl
  have g3 := (Nat.log2_eq_iff g2).1 g1
  rw [show (plc (v + w) - double.leastPlace).toNat = (v + w).log2 + 1022 by unfold plc; omega, hb, Nat.min_eq_left (by omega)]
theorem val_small {x : Nat} (k : Nat) (hk : (k : Int) = -double.leastPlace) (h : x < 2 ^ 52) : cls (double.read (double.nearest false x 0)) = 0 ∧ val double.leastPlace (double.read (double.nearest false x 0)) = ((x * 2 ^ k : Nat) : Int) ∧ nan (double.nearest false x 0) = false := by
  by_cases h0 : x = 0
  · subst h0
    refine ⟨by decide +kernel, ?_, by decide +kernel⟩
    rw [Nat.zero_mul]; decide +kernel
  · have hl := small_log h0 h
    have hp : double.leastPlace = -1074 := by decide
    rw [nan, read_small h0 h]
    refine ⟨rfl, ?_, rfl⟩
    show ((sig x <<< (plc x - double.leastPlace).toNat : Nat) : Int) = _
    rw [Nat.shiftLeft_eq]
    unfold sig
    rw [Nat.mul_assoc, ← Nat.pow_add]
    congr 3
    unfold plc; omega
theorem nan_small {x : Nat} (h : x < 2 ^ 52) : nan (double.nearest false x 0) = false := by
  obtain ⟨k, hk⟩ : ∃ k : Nat, (k : Int) = -double.leastPlace := ⟨1074, by decide⟩
  exact (val_small k hk h).2.2
theorem lt_small {v w : Nat} (hv : v < 2 ^ 52) (hw : w < 2 ^ 52) : lt (double.nearest false v 0) (double.nearest false w 0) = decide (v < w) := by
  obtain ⟨k, hk⟩ : ∃ k : Nat, (k : Int) = -double.leastPlace := ⟨1074, by decide⟩
  obtain ⟨a1, a2, a3⟩ := val_small k hk hv
  obtain ⟨b1, b2, b3⟩ := val_small k hk hw
  have := lt_iff a3 b3
  rw [a1, a2, b1, b2] at this
  rw [Bool.eq_iff_iff, this, decide_eq_true_iff]
  have hp : 0 < 2 ^ k := Nat.two_pow_pos _
  constructor
  · rintro (h | ⟨_, h⟩)
    · omega
    · exact Nat.lt_of_mul_lt_mul_right (Int.ofNat_lt.1 h)
  · intro h
    exact .inr ⟨rfl, Int.ofNat_lt.2 (Nat.mul_lt_mul_of_pos_right h hp)⟩
end Go.Proofs.YtbfdhoggchedjaaGreatDoor.Rl
