/- Small whole numbers as reals, of both signs: read, made whole again, compared. -/
import Derived.Test.YtmoabbfdehaenaaGreatDoorEd
namespace Go.Proofs.YtmoabbfdehaenaaGreatDoor.Rl
open Go Ieee
theorem word_lt (s : Bool) {R : Nat} (h : R ≤ double.infRung) : double.word s R < 2 ^ 64 ∧ double.word s R % 2 ^ 63 = R ∧ (double.word s R / 2 ^ 63 % 2 == 1) = s := by
  have hi : double.infRung = 2047 * 2 ^ 52 := by decide
  have hs : double.signWeight = 2 ^ 63 := rfl
  unfold Format.word
  rw [hs]
  cases s
  · have : R / 2 ^ 63 = 0 := Nat.div_eq_of_lt (by omega)
    simp; omega
  · have : (2 ^ 63 + R) / 2 ^ 63 = 1 := by omega
    simp only [if_true]
    rw [this]
    exact ⟨by omega, by omega, rfl⟩
def sig (x : Nat) : Nat := x * 2 ^ (52 - x.log2)
def plc (x : Nat) : Int := (x.log2 : Int) - 52
theorem small_log {x : Nat} (h0 : x ≠ 0) (h : x < 2 ^ 52) : x.log2 < 52 := (Nat.log2_lt h0).2 h
theorem sig_log {x : Nat} (h0 : x ≠ 0) (h : x < 2 ^ 52) : (sig x).log2 = 52 ∧ sig x ≠ 0 := by
  have := small_log h0 h
  refine ⟨?_, Nat.mul_ne_zero h0 (Nat.pos_iff_ne_zero.1 (Nat.two_pow_pos _))⟩
  unfold sig
  rw [log2_mul _ _ h0]; omega
theorem near_small (s : Bool) {x : Nat} (h0 : x ≠ 0) (h : x < 2 ^ 52) : double.nearest s x 0 = double.word s ((x.log2 + 1022) * 2 ^ 52 + sig x) := by
  have hl := small_log h0 h
  have hb : double.binade = 2 ^ 52 := rfl
  have hp : double.leastPlace = -1074 := by decide
  have hi : double.infRung = 2047 * 2 ^ 52 := by decide
  obtain ⟨g1, g2⟩ := sig_log h0 h
  have g3 := ((Nat.log2_eq_iff g2).1 g1).2
  unfold Format.nearest
  rw [if_neg h0]
  have last : max ((0 : Int) + (x.log2 : Nat) - (double.fractionBits : Nat)) double.leastPlace = plc x := by
    show max ((0 : Int) + (x.log2 : Nat) - 52) double.leastPlace = (x.log2 : Int) - 52
    omega
  simp only [last]
  have e1 : (0 - plc x).toNat = 52 - x.log2 := by unfold plc; omega
  have e2 : (plc x - 0).toNat = 0 := by unfold plc; omega
  have e3 : (plc x - double.leastPlace).toNat = x.log2 + 1022 := by unfold plc; omega
  rw [e1, e2, e3, hb, Nat.shiftLeft_eq]
  have hc := cut_exact s (sig x) 0 g2
  rw [Nat.pow_zero, Nat.mul_one] at hc
  show double.word s (min ((x.log2 + 1022) * 2 ^ 52 + Toward.even.cut s (sig x) 0) double.infRung) = _
  rw [hc, Nat.min_eq_left (by omega)]
theorem read_small (s : Bool) {x : Nat} (h0 : x ≠ 0) (h : x < 2 ^ 52) : double.read (double.nearest s x 0) = .number s (sig x) (plc x) := by
  have hl := small_log h0 h
  obtain ⟨g1, g2⟩ := sig_log h0 h
  have g3 := (Nat.log2_eq_iff g2).1 g1
  have hb : double.binade = 2 ^ 52 := rfl
  have hs : double.signWeight = 2 ^ 63 := rfl
  have hp : double.leastPlace = -1074 := by decide
  have hi : double.infRung = 2047 * 2 ^ 52 := by decide
  rw [near_small s h0 h]
  obtain ⟨w1, w2, w3⟩ := word_lt s (R := (x.log2 + 1022) * 2 ^ 52 + sig x) (by omega)
  unfold Format.read
  simp only [hs, w2, w3, hb]
  rw [if_neg (by omega), if_pos (by omega)]
  have e1 : 2 ^ 52 + ((x.log2 + 1022) * 2 ^ 52 + sig x) % 2 ^ 52 = sig x := by omega
  have e2 : ((x.log2 + 1022) * 2 ^ 52 + sig x) / 2 ^ 52 - 1 = x.log2 + 1022 := by omega
  rw [e1, e2, show double.leastPlace + ((x.log2 + 1022 : Nat) : Int) = plc x by unfold plc; omega]
theorem lt_small (s : Bool) {x : Nat} (h : x < 2 ^ 52) : double.nearest s x 0 < 2 ^ 64 := by
  by_cases h0 : x = 0
  · subst h0; cases s <;> decide +kernel
  · have hl := small_log h0 h
    obtain ⟨g1, g2⟩ := sig_log h0 h
    have g3 := (Nat.log2_eq_iff g2).1 g1
    have hi : double.infRung = 2047 * 2 ^ 52 := by decide
    rw [near_small s h0 h]
    exact (word_lt s (R := (x.log2 + 1022) * 2 ^ 52 + sig x) (by omega)).1
/-- The real of a whole number. -/
def reZ (z : Int) : Nat := double.nearest (decide (z < 0)) z.natAbs 0
theorem cut_zero (s : Bool) (x k : Nat) (h : k ≤ (x * 2 ^ k).log2 + 2) : Toward.zero.cut s (x * 2 ^ k) k = x := by
  unfold Toward.cut
  simp only
  rw [Nat.min_eq_left h, Nat.one_shiftLeft, Nat.mul_div_cancel _ (Nat.two_pow_pos k)]
  rfl
theorem whole {z : Int} (h : z.natAbs < 2 ^ 52) : ∃ s m i, double.read (reZ z) = .number s m i ∧ Toward.zero.cut s (m <<< i.toNat) (-i).toNat = z.natAbs ∧ s = decide (z < 0) := by
  by_cases h0 : z = 0
  · subst h0
    refine ⟨false, 0, double.leastPlace, by decide +kernel, by decide +kernel, rfl⟩
  · have h1 : z.natAbs ≠ 0 := by omega
    have hl := small_log h1 h
    refine ⟨_, _, _, read_small _ h1 h, ?_, rfl⟩
    have e1 : (plc z.natAbs).toNat = 0 := by unfold plc; omega
    have e2 : (-plc z.natAbs).toNat = 52 - z.natAbs.log2 := by unfold plc; omega
    rw [e1, e2, Nat.shiftLeft_zero]
    exact cut_zero _ _ _ (by have := (sig_log h1 h).1; unfold sig at this; omega)
theorem val_near {z : Int} (k : Nat) (hk : (k : Int) = -double.leastPlace) (h : z.natAbs < 2 ^ 52) : cls (double.read (reZ z)) = 0 ∧ val double.leastPlace (double.read (reZ z)) = z * ((2 ^ k : Nat) : Int) ∧ nan (reZ z) = false := by
  by_cases h0 : z = 0
  · subst h0
    refine ⟨by decide +kernel, ?_, by decide +kernel⟩
    rw [Int.zero_mul]; decide +kernel
  · have h1 : z.natAbs ≠ 0 := by omega
    have hl := small_log h1 h
    have hp : double.leastPlace = -1074 := by decide
    rw [nan, reZ, read_small _ h1 h]
    refine ⟨rfl, ?_, rfl⟩
    show signed (decide (z < 0)) (sig z.natAbs) (plc z.natAbs - double.leastPlace).toNat = _
    have e : sig z.natAbs <<< (plc z.natAbs - double.leastPlace).toNat = z.natAbs * 2 ^ k := by
      rw [Nat.shiftLeft_eq]
      unfold sig
      rw [Nat.mul_assoc, ← Nat.pow_add]
      congr 2
      unfold plc; omega
    unfold signed
    rw [e]
    by_cases hz : z < 0
    · rw [decide_eq_true hz, if_pos rfl]
      have : z = -(z.natAbs : Int) := by omega
      rw [Int.natCast_mul, ← Int.neg_mul, ← this]
    · rw [decide_eq_false hz, if_neg (by decide)]
      have : z = (z.natAbs : Int) := by omega
      rw [Int.natCast_mul, ← this]
theorem nan_near {z : Int} (h : z.natAbs < 2 ^ 52) : nan (reZ z) = false := by
  obtain ⟨k, hk⟩ : ∃ k : Nat, (k : Int) = -double.leastPlace := ⟨1074, by decide⟩
  exact (val_near k hk h).2.2
theorem lt_near {v w : Int} (hv : v.natAbs < 2 ^ 52) (hw : w.natAbs < 2 ^ 52) : lt (reZ v) (reZ w) = decide (v < w) := by
  obtain ⟨k, hk⟩ : ∃ k : Nat, (k : Int) = -double.leastPlace := ⟨1074, by decide⟩
  obtain ⟨a1, a2, a3⟩ := val_near k hk hv
  obtain ⟨b1, b2, b3⟩ := val_near k hk hw
  have := lt_iff a3 b3
  rw [a1, a2, b1, b2] at this
  rw [Bool.eq_iff_iff, this, decide_eq_true_iff]
  have hp : (0 : Int) < ((2 ^ k : Nat) : Int) := Int.ofNat_lt.2 (Nat.two_pow_pos _)
  constructor
  · rintro (h | ⟨_, h⟩)
    · omega
    · exact Int.lt_of_mul_lt_mul_right h (Int.le_of_lt hp)
  · intro h
    exact .inr ⟨rfl, Int.mul_lt_mul_of_pos_right h hp⟩
theorem gt_near {v w : Int} (hv : v.natAbs < 2 ^ 52) (hw : w.natAbs < 2 ^ 52) : ((double.read (reZ v)).order (double.read (reZ w)) == some .gt) = decide (w < v) := by
  obtain ⟨k, hk⟩ : ∃ k : Nat, (k : Int) = -double.leastPlace := ⟨1074, by decide⟩
  obtain ⟨a1, a2, a3⟩ := val_near k hk hv
  obtain ⟨b1, b2, b3⟩ := val_near k hk hw
  rw [order_eq ((nan_iff _).1 a3) ((nan_iff _).1 b3), a1, a2, b1, b2, if_neg (by omega), if_neg (by omega)]
  have hp : (0 : Int) < ((2 ^ k : Nat) : Int) := Int.ofNat_lt.2 (Nat.two_pow_pos _)
  rw [cmp_mul _ _ _ (Nat.two_pow_pos _), Bool.eq_iff_iff, decide_eq_true_iff, ← c_gt]
  simp
end Go.Proofs.YtmoabbfdehaenaaGreatDoor.Rl
