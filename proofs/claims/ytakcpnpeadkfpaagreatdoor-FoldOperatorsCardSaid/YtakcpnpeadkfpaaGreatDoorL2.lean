/- Digits of numbers: plain laws. -/
import Derived.Test.YtakcpnpeadkfpaaGreatDoorOd
set_option linter.unusedVariables false
namespace Go.Proofs.YtakcpnpeadkfpaaGreatDoor.Lg
def dig (n i : Nat) : Nat := n / 65536 ^ i % 65536
def low (k n : Nat) : List Nat := (List.range k).map (dig n)
def nd (n : Nat) : Nat := if n = 0 then 0 else n.log2 / 16 + 1
def digs (n : Nat) : List Nat := low (nd n) n
theorem low_length (k n : Nat) : (low k n).length = k := by simp [low]
theorem low_succ (k n : Nat) : low (k + 1) n = low k n ++ [dig n k] := by simp [low, List.range_succ]
theorem low_getD {k n i : Nat} (h : i < k) : (low k n).getD i 0 = dig n i := by
 rw [List.getD_eq_getElem?_getD, low, List.getElem?_map, List.getElem?_range h]; rfl
theorem pow_pos' (k : Nat) : 0 < 65536 ^ k := Nat.pow_pos (by omega)
theorem pow16 (k : Nat) : (65536 : Nat) ^ k = 2 ^ (16 * k) := by rw [Nat.pow_mul]
theorem nd_le {n k : Nat} : nd n ≤ k ↔ n < 65536 ^ k := by
 unfold nd
 split
 ·rename_i h; subst h; simp [pow_pos']
 ·rename_i h
  rw [pow16, ← Nat.log2_lt h]; omega
theorem lt_nd (n : Nat) : n < 65536 ^ nd n := nd_le.1 (Nat.le_refl _)
theorem nd_pos {n : Nat} : 0 < nd n ↔ n ≠ 0 := by unfold nd; split <;> simp [*]
theorem dig_lt (n i : Nat) : dig n i < 65536 := Nat.mod_lt _ (by omega)
theorem dig_big {n i : Nat} (h : nd n ≤ i) : dig n i = 0 := by
 unfold dig; rw [Nat.div_eq_of_lt (nd_le.1 h)]
theorem digs_getD (n i : Nat) : (digs n).getD i 0 = dig n i := by
 rcases Nat.lt_or_ge i (nd n) with h | h
 ·exact low_getD h
 ·rw [dig_big h, List.getD_eq_getElem?_getD, List.getElem?_eq_none (by rw [digs, low_length]; exact h)]; rfl
theorem div_succ (n i : Nat) : n / 65536 ^ (i + 1) = n / 65536 ^ i / 65536 := by rw [Nat.pow_succ, Nat.div_div_eq_div_mul]
theorem div_dig (n i : Nat) : n / 65536 ^ i = 65536 * (n / 65536 ^ (i + 1)) + dig n i := by
 rw [div_succ]; unfold dig; omega
theorem mod_succ (n i : Nat) : n % 65536 ^ (i + 1) = n % 65536 ^ i + 65536 ^ i * dig n i := by
 rw [Nat.pow_succ, Nat.mod_mul]; rfl
theorem top_ne {n : Nat} (h : n ≠ 0) : dig n (nd n - 1) ≠ 0 := by
 have h1 := nd_pos.2 h
 have h2 := lt_nd n
 have h3 : ¬ n < 65536 ^ (nd n - 1) := fun e => by have := nd_le.2 e; omega
 have h4 := div_dig n (nd n - 1)
 rw [show nd n - 1 + 1 = nd n by omega, Nat.div_eq_of_lt h2] at h4
 have h5 : 0 < n / 65536 ^ (nd n - 1) := Nat.div_pos (by omega) (pow_pos' _)
 omega
theorem nd_of_dig {n i : Nat} (h : dig n i ≠ 0) : i < nd n := by
 rcases Nat.lt_or_ge i (nd n) with g | g
 ·exact g
 ·exact absurd (dig_big g) h
/-- Sums. -/
def car (a b i : Nat) : Nat := (a % 65536 ^ i + b % 65536 ^ i) / 65536 ^ i
theorem div_sum (a b i : Nat) : (a + b) / 65536 ^ i = a / 65536 ^ i + b / 65536 ^ i + car a b i := by
 have e1 := Nat.div_add_mod a (65536 ^ i)
 have e2 := Nat.div_add_mod b (65536 ^ i)
 have e : a + b = 65536 ^ i * (a / 65536 ^ i + b / 65536 ^ i) + (a % 65536 ^ i + b % 65536 ^ i) := by rw [Nat.mul_add]; omega
 unfold car
 conv => lhs; rw [e]
 rw [Nat.mul_add_div (pow_pos' i)]
theorem car_lt (a b i : Nat) : car a b i < 2 := by
 unfold car
 have h1 := Nat.mod_lt a (pow_pos' i)
 have h2 := Nat.mod_lt b (pow_pos' i)
 rw [Nat.div_lt_iff_lt_mul (pow_pos' i)]; omega
theorem dig_sum (a b i : Nat) : dig (a + b) i = (dig a i + dig b i + car a b i) % 65536 := by
 unfold dig; rw [div_sum]; omega
theorem car_succ (a b i : Nat) : car a b (i + 1) = (dig a i + dig b i + car a b i) / 65536 := by
 have e : a % 65536 ^ (i + 1) + b % 65536 ^ (i + 1) = 65536 ^ i * (dig a i + dig b i) + (a % 65536 ^ i + b % 65536 ^ i) := by
  rw [mod_succ, mod_succ, Nat.mul_add]; omega
 unfold car
 rw [e, Nat.pow_succ, ← Nat.div_div_eq_div_mul, Nat.mul_add_div (pow_pos' i)]
theorem car_zero (a b : Nat) : car a b 0 = 0 := by simp [car]; omega
theorem sum_end {a b i : Nat} (ha : nd a ≤ i) (hb : nd b ≤ i) (hc : car a b i = 0) : a + b < 65536 ^ i := by
 have h1 := nd_le.1 ha
 have h2 := nd_le.1 hb
 unfold car at hc
 rw [Nat.mod_eq_of_lt h1, Nat.mod_eq_of_lt h2] at hc
 exact (Nat.div_eq_zero_iff_lt (pow_pos' i)).1 hc
theorem car_end {a b i : Nat} (ha : nd a ≤ i) (hb : nd b ≤ i) : car a b (i + 1) = 0 := by
 rw [car_succ, dig_big ha, dig_big hb]
 have := car_lt a b i; omega
/-- Products with a small number. -/
def cam (a q i : Nat) : Nat := a % 65536 ^ i * q / 65536 ^ i
theorem div_mul' (a q i : Nat) : a * q / 65536 ^ i = a / 65536 ^ i * q + cam a q i := by
 have e1 := Nat.div_add_mod a (65536 ^ i)
 have e : a * q = 65536 ^ i * (a / 65536 ^ i * q) + a % 65536 ^ i * q := by
  conv => lhs; rw [← e1]
  rw [Nat.add_mul, Nat.mul_assoc]
 unfold cam
 conv => lhs; rw [e]
 rw [Nat.mul_add_div (pow_pos' i)]
theorem dig_mul (a q i : Nat) : dig (a * q) i = (dig a i * q + cam a q i) % 65536 := by
 unfold dig
 rw [div_mul']
 generalize a / 65536 ^ i = A
 have h := Nat.div_add_mod A 65536
 have e : A * q + cam a q i = 65536 * (A / 65536 * q) + (A % 65536 * q + cam a q i) := by
  conv => lhs; rw [← h]
  rw [Nat.add_mul, Nat.mul_assoc]; omega
 rw [e, Nat.mul_add_mod]
theorem cam_succ (a q i : Nat) : cam a q (i + 1) = (dig a i * q + cam a q i) / 65536 := by
 have e : a % 65536 ^ (i + 1) * q = 65536 ^ i * (dig a i * q) + a % 65536 ^ i * q := by
  rw [mod_succ, Nat.add_mul, Nat.mul_assoc]; omega
 unfold cam
 rw [e, Nat.pow_succ, ← Nat.div_div_eq_div_mul, Nat.mul_add_div (pow_pos' i)]
theorem cam_zero (a q : Nat) : cam a q 0 = 0 := by unfold cam; rw [Nat.pow_zero, Nat.mod_one, Nat.zero_mul]
theorem cam_lt {a q i : Nat} (hq : 0 < q) : cam a q i < q := by
 unfold cam
 rw [Nat.div_lt_iff_lt_mul (pow_pos' i), Nat.mul_comm q]
 exact Nat.mul_lt_mul_of_pos_right (Nat.mod_lt a (pow_pos' i)) hq
theorem mul_end {a q i : Nat} (ha : nd a ≤ i) (hc : cam a q i = 0) : a * q < 65536 ^ i := by
 unfold cam at hc
 rw [Nat.mod_eq_of_lt (nd_le.1 ha)] at hc
 exact (Nat.div_eq_zero_iff_lt (pow_pos' i)).1 hc
theorem cam_le (a q i : Nat) : cam a q i ≤ q := by
 rcases Nat.eq_zero_or_pos q with e | e
 ·subst e; unfold cam; rw [Nat.mul_zero, Nat.zero_div]; exact Nat.le_refl _
 ·exact Nat.le_of_lt (cam_lt e)
theorem cam_end {a q i : Nat} (ha : nd a ≤ i) (hq : q ≤ 65536) : cam a q (i + 1) = 0 := by
 rw [cam_succ, dig_big ha]
 rcases Nat.eq_zero_or_pos q with e | e
 ·have := cam_le a q i; omega
 ·have := cam_lt (a := a) (i := i) e; omega
/-- Differences. -/
def bor (a b i : Nat) : Nat := if a % 65536 ^ i < b % 65536 ^ i then 1 else 0
theorem div_sub {a b : Nat} (h : b ≤ a) (i : Nat) : (a - b) / 65536 ^ i + b / 65536 ^ i + bor a b i = a / 65536 ^ i := by
 have hp := pow_pos' i
 have s := div_sum (a - b) b i
 rw [Nat.sub_add_cancel h] at s
 have : car (a - b) b i = bor a b i := by
  have e1 : ((a - b) % 65536 ^ i + b % 65536 ^ i) % 65536 ^ i = a % 65536 ^ i := by rw [← Nat.add_mod, Nat.sub_add_cancel h]
  have h1 := Nat.mod_lt (a - b) hp
  have h2 := Nat.mod_lt b hp
  unfold car bor
  generalize (a - b) % 65536 ^ i = x at *
  generalize b % 65536 ^ i = y at *
  generalize a % 65536 ^ i = z at *
  generalize 65536 ^ i = P at *
  rcases Nat.lt_or_ge (x + y) P with g | g
  ·rw [Nat.mod_eq_of_lt g] at e1
   rw [Nat.div_eq_of_lt g, if_neg (by omega)]
  ·rw [Nat.mod_eq_sub_mod g, Nat.mod_eq_of_lt (by omega)] at e1
   rw [if_pos (by omega), Nat.div_eq_sub_div hp g, Nat.div_eq_of_lt (by omega)]
 omega
theorem dig_sub {a b : Nat} (h : b ≤ a) (i : Nat) : (dig (a - b) i : Int) = if (dig a i : Int) - dig b i - bor a b i < 0 then (dig a i : Int) - dig b i - bor a b i + 65536 else (dig a i : Int) - dig b i - bor a b i := by
 have s := div_sub h i
 have hb : bor a b i < 2 := by unfold bor; split <;> omega
 unfold dig
 split <;> omega
theorem bor_succ (a b i : Nat) : bor a b (i + 1) = if (dig a i : Int) - dig b i - bor a b i < 0 then 1 else 0 := by
 have hp := pow_pos' i
 have h1 := Nat.mod_lt a hp
 have h2 := Nat.mod_lt b hp
 have key : a % 65536 ^ (i + 1) < b % 65536 ^ (i + 1) ↔ (dig a i : Int) - dig b i - bor a b i < 0 := by
  rw [mod_succ, mod_succ]
  unfold bor
  generalize dig a i = x
  generalize dig b i = y
  generalize a % 65536 ^ i = r at *
  generalize b % 65536 ^ i = t at *
  generalize 65536 ^ i = P at *
  rcases Nat.lt_trichotomy x y with g | g | g
  ·have := Nat.mul_le_mul_left P (Nat.succ_le_of_lt g)
   rw [Nat.succ_eq_add_one, Nat.mul_add, Nat.mul_one] at this
   constructor
   ·intro _; split <;> omega
   ·intro _; omega
  ·subst g
   split <;> omega
  ·have := Nat.mul_le_mul_left P (Nat.succ_le_of_lt g)
   rw [Nat.succ_eq_add_one, Nat.mul_add, Nat.mul_one] at this
   constructor
   ·intro _; omega
   ·intro hh; exfalso; revert hh; split <;> omega
 show (if a % 65536 ^ (i + 1) < b % 65536 ^ (i + 1) then 1 else 0) = _
 by_cases c : a % 65536 ^ (i + 1) < b % 65536 ^ (i + 1)
 ·rw [if_pos c, if_pos (key.1 c)]
 ·rw [if_neg c, if_neg (fun d => c (key.2 d))]
theorem bor_zero (a b : Nat) : bor a b 0 = 0 := by simp [bor]; omega
/-- Halves. -/
theorem dig_half (a i : Nat) : dig (a / 2) i = dig a i / 2 + dig a (i + 1) % 2 * 32768 := by
 unfold dig
 rw [div_succ, Nat.div_div_eq_div_mul, Nat.mul_comm 2, ← Nat.div_div_eq_div_mul]
 omega
/-- Powers of the base. -/
theorem dig_shift_low {s z i : Nat} (h : i < z) : dig (s * 65536 ^ z) i = 0 := by
 unfold dig
 rw [show z = i + ((z - i - 1) + 1) by omega, Nat.pow_add, Nat.pow_succ, ← Nat.mul_assoc, Nat.mul_comm s, Nat.mul_assoc, Nat.mul_div_cancel_left _ (pow_pos' i), ← Nat.mul_assoc, Nat.mul_mod_left]
theorem dig_shift (s z i : Nat) : dig (s * 65536 ^ z) (z + i) = dig s i := by
 unfold dig
 rw [Nat.pow_add, ← Nat.div_div_eq_div_mul, Nat.mul_div_cancel _ (pow_pos' z)]
theorem nd_shift {s : Nat} (h : s ≠ 0) (z : Nat) : nd (s * 65536 ^ z) = z + nd s := by
 apply Nat.le_antisymm
 ·rw [nd_le, Nat.add_comm z, Nat.pow_add]
  exact Nat.mul_lt_mul_of_pos_right (lt_nd s) (pow_pos' z)
 ·have h1 := nd_pos.2 h
  have h2 := top_ne h
  rw [← dig_shift s z] at h2
  have := nd_of_dig h2; omega
/-- Bits. -/
def bits (n : Nat) : Nat := if n = 0 then 0 else n.log2 + 1
theorem bits_half {x : Nat} (h : 0 < x) : bits x = bits (x / 2) + 1 := by
 unfold bits
 rw [if_neg (by omega)]
 split
 ·have : x = 1 := by omega
  subst this; decide
 ·rw [Nat.log2_def, if_pos (by omega)]
theorem bits_top {n : Nat} (h : n ≠ 0) : bits n = 16 * (nd n - 1) + bits (dig n (nd n - 1)) := by
 have h1 := nd_pos.2 h
 have ht := top_ne h
 have hd : dig n (nd n - 1) = n / 65536 ^ (nd n - 1) := by
  have h4 := div_dig n (nd n - 1)
  rw [show nd n - 1 + 1 = nd n by omega, Nat.div_eq_of_lt (lt_nd n)] at h4; omega
 have hn : nd n - 1 = n.log2 / 16 := by unfold nd; rw [if_neg h]; omega
 unfold bits
 rw [if_neg h, if_neg ht, hd, pow16, hn]
 rw [hd, pow16, hn] at ht
 have : (n / 2 ^ (16 * (n.log2 / 16))).log2 = n.log2 - 16 * (n.log2 / 16) := by
  rw [Nat.log2_eq_iff ht]
  have e := (Nat.log2_eq_iff (n := n) (k := n.log2) h).1 rfl
  constructor
  ·rw [Nat.le_div_iff_mul_le (Nat.two_pow_pos _), ← Nat.pow_add, show n.log2 - 16 * (n.log2 / 16) + 16 * (n.log2 / 16) = n.log2 by omega]; exact e.1
  ·rw [Nat.div_lt_iff_lt_mul (Nat.two_pow_pos _), ← Nat.pow_add, show n.log2 - 16 * (n.log2 / 16) + 1 + 16 * (n.log2 / 16) = n.log2 + 1 by omega]; exact e.2
 omega
end Go.Proofs.YtakcpnpeadkfpaaGreatDoor.Lg
