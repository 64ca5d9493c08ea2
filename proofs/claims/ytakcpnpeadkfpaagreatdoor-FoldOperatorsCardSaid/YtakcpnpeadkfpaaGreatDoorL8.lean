/- The nearest real by long numbers is the nearest one of IEEE 754. -/
import Derived.Test.YtakcpnpeadkfpaaGreatDoorL7
import Derived.Test.YtakcpnpeadkfpaaGreatDoorEd
set_option linter.unusedVariables false
namespace Go.Proofs.YtakcpnpeadkfpaaGreatDoor.Lg
open Ieee
theorem pk_eq {i : Int} {r : Nat} (h1 : -1074 ≤ i) (h2 : r ≤ 2 ^ 53) (h3 : i = -1074 ∨ 2 ^ 52 ≤ r) : pk i r = min ((i - double.leastPlace).toNat * double.binade + r) double.infRung := by
 have hb : double.binade = 2 ^ 52 := rfl
 have hp : double.leastPlace = -1074 := by decide
 have hi : double.infRung = 2047 * 2 ^ 52 := by decide
 obtain ⟨k, hk⟩ : ∃ k : Nat, i = (k : Int) - 1074 := ⟨(i + 1074).toNat, by omega⟩
 subst hk
 rw [hp, hb, hi, show ((k : Int) - 1074 - -1074).toNat = k by omega]
 unfold pk pk1
 split
 ·rename_i g
  subst g
  rw [if_neg (by omega)]
  split
  ·rw [Nat.min_eq_right (by omega)]
  ·rw [show ((k : Int) - 1074 + 1 + 1075).toNat = k + 2 by omega, Nat.min_eq_left (by omega)]; omega
 ·split
  ·rename_i g
   have : k = 0 := by omega
   subst this
   rw [Nat.min_eq_left (by omega)]; omega
  ·split
   ·rw [Nat.min_eq_right (by omega)]
   ·rw [show ((k : Int) - 1074 + 1075).toNat = k + 1 by omega, Nat.min_eq_left (by omega)]; omega
theorem R_le (x y : Nat) : x / y ≤ Rn x y ∧ Rn x y ≤ x / y + 1 := by unfold Rn; split <;> omega
theorem R_small {x y : Nat} (h : 2 * x < y) : Rn x y = 0 := by
 unfold Rn
 rw [Nat.mod_eq_of_lt (by omega), Nat.div_eq_of_lt (by omega), if_neg (by omega)]
theorem cut_R (s : Bool) (n k : Nat) : Toward.even.cut s n k = Rn n (2 ^ k) := by
 have key : ∀ j, Toward.even.cut s n k = (n / 2 ^ j + (2 ^ j < 2 * (n % 2 ^ j) || (2 ^ j == 2 * (n % 2 ^ j) && n / 2 ^ j % 2 == 1)).toNat) → Toward.even.cut s n k = Rn n (2 ^ j) := fun j e => by
  rw [e]
  unfold Rn
  by_cases h : 2 ^ j < 2 * (n % 2 ^ j) ∨ (2 * (n % 2 ^ j) = 2 ^ j ∧ n / 2 ^ j % 2 = 1)
  ·rw [if_pos h]
   have : (decide (2 ^ j < 2 * (n % 2 ^ j)) || (2 ^ j == 2 * (n % 2 ^ j) && n / 2 ^ j % 2 == 1)) = true := by
    rcases h with h | ⟨h, h'⟩
    ·simp [h]
    ·simp [h, h']
   rw [this]; rfl
  ·rw [if_neg h]
   have : (decide (2 ^ j < 2 * (n % 2 ^ j)) || (2 ^ j == 2 * (n % 2 ^ j) && n / 2 ^ j % 2 == 1)) = false := by
    rw [Bool.eq_false_iff]
    intro c
    simp at c
    apply h
    rcases c with c | ⟨c, c'⟩
    ·exact .inl c
    ·exact .inr ⟨c.symm, c'⟩
   rw [this]; rfl
 have e : Toward.even.cut s n k = (n / 2 ^ min k (n.log2 + 2) + (2 ^ min k (n.log2 + 2) < 2 * (n % 2 ^ min k (n.log2 + 2)) || (2 ^ min k (n.log2 + 2) == 2 * (n % 2 ^ min k (n.log2 + 2)) && n / 2 ^ min k (n.log2 + 2) % 2 == 1)).toNat) := by
  unfold Toward.cut
  simp only [Nat.one_shiftLeft]
 rw [key _ e]
 rcases Nat.le_total k (n.log2 + 2) with h | h
 ·rw [Nat.min_eq_left h]
 ·rw [Nat.min_eq_right h]
  have hn : n < 2 ^ (n.log2 + 1) := Nat.lt_log2_self
  have h2 : 2 ^ (n.log2 + 2) ≤ 2 ^ k := Nat.pow_le_pow_right (by omega) h
  have h3 : 2 ^ (n.log2 + 2) = 2 * 2 ^ (n.log2 + 1) := by rw [Nat.pow_succ 2 (n.log2 + 1)]; omega
  rw [R_small (by omega), R_small (by omega)]
theorem Q_one_lt {a : Nat} (ha : a ≠ 0) (u : Int) (t : Nat) : Qn a 1 u < 2 ^ t ↔ (a.log2 : Int) + u < t := by
 have h := (Nat.log2_eq_iff ha).1 rfl
 unfold Qn Xn Yn
 rw [Nat.one_mul]
 rcases (show 0 ≤ u ∨ u < 0 by omega) with g | g
 ·rw [show (-u).toNat = 0 by omega, Nat.pow_zero, Nat.div_one]
  obtain ⟨k, rfl⟩ : ∃ k : Nat, u = k := ⟨u.toNat, by omega⟩
  rw [show ((k : Int)).toNat = k by omega, ← Nat.log2_lt (Nat.mul_ne_zero ha (Nat.pos_iff_ne_zero.1 (Nat.two_pow_pos k))), Rl.log2_mul _ _ ha]
  omega
 ·rw [show u.toNat = 0 by omega, Nat.pow_zero, Nat.mul_one, Nat.div_lt_iff_lt_mul (Nat.two_pow_pos _), ← Nat.pow_add, ← Nat.log2_lt ha]
  omega
theorem near_place {a : Nat} {e u : Int} (ha : a ≠ 0) (P : Place a 1 e u) (s : Bool) : double.nearest s a e = double.word s (pk (e - u) (Rn (Xn a u) (Yn 1 u))) := by
 have hp : double.leastPlace = -1074 := by decide
 obtain ⟨p1, p2, p3⟩ := P
 have l1 := (Q_one_lt ha u 53).1 p2
 have last : max (e + (a.log2 : Nat) - (double.fractionBits : Nat)) double.leastPlace = e - u := by
  show max (e + (a.log2 : Int) - 52) double.leastPlace = e - u
  rcases p3 with p3 | p3
  ·omega
  ·have : ¬ ((a.log2 : Int) + u < (52 : Nat)) := fun c => by have := (Q_one_lt ha u 52).2 c; omega
   omega
 unfold Format.nearest
 rw [if_neg ha]
 simp only [last]
 rw [show (e - (e - u)).toNat = u.toNat by congr 1; omega, show (e - u - e).toNat = (-u).toNat by congr 1; omega, cut_R, Nat.shiftLeft_eq]
 have hx : a * 2 ^ u.toNat = Xn a u := rfl
 have hy : 2 ^ (-u).toNat = Yn 1 u := by unfold Yn; rw [Nat.one_mul]
 have hR := R_le (Xn a u) (Yn 1 u)
 have hQ : Xn a u / Yn 1 u = Qn a 1 u := rfl
 rw [hx, hy, pk_eq p1 (by omega) (by omega)]
theorem Rn_scale {x y x' y' : Nat} (hy : 0 < y) (hy' : 0 < y') (h : x * y' = x' * y) : Rn x y = Rn x' y' := by
 have e1 := Nat.div_add_mod x y
 have e2 := Nat.div_add_mod x' y'
 have m1 := Nat.mod_lt x hy
 have m2 := Nat.mod_lt x' hy'
 have hq : x / y = x' / y' := by
  have a1 : x / y = x * y' / (y * y') := by rw [Nat.mul_div_mul_right _ _ hy']
  have a2 : x' / y' = x' * y / (y' * y) := by rw [Nat.mul_div_mul_right _ _ hy]
  rw [a1, a2, h, Nat.mul_comm y y']
 have hr : x % y * y' = x' % y' * y := by
  have b1 : x % y * y' = x * y' - y * (x / y) * y' := by rw [← Nat.sub_mul]; congr 1; omega
  have b2 : x' % y' * y = x' * y - y' * (x' / y') * y := by rw [← Nat.sub_mul]; congr 1; omega
  rw [b1, b2, h, hq]
  congr 1
  rw [Nat.mul_right_comm y, Nat.mul_comm y y', Nat.mul_right_comm y' _ y]
 have cmp : ∀ (p q : Nat), (y < 2 * (x % y) ↔ y' < 2 * (x' % y')) ∧ (2 * (x % y) = y ↔ 2 * (x' % y') = y') := fun _ _ => by
  have c1 : y * y' < 2 * (x % y) * y' ↔ y < 2 * (x % y) := Nat.mul_lt_mul_right hy'
  have c2 : y' * y < 2 * (x' % y') * y ↔ y' < 2 * (x' % y') := Nat.mul_lt_mul_right hy
  have c3 : 2 * (x % y) * y' = y * y' ↔ 2 * (x % y) = y := Nat.mul_left_inj (by omega)
  have c4 : 2 * (x' % y') * y = y' * y ↔ 2 * (x' % y') = y' := Nat.mul_left_inj (by omega)
  rw [← c1, ← c2, ← c3, ← c4, Nat.mul_assoc, Nat.mul_assoc, hr, Nat.mul_comm y y']
  exact ⟨Iff.rfl, Iff.rfl⟩
 obtain ⟨d1, d2⟩ := cmp 0 0
 unfold Rn
 rw [hq]
 by_cases c : y < 2 * (x % y) ∨ 2 * (x % y) = y ∧ x' / y' % 2 = 1
 ·rw [if_pos c, if_pos (by rw [← d1, ← d2]; exact c)]
 ·rw [if_neg c, if_neg (by rw [← d1, ← d2]; exact c)]
/-- A quotient's last digit tells whether something is left. -/
theorem Rn_sticky {d n k : Nat} (hn : 0 < n) (hk : 1 ≤ k) : Rn (2 * (d / n) + (d % n != 0).toNat) (2 ^ (k + 1)) = Rn d (n * 2 ^ k) := by
 obtain ⟨j, rfl⟩ : ∃ j, k = j + 1 := ⟨k - 1, by omega⟩
 have hp : 2 ^ (j + 1) = 2 * 2 ^ j := by rw [Nat.pow_succ]; omega
 have hp2 : 2 ^ (j + 1 + 1) = 4 * 2 ^ j := by rw [Nat.pow_succ, Nat.pow_succ]; omega
 have hp0 : 0 < 2 ^ j := Nat.two_pow_pos j
 have hm := Nat.mod_lt d hn
 have e1 : d % (n * 2 ^ (j + 1)) = d % n + n * (d / n % 2 ^ (j + 1)) := Nat.mod_mul
 have e2 : d / (n * 2 ^ (j + 1)) = d / n / 2 ^ (j + 1) := by rw [Nat.div_div_eq_div_mul]
 have hst : (d % n != 0).toNat = if d % n = 0 then 0 else 1 := by
  by_cases c : d % n = 0 <;> simp [c]
 generalize d % n = c at *
 generalize hg : d / n = g at *
 have e3 : (2 * g + (c != 0).toNat) / 2 ^ (j + 1 + 1) = g / 2 ^ (j + 1) := by
  rw [show 2 ^ (j + 1 + 1) = 2 * 2 ^ (j + 1) by rw [Nat.pow_succ 2 (j + 1)]; omega, ← Nat.div_div_eq_div_mul]
  congr 1
  rw [hst]; split <;> omega
 have e4 : (2 * g + (c != 0).toNat) % 2 ^ (j + 1 + 1) = 2 * (g % 2 ^ (j + 1)) + (c != 0).toNat := by
  rw [show 2 ^ (j + 1 + 1) = 2 * 2 ^ (j + 1) by rw [Nat.pow_succ 2 (j + 1)]; omega, Nat.mod_mul]
  have f1 : (2 * g + (c != 0).toNat) / 2 = g := by rw [hst]; split <;> omega
  have f2 : (2 * g + (c != 0).toNat) % 2 = (c != 0).toNat := by rw [hst]; split <;> omega
  rw [f1, f2]; omega
 unfold Rn
 rw [e1, e2, e3, e4, hp2, hp, hst]
 generalize g % (2 * 2 ^ j) = t
 generalize g / (2 * 2 ^ j) = q
 have c1 : (4 * 2 ^ j < 2 * (2 * t + if c = 0 then 0 else 1)) ↔ (n * (2 * 2 ^ j) < 2 * (c + n * t)) := by
  generalize 2 ^ j = p at *
  rcases Nat.lt_trichotomy t p with h | h | h
  ·have := Nat.mul_le_mul_left n (Nat.succ_le_of_lt h)
   rw [Nat.succ_eq_add_one, Nat.mul_add, Nat.mul_one] at this
   rw [← Nat.mul_assoc, Nat.mul_comm n 2, Nat.mul_assoc]
   constructor
   ·intro x; exfalso; revert x; split <;> omega
   ·intro x; omega
  ·subst h
   rw [← Nat.mul_assoc, Nat.mul_comm n 2, Nat.mul_assoc]
   split <;> omega
  ·have := Nat.mul_le_mul_left n (Nat.succ_le_of_lt h)
   rw [Nat.succ_eq_add_one, Nat.mul_add, Nat.mul_one] at this
   rw [← Nat.mul_assoc, Nat.mul_comm n 2, Nat.mul_assoc]
   constructor
   ·intro x; omega
   ·intro x; split <;> omega
 have c2 : (2 * (2 * t + if c = 0 then 0 else 1) = 4 * 2 ^ j) ↔ (2 * (c + n * t) = n * (2 * 2 ^ j)) := by
  generalize 2 ^ j = p at *
  rw [← Nat.mul_assoc n, Nat.mul_comm n 2, Nat.mul_assoc]
  rcases Nat.lt_trichotomy t p with h | h | h
  ·have := Nat.mul_le_mul_left n (Nat.succ_le_of_lt h)
   rw [Nat.succ_eq_add_one, Nat.mul_add, Nat.mul_one] at this
   constructor
   ·intro x; exfalso; revert x; split <;> omega
   ·intro x; omega
  ·subst h
   split <;> omega
  ·have := Nat.mul_le_mul_left n (Nat.succ_le_of_lt h)
   rw [Nat.succ_eq_add_one, Nat.mul_add, Nat.mul_one] at this
   constructor
   ·intro x; exfalso; revert x; split <;> omega
   ·intro x; omega
 by_cases h : 4 * 2 ^ j < 2 * (2 * t + if c = 0 then 0 else 1) ∨ 2 * (2 * t + if c = 0 then 0 else 1) = 4 * 2 ^ j ∧ q % 2 = 1
 ·rw [if_pos h, if_pos (by rw [← c1, ← c2]; exact h)]
 ·rw [if_neg h, if_neg (by rw [← c1, ← c2]; exact h)]
theorem near_quot {m n : Nat} {i j u : Int} (hm : m ≠ 0) (hn : n ≠ 0) (P : Place m n (i - j) u) (s : Bool) :
  double.nearest s (2 * ((m <<< (54 + n.log2 - m.log2)) / n) + ((m <<< (54 + n.log2 - m.log2)) % n != 0).toNat) (i - j - (54 + n.log2 - m.log2 : Nat) - 1) = double.word s (pk (i - j - u) (Rn (Xn m u) (Yn n u))) := by
 obtain ⟨p1, p2, p3⟩ := P
 have hn0 : 0 < n := Nat.pos_of_ne_zero hn
 rw [Nat.shiftLeft_eq]
 generalize hmore : 54 + n.log2 - m.log2 = more
 have hQ : m * 2 ^ more / n = Qn m n more := by
  unfold Qn Xn Yn
  rw [show ((more : Int)).toNat = more by omega, show (-(more : Int)).toNat = 0 by omega, Nat.pow_zero, Nat.mul_one]
 have hbig : 2 ^ 53 ≤ m * 2 ^ more / n := by
  rw [Nat.le_div_iff_mul_le hn0]
  have l1 := (Nat.log2_eq_iff hm).1 rfl
  have l2 := (Nat.log2_eq_iff hn).1 rfl
  refine Nat.le_trans (Nat.mul_le_mul_left _ (Nat.le_of_lt l2.2)) (Nat.le_trans ?_ (Nat.mul_le_mul_right _ l1.1))
  rw [← Nat.pow_add, ← Nat.pow_add]
  exact Nat.pow_le_pow_right (by omega) (by omega)
 have hu : u < more := by
  rcases (show u < more ∨ (more : Int) ≤ u by omega) with g | g
  ·exact g
  ·have := Q_mono (a := m) (b := n) g
   rw [← hQ] at this; omega
 obtain ⟨k, hk⟩ : ∃ k : Nat, (k : Int) = more - u := ⟨(more - u).toNat, by omega⟩
 have hd : Qn m n u = m * 2 ^ more / n / 2 ^ k := by
  have := Q_down m n more k
  rw [show (more : Int) - k = u by omega, ← hQ] at this; exact this
 have hk1 : 1 ≤ k := by omega
 generalize hM : 2 * (m * 2 ^ more / n) + (m * 2 ^ more % n != 0).toNat = M
 have hM0 : M ≠ 0 := by omega
 have hR : Rn M (2 ^ (k + 1)) = Rn (Xn m u) (Yn n u) := by
  rw [← hM, Rn_sticky hn0 hk1]
  refine Rn_scale (Nat.mul_pos hn0 (Nat.two_pow_pos k)) (Y_pos hn0 u) ?_
  unfold Xn Yn
  have : more + (-u).toNat = u.toNat + k := by omega
  have e : 2 ^ more * 2 ^ (-u).toNat = 2 ^ u.toNat * 2 ^ k := by rw [← Nat.pow_add, ← Nat.pow_add, this]
  calc m * 2 ^ more * (n * 2 ^ (-u).toNat) = m * n * (2 ^ more * 2 ^ (-u).toNat) := Nat.mul_mul_mul_comm ..
   _ = m * n * (2 ^ u.toNat * 2 ^ k) := by rw [e]
   _ = m * 2 ^ u.toNat * (n * 2 ^ k) := (Nat.mul_mul_mul_comm ..).symm
 have hX : Xn M (-((k : Int) + 1)) = M := by
  unfold Xn; rw [show (-((k : Int) + 1)).toNat = 0 by omega, Nat.pow_zero, Nat.mul_one]
 have hY : Yn 1 (-((k : Int) + 1)) = 2 ^ (k + 1) := by
  unfold Yn; rw [show (-(-((k : Int) + 1))).toNat = k + 1 by omega, Nat.one_mul]
 have hQM : Qn M 1 (-((k : Int) + 1)) = Qn m n u := by
  unfold Qn
  rw [hX, hY]
  show M / 2 ^ (k + 1) = Qn m n u
  rw [hd, Nat.pow_succ, Nat.mul_comm, ← Nat.div_div_eq_div_mul]
  congr 1
  rw [← hM]
  have : (m * 2 ^ more % n != 0).toNat ≤ 1 := Bool.toNat_le _
  omega
 have PM : Place M 1 (i - j - more - 1) (-((k : Int) + 1)) := ⟨by omega, by rw [hQM]; exact p2, by
  rw [hQM]
  rcases p3 with p3 | p3
  ·left; omega
  ·right; exact p3⟩
 rw [near_place hM0 PM s, hX, hY, hR, show i - j - (more : Int) - 1 - -((k : Int) + 1) = i - j - u by omega]
end Go.Proofs.YtakcpnpeadkfpaaGreatDoor.Lg
