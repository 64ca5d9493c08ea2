import Ieee.Arith
namespace Go.Proofs.YtmoabbfdehaenaaGreatDoor.Rl
open Go Ieee
theorem signed_mul (s : Bool) (m u k : Nat) : signed s m (u + k) = signed s m u * (2 ^ k : Nat) := by
  unfold signed
  cases s <;> simp [Nat.shiftLeft_eq, Nat.pow_add, ← Nat.mul_assoc, Int.neg_mul]
theorem c_lt (x y : Int) : compare x y = .lt ↔ x < y := by
  show compareOfLessAndEq x y = .lt ↔ _
  unfold compareOfLessAndEq
  split
  · simp [*]
  · split <;> simp <;> omega
theorem c_eq (x y : Int) : compare x y = .eq ↔ x = y := by
  show compareOfLessAndEq x y = .eq ↔ _
  unfold compareOfLessAndEq
  split
  · simp; omega
  · split <;> simp [*]
theorem c_gt (x y : Int) : compare x y = .gt ↔ y < x := by
  show compareOfLessAndEq x y = .gt ↔ _
  unfold compareOfLessAndEq
  split
  · simp; omega
  · split <;> simp <;> omega
theorem cmp_mul (x y : Int) (k : Nat) (hk : 0 < k) : compare (x * (k : Int)) (y * (k : Int)) = compare x y := by
  have hk' : (0 : Int) < k := by omega
  rcases Int.lt_trichotomy x y with h | h | h
  · have h1 : x * (k : Int) < y * k := Int.mul_lt_mul_of_pos_right h hk'
    rw [(c_lt _ _).2 h, (c_lt _ _).2 h1]
  · subst h; simp
  · have h1 : y * (k : Int) < x * k := Int.mul_lt_mul_of_pos_right h hk'
    rw [(c_gt _ _).2 h, (c_gt _ _).2 h1]
/-- The class of a datum, and its value in units of a place. -/
def cls : Datum → Int | .infinity s => if s then -1 else 1 | _ => 0
def val (L : Int) : Datum → Int | .number s m i => signed s m (i - L).toNat | _ => 0
def fine (L : Int) : Datum → Prop | .number _ _ i => L ≤ i | .infinity _ => True | .nan _ _ => False
theorem order_eq {L : Int} {d e : Datum} (hd : fine L d) (he : fine L e) : d.order e = some (if cls d < cls e then .lt else if cls e < cls d then .gt else compare (val L d) (val L e)) := by
  cases d with
  | nan => exact hd.elim
  | infinity s =>
    cases e with
    | nan => exact he.elim
    | infinity t => cases s <;> cases t <;> rfl
    | number t n j => cases s <;> rfl
  | number s m i =>
    cases e with
    | nan => exact he.elim
    | infinity t => cases t <;> rfl
    | number t n j =>
      have hd : L ≤ i := hd
      have he : L ≤ j := he
      show some (compare (signed s m (i - min i j).toNat) (signed t n (j - min i j).toNat)) = some (compare (signed s m (i - L).toNat) (signed t n (j - L).toNat))
      have e1 : (i - L).toNat = (i - min i j).toNat + (min i j - L).toNat := by omega
      have e2 : (j - L).toNat = (j - min i j).toNat + (min i j - L).toNat := by omega
      rw [e1, e2, signed_mul, signed_mul, cmp_mul _ _ _ (Nat.two_pow_pos _)]
theorem fine_read (a : Nat) : fine double.leastPlace (double.read a) ∨ ∃ s t, double.read a = .nan s t := by
  unfold Format.read
  simp only
  split
  · exact .inl (Int.le_refl _)
  · split
    · left
      show double.leastPlace ≤ double.leastPlace + (_ : Nat)
      omega
    · split
      · exact .inl trivial
      · exact .inr ⟨_, _, rfl⟩
def lt (a b : Nat) : Bool := (double.read a).order (double.read b) == some .lt
def eq (a b : Nat) : Bool := (double.read a).order (double.read b) == some .eq
def le (a b : Nat) : Bool := lt a b || eq a b
def nan (a : Nat) : Bool := (double.read a).isNaN
theorem nan_iff (a : Nat) : nan a = false ↔ fine double.leastPlace (double.read a) := by
  unfold nan
  rcases fine_read a with h | ⟨s, t, h⟩
  · cases e : double.read a with
    | nan => rw [e] at h; exact h.elim
    | infinity => simp [Datum.isNaN, fine]
    | number => rw [e] at h; simp [Datum.isNaN, h]
  · rw [h]; simp [Datum.isNaN, fine]
theorem lt_iff {a b : Nat} (ha : nan a = false) (hb : nan b = false) : lt a b = true ↔ cls (double.read a) < cls (double.read b) ∨ (cls (double.read a) = cls (double.read b) ∧ val double.leastPlace (double.read a) < val double.leastPlace (double.read b)) := by
  unfold lt
  rw [order_eq ((nan_iff a).1 ha) ((nan_iff b).1 hb)]
  by_cases h1 : cls (double.read a) < cls (double.read b)
  · simp [h1]
  · rw [if_neg h1]
    by_cases h2 : cls (double.read b) < cls (double.read a)
    · simp [h2, h1]; omega
    · rw [if_neg h2]
      have e : cls (double.read a) = cls (double.read b) := by omega
      simp [e, c_lt]
theorem eq_iff {a b : Nat} (ha : nan a = false) (hb : nan b = false) : eq a b = true ↔ cls (double.read a) = cls (double.read b) ∧ val double.leastPlace (double.read a) = val double.leastPlace (double.read b) := by
  unfold eq
  rw [order_eq ((nan_iff a).1 ha) ((nan_iff b).1 hb)]
  by_cases h1 : cls (double.read a) < cls (double.read b)
  · simp [h1]; omega
  · rw [if_neg h1]
    by_cases h2 : cls (double.read b) < cls (double.read a)
    · simp [h2]; omega
    · rw [if_neg h2]
      have e : cls (double.read a) = cls (double.read b) := by omega
      simp [e]
theorem order_nan_left {a b : Nat} (h : nan a = true) : (double.read a).order (double.read b) = none := by
  unfold nan at h
  cases e : double.read a with
  | nan => cases double.read b <;> rfl
  | infinity => rw [e] at h; simp [Datum.isNaN] at h
  | number => rw [e] at h; simp [Datum.isNaN] at h
theorem order_nan_right {a b : Nat} (h : nan b = true) : (double.read a).order (double.read b) = none := by
  unfold nan at h
  cases e : double.read b with
  | nan => cases double.read a <;> rfl
  | infinity => rw [e] at h; simp [Datum.isNaN] at h
  | number => rw [e] at h; simp [Datum.isNaN] at h
/-- One sign turned. -/
theorem read_opp {a b : Nat} (hs : (b / double.signWeight % 2 == 1) = !(a / double.signWeight % 2 == 1)) (hr : b % double.signWeight = a % double.signWeight) : double.read b = (double.read a).opposite := by
  unfold Format.read
  simp only [hs, hr]
  split
  · rfl
  · split
    · rfl
    · split <;> rfl
theorem cls_opp (d : Datum) : cls d.opposite = - cls d := by
  cases d with
  | infinity s => cases s <;> rfl
  | _ => rfl
theorem val_opp (L : Int) (d : Datum) : val L d.opposite = - val L d := by
  cases d with
  | number s m i => cases s <;> simp [Datum.opposite, val, signed]
  | _ => rfl
theorem nan_opp {a b : Nat} (h : double.read b = (double.read a).opposite) : nan b = nan a := by
  unfold nan; rw [h]; cases double.read a <;> rfl
theorem lt_opp {a b a' b' : Nat} (ha : double.read a' = (double.read a).opposite) (hb : double.read b' = (double.read b).opposite) : lt b' a' = lt a b := by
  cases h1 : nan a with
  | true => unfold lt; rw [order_nan_left h1, order_nan_right (by rw [nan_opp ha]; exact h1)]
  | false =>
    cases h2 : nan b with
    | true => unfold lt; rw [order_nan_right h2, order_nan_left (by rw [nan_opp hb]; exact h2)]
    | false =>
      have := lt_iff h1 h2
      have h3 := lt_iff (a := b') (b := a') (by rw [nan_opp hb]; exact h2) (by rw [nan_opp ha]; exact h1)
      rw [ha, hb, cls_opp, cls_opp, val_opp, val_opp] at h3
      rw [Bool.eq_iff_iff, this, h3]
      omega
/-- What the law RealOrder says of two numbers, and of three. -/
theorem tri (a b : Nat) : (nan a || nan b) = false → ((lt a b = true ∧ lt b a = false ∧ eq a b = false) ∨ (lt a b = false ∧ lt b a = true ∧ eq a b = false) ∨ (lt a b = false ∧ lt b a = false ∧ eq a b = true)) := fun h => by
  rw [Bool.or_eq_false_iff] at h
  have h1 := lt_iff h.1 h.2
  have h2 := lt_iff h.2 h.1
  have h3 := eq_iff h.1 h.2
  cases e1 : lt a b <;> cases e2 : lt b a <;> cases e3 : eq a b <;> simp [e1, e2, e3] at h1 h2 h3 ⊢ <;> omega
theorem no (a b : Nat) : (nan a || nan b) = true → lt a b = false ∧ lt b a = false ∧ eq a b = false := fun h => by
  unfold lt eq
  rcases (Bool.or_eq_true_iff.1 h) with h | h
  · rw [order_nan_left h, order_nan_right h]; simp
  · rw [order_nan_right h, order_nan_left h]; simp
theorem le_trans {a b c : Nat} (h1 : le a b = true) (h2 : le b c = true) : le a c = true := by
  have g1 : (nan a || nan b) = false := by
    cases h : (nan a || nan b) with
    | false => rfl
    | true => obtain ⟨x, _, y⟩ := no a b h; simp [le, x, y] at h1
  have g2 : (nan b || nan c) = false := by
    cases h : (nan b || nan c) with
    | false => rfl
    | true => obtain ⟨x, _, y⟩ := no b c h; simp [le, x, y] at h2
  rw [Bool.or_eq_false_iff] at g1 g2
  unfold le at *
  rw [Bool.or_eq_true_iff, lt_iff g1.1 g1.2, eq_iff g1.1 g1.2] at h1
  rw [Bool.or_eq_true_iff, lt_iff g2.1 g2.2, eq_iff g2.1 g2.2] at h2
  rw [Bool.or_eq_true_iff, lt_iff g1.1 g2.2, eq_iff g1.1 g2.2]
  omega
end Go.Proofs.YtmoabbfdehaenaaGreatDoor.Rl
