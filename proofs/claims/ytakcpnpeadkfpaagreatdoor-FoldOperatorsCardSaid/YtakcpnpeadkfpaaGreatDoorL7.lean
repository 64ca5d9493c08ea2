/- Long numbers: what the printed function nearest of the reference answers. -/
import Derived.Test.YtakcpnpeadkfpaaGreatDoorL6
set_option linter.unusedVariables false
set_option linter.unusedSimpArgs false
set_option linter.unusedSectionVars false
namespace Go.Proofs.YtakcpnpeadkfpaaGreatDoor.Lg
open Go Go.Proofs.YtakcpnpeadkfpaaGreatDoor.Ev Go.Proofs.YtakcpnpeadkfpaaGreatDoor.Sx
noncomputable section
theorem find97 : tabS.run 97 = S97 := by kernel_rfl
theorem enter97 (D : CallD) (m : Nat) (a b : AV) (e : Int) (h : HP) : S97 D m [a, b, vI e] h .no = S97_7 D m a b e h := rfl
/-- A fraction, doubled so often. -/
def Xn (a : Nat) (u : Int) : Nat := a * 2 ^ u.toNat
def Yn (b : Nat) (u : Int) : Nat := b * 2 ^ (-u).toNat
def Qn (a b : Nat) (u : Int) : Nat := Xn a u / Yn b u
/-- The nearest whole number, of two the even one. -/
def Rn (x y : Nat) : Nat := if y < 2 * (x % y) ∨ (2 * (x % y) = y ∧ x / y % 2 = 1) then x / y + 1 else x / y
def pk1 (i : Int) (r : Nat) : Nat := if r < 4503599627370496 then r else if 2047 ≤ i + 1075 then 9218868437227405312 else (i + 1075).toNat * 4503599627370496 + r - 4503599627370496
def pk (i : Int) (r : Nat) : Nat := if r = 9007199254740992 then pk1 (i + 1) 4503599627370496 else pk1 i r
/-- The place of a fraction's last digit. -/
def Place (a b : Nat) (e u : Int) : Prop := -1074 ≤ e - u ∧ Qn a b u < 2 ^ 53 ∧ (e - u = -1074 ∨ 2 ^ 52 ≤ Qn a b u)
theorem Y_pos {b : Nat} (h : 0 < b) (u : Int) : 0 < Yn b u := Nat.mul_pos h (Nat.two_pow_pos _)
theorem Q_half (a b : Nat) (u : Int) : Qn a b (u - 1) = Qn a b u / 2 := by
 unfold Qn Xn Yn
 rcases (show 0 < u ∨ u ≤ 0 by omega) with h | h
 ·rw [show (-u).toNat = 0 by omega, show (-(u - 1)).toNat = 0 by omega, show u.toNat = (u - 1).toNat + 1 by omega, Nat.pow_succ, ← Nat.mul_assoc, Nat.pow_zero, Nat.mul_one, Nat.div_div_eq_div_mul, Nat.mul_div_mul_right _ _ (by omega)]
 ·rw [show u.toNat = 0 by omega, show (u - 1).toNat = 0 by omega, show (-(u - 1)).toNat = (-u).toNat + 1 by omega, Nat.pow_succ, ← Nat.mul_assoc, Nat.div_div_eq_div_mul]
theorem Q_down (a b : Nat) (u : Int) (k : Nat) : Qn a b (u - k) = Qn a b u / 2 ^ k := by
 induction k with
 | zero => simp
 | succ k ih => rw [show u - ((k + 1 : Nat) : Int) = u - k - 1 by omega, Q_half, ih, Nat.div_div_eq_div_mul, Nat.pow_succ]
theorem Q_mono {a b : Nat} {u v : Int} (h : u ≤ v) : Qn a b u ≤ Qn a b v := by
 have := Q_down a b v (v - u).toNat
 rw [show v - ((v - u).toNat : Int) = u by omega] at this
 rw [this]; exact Nat.div_le_self _ _
theorem bits_ge {x : Nat} (h : x ≠ 0) : 2 ^ (bits x - 1) ≤ x ∧ x < 2 ^ bits x ∧ 0 < bits x := by
 unfold bits
 rw [if_neg h]
 have := (Nat.log2_eq_iff h).1 rfl
 exact ⟨this.1, this.2, by omega⟩
theorem Q_first {a b : Nat} (ha : a ≠ 0) (hb : b ≠ 0) {u : Int} (hu : u = 53 - (bits a : Int) + (bits b : Int)) : 2 ^ 52 ≤ Qn a b u ∧ Qn a b u < 2 ^ 54 := by
 obtain ⟨a1, a2, a3⟩ := bits_ge ha
 obtain ⟨b1, b2, b3⟩ := bits_ge hb
 have hy : 0 < Yn b u := Y_pos (Nat.pos_of_ne_zero hb) u
 unfold Qn
 rw [Nat.le_div_iff_mul_le hy, Nat.div_lt_iff_lt_mul hy]
 unfold Xn Yn
 have p1 : ∀ k, 0 < 2 ^ k := Nat.two_pow_pos
 rcases (show u < 0 ∨ 0 ≤ u by omega) with h | h
 ·rw [show u.toNat = 0 by omega, Nat.pow_zero, Nat.mul_one]
  constructor
  ·refine Nat.le_trans ?_ a1
   rw [show bits a - 1 = 52 + (bits b + (-u).toNat) by omega, Nat.pow_add, Nat.pow_add]
   exact Nat.mul_le_mul_left _ (Nat.mul_le_mul_right _ (Nat.le_of_lt b2))
  ·refine Nat.lt_of_lt_of_le a2 ?_
   rw [show bits a = 54 + ((bits b - 1) + (-u).toNat) by omega, Nat.pow_add 2 54, Nat.pow_add 2 (bits b - 1)]
   exact Nat.mul_le_mul_left _ (Nat.mul_le_mul_right _ b1)
 ·rw [show (-u).toNat = 0 by omega, Nat.pow_zero, Nat.mul_one]
  constructor
  ·refine Nat.le_trans (Nat.mul_le_mul_left _ (Nat.le_of_lt b2)) (Nat.le_trans ?_ (Nat.mul_le_mul_right _ a1))
   rw [← Nat.pow_add, ← Nat.pow_add]
   exact Nat.pow_le_pow_right (by omega) (by omega)
  ·refine Nat.lt_of_lt_of_le (Nat.mul_lt_mul_of_pos_right a2 (p1 _)) (Nat.le_trans ?_ (Nat.mul_le_mul_left _ b1))
   rw [← Nat.pow_add, ← Nat.pow_add]
   exact Nat.pow_le_pow_right (by omega) (by omega)
theorem nd_two (a q : Nat) : nd (a * 2 ^ q) ≤ nd a + q := by
 rw [nd_le, Nat.pow_add]
 exact Nat.lt_of_lt_of_le (Nat.mul_lt_mul_of_pos_right (lt_nd a) (Nat.two_pow_pos _)) (Nat.mul_le_mul_left _ (Nat.pow_le_pow_left (by omega) q))
theorem wu_nat {n : Nat} (h : n ≤ 18446744073709551615) : wrapF .u64 (Int.ofNat n) = Int.ofNat n := by
 show (bif Nat.ble n 18446744073709551615 then Int.ofNat n else _) = _
 rw [show Nat.ble n 18446744073709551615 = true from by rw [Nat.ble_eq]; omega]
 rfl
theorem wru_nat {n : Nat} (h : n ≤ 18446744073709551615) : wrQ .u64 (Int.ofNat n) = Int.ofNat n := by rw [wrQ_eq, wu_nat h]
abbrev uv (n : Nat) : AV := AV.int .u64 (Int.ofNat n)
theorem near_end1 (D : CallD) (M : Nat) (h : HP) {i : Int} {r : Nat} (h1 : -1074 ≤ i) (h2 : i ≤ 100000) (h3 : r ≤ 9007199254740992) : S97_1 D M i (Int.ofNat r) h = some (.ret (uv (pk1 i r)) h, .no) := by
 unfold S97_1 pk1
 simp only [lt_nat]
 rw [br_if]
 split
 ·rw [wu_nat (by omega)]
 ·simp only [add_dec, le_dec]
  rw [wr_id (by show _ ≤ i + 1075; omega) (by show i + 1075 ≤ _; omega)]
  rw [br_if]
  by_cases g : 2047 ≤ i + 1075
  ·rw [if_pos (show Int.ofNat 2047 ≤ i + Int.ofNat 1075 by show (2047 : Int) ≤ i + 1075; exact g), if_pos g]
  ·rw [if_neg (show ¬ Int.ofNat 2047 ≤ i + Int.ofNat 1075 by show ¬ (2047 : Int) ≤ i + 1075; exact g), if_neg g]
   obtain ⟨k, hk⟩ : ∃ k : Nat, i + 1075 = (k : Int) := ⟨(i + 1075).toNat, by omega⟩
   have hk' : i + Int.ofNat 1075 = Int.ofNat k := hk
   have hk2 : (i + 1075).toNat = k := by omega
   rw [hk', hk2, wu_nat (n := k) (by omega), wu_nat (n := r) (by omega)]
   have m1 : k * 4503599627370496 ≤ 2046 * 4503599627370496 := Nat.mul_le_mul_right _ (by omega)
   simp only [mul_nat]
   rw [wru_nat (n := k * 4503599627370496) (by omega)]
   have m2 : k * 4503599627370496 + r ≤ 18446744073709551615 := Nat.le_trans (Nat.add_le_add m1 h3) (by decide)
   have m3 : 4503599627370496 ≤ k * 4503599627370496 + r := Nat.le_trans (Nat.le_of_not_lt ‹_›) (Nat.le_add_left _ _)
   rw [← add_dec, add_nat, wru_nat (n := k * 4503599627370496 + r) m2, sub_nat (a := k * 4503599627370496 + r) (b := 4503599627370496) m3, wru_nat (n := k * 4503599627370496 + r - 4503599627370496) (Nat.le_trans (Nat.sub_le _ _) m2)]
theorem near_end0 (D : CallD) (M : Nat) (h : HP) {e u : Int} {r : Nat} (h1 : -1074 ≤ e - u) (h2 : e - u ≤ 90000) (h3 : r ≤ 9007199254740992) : S97_0 D M e u (Int.ofNat r) h = some (.ret (uv (pk (e - u) r)) h, .no) := by
 unfold S97_0 pk
 rw [wr_id (by omega) (by omega)]
 simp only [eq_nat]
 rw [br_if]
 split
 ·rename_i g
  subst g
  rw [tdiv_nat, wf_nat (by omega)]
  simp only [add_dec]
  rw [wr_id (by show _ ≤ e - u + 1; omega) (by show e - u + 1 ≤ _; omega)]
  exact near_end1 D M h (i := e - u + 1) (by omega) (by omega) (by omega)
 ·exact near_end1 D M h h1 (by omega) h3
theorem cmp_gt (a b : Nat) : ltQ (Int.ofNat 0) (cmpN a b) = decide (b < a) := by
 unfold cmpN
 rw [lt_dec]
 split
 ·rw [decide_eq_false (by decide), decide_eq_false (by omega)]
 ·split
  ·rw [decide_eq_true (by decide), decide_eq_true (by omega)]
  ·rw [decide_eq_false (by decide), decide_eq_false (by omega)]
theorem cmp_eq (a b : Nat) : eqQ (cmpN a b) (Int.ofNat 0) = decide (a = b) := by
 unfold cmpN
 rw [eq_dec]
 split
 ·rw [decide_eq_false (by decide), decide_eq_false (by omega)]
 ·split
  ·rw [decide_eq_false (by decide), decide_eq_false (by omega)]
  ·rw [decide_eq_true (by decide), decide_eq_true (by omega)]
theorem obBV_and (c d : Bool) (F : Bool → Option AV) : obBV (brV c (some (vB d)) (some (vB false))) F = F (c && d) := by cases c <;> rfl
def RetW (r : Res2) (h : HP) (n : Nat) : Prop := ∃ h', r = some (.ret (uv n) h', .no) ∧ Wf h' ∧ Le h h'
/-- One round, from where the place is settled. -/
theorem near_round {h : HP} (w : Wf h) {va vb : AV} {a b : Nat} (xa : IsN h va a) (xb : IsN h vb b) (hb0 : 0 < b) {e u : Int} (hq : Qn a b u < 2 ^ 54) (ha : nd a ≤ 400) (hb : nd b ≤ 400) (hu : -8000 ≤ u ∧ u ≤ 8000) (he : -1074 ≤ e - u ∧ e - u ≤ 90000) (n : Nat) (hn : 20000 < n) (G : AV → AV → Int → Int → HP → Res2) (M : Nat) :
  (Qn a b u < 2 ^ 53 → RetW (S97_3 (SF tabS (n + 4)) M G va vb e u h) h (pk (e - u) (Rn (Xn a u) (Yn b u)))) ∧ (2 ^ 53 ≤ Qn a b u → ∃ h', Wf h' ∧ Le h h' ∧ S97_3 (SF tabS (n + 4)) M G va vb e u h = G va vb e (u - 1) h') := by
 have key : ∀ h1 vx vy, Wf h1 → Le h h1 → IsN h1 vx (Xn a u) → IsN h1 vy (Yn b u) →
   (Qn a b u < 2 ^ 53 → RetW (S97_4 (SF tabS (n + 4)) M G va vb e u vx vy h1) h (pk (e - u) (Rn (Xn a u) (Yn b u)))) ∧ (2 ^ 53 ≤ Qn a b u → ∃ h', Wf h' ∧ Le h h' ∧ S97_4 (SF tabS (n + 4)) M G va vb e u vx vy h1 = G va vb e (u - 1) h') := by
  intro h1 vx vy w1 le1 xx xy
  have nx : nd (Xn a u) ≤ 8400 := Nat.le_trans (nd_two a _) (by omega)
  have ny : nd (Yn b u) ≤ 8400 := Nat.le_trans (nd_two b _) (by omega)
  have hy := Y_pos hb0 u
  unfold S97_4
  obtain ⟨vl, h2, e2, w2, le2, xl⟩ := sf_divide w1 xx xy hy (show Xn a u / Yn b u < 2 ^ 57 from Nat.lt_trans hq (by decide)) (B := 10000) (by omega) (by omega) (by omega) n (by omega)
  rw [cal_of e2]
  have hQ : Xn a u / Yn b u = Qn a b u := rfl
  rw [hQ]
  show (Qn a b u < 2 ^ 53 → RetW (br (ltQ (Int.ofNat (Qn a b u)) (Int.ofNat 9007199254740992)) _ _) h _) ∧ (2 ^ 53 ≤ Qn a b u → ∃ h', Wf h' ∧ Le h h' ∧ br (ltQ (Int.ofNat (Qn a b u)) (Int.ofNat 9007199254740992)) _ _ = _)
  rw [lt_nat]
  constructor
  ·intro g
   rw [decide_eq_true g, br_t]
   have nl : nd (Xn a u % Yn b u) ≤ 8400 := Nat.le_trans (nd_mono (Nat.le_of_lt (Nat.mod_lt _ hy))) ny
   obtain ⟨vt, h3, e3, w3, le3, xt, _⟩ := sf_twice w2 xl (q := 1) (by omega) (by omega) (n + 1) (by omega)
   rw [cal_of e3]
   have nt : nd (Xn a u % Yn b u * 2 ^ 1) ≤ 8401 := Nat.le_trans (nd_two _ _) (by omega)
   rw [cal_of (sf_cmp xt ((xy.mono le2).mono le3) (n + 2) ⟨by omega, by omega⟩ ⟨by omega, by omega⟩), asI_iv]
   simp only [cmp_gt, cmp_eq, tmod_nat, eq_nat]
   rw [or_V (d := decide (Xn a u % Yn b u * 2 ^ 1 = Yn b u) && decide (Qn a b u % 2 = 1)) (by rw [obBV_and]), ← Bool.decide_and, ← Bool.decide_or, br_if]
   have e4 : ∀ r : Nat, r ≤ 9007199254740992 → r = Rn (Xn a u) (Yn b u) → RetW (S97_6 (SF tabS (n + 4)) M G e u (Int.ofNat r) h3) h (pk (e - u) (Rn (Xn a u) (Yn b u))) := fun r hr er => by
    unfold S97_6
    rw [near_end0 (SF tabS (n + 4)) M h3 he.1 he.2 hr, er]
    exact ⟨h3, rfl, w3, le1.trans (le2.trans le3)⟩
   have e5 : Rn (Xn a u) (Yn b u) = if Yn b u < Xn a u % Yn b u * 2 ^ 1 ∨ Xn a u % Yn b u * 2 ^ 1 = Yn b u ∧ Qn a b u % 2 = 1 then Qn a b u + 1 else Qn a b u := by
    unfold Rn
    rw [show 2 * (Xn a u % Yn b u) = Xn a u % Yn b u * 2 ^ 1 by omega]; rfl
   split
   ·rename_i c
    simp only [add_nat]
    rw [wr_nat (by omega)]
    exact e4 _ (by omega) (by rw [e5, if_pos c])
   ·rename_i c
    exact e4 _ (by omega) (by rw [e5, if_neg c])
  ·intro g
   rw [decide_eq_false (by omega), br_f]
   unfold S97_5
   refine ⟨h2, w2, le1.trans le2, ?_⟩
   rw [wr_id (z := u - Int.ofNat 1) (by show _ ≤ u - 1; omega) (by show u - 1 ≤ _; omega)]
   rfl
 unfold S97_3
 simp only [lt_dec]
 by_cases g : 0 < u
 ·rw [decide_eq_true (show Int.ofNat 0 < u from g), br_t]
  obtain ⟨k, rfl⟩ : ∃ k : Nat, u = Int.ofNat k := ⟨u.toNat, by show u = ((u.toNat : Nat) : Int); omega⟩
  have hk : (k : Int) ≤ 8000 := hu.2
  obtain ⟨v1, h1, e1, w1, le1, x1, _⟩ := sf_twice w xa (q := k) (by omega) (by omega) (n + 1) (by omega)
  rw [cal_of e1]
  refine key h1 v1 vb w1 le1 x1 ?_
  have : Yn b (Int.ofNat k) = b := by
   unfold Yn
   rw [show (-Int.ofNat k).toNat = 0 by show (-(k : Int)).toNat = 0; omega, Nat.pow_zero, Nat.mul_one]
  rw [this]; exact xb.mono le1
 ·rw [decide_eq_false (show ¬ Int.ofNat 0 < u from g), br_f]
  obtain ⟨k, hk⟩ : ∃ k : Nat, -u = (k : Int) := ⟨(-u).toNat, by omega⟩
  have e0 : IntKind.wrap .i64 (0 - u) = Int.ofNat k := by
   rw [show 0 - u = Int.ofNat k by show _ = (k : Int); omega, ← @wrapF_eq rh]; exact wf_nat (by omega)
  simp only [e0]
  obtain ⟨v1, h1, e1, w1, le1, x1, _⟩ := sf_twice w xb (q := k) (by omega) (by omega) (n + 1) (by omega)
  rw [cal_of e1]
  refine key h1 va v1 w1 le1 ?_ ?_
  ·have : Xn a u = a := by
    unfold Xn
    rw [show u.toNat = 0 by omega, Nat.pow_zero, Nat.mul_one]
   rw [this]; exact xa.mono le1
  ·have : Yn b u = b * 2 ^ k := by unfold Yn; rw [show (-u).toNat = k by omega]
   rw [this]; exact x1
theorem near_loop {h : HP} (w : Wf h) {va vb : AV} {a b : Nat} (xa : IsN h va a) (xb : IsN h vb b) (hb0 : 0 < b) {e u : Int} (h1 : 2 ^ 52 ≤ Qn a b u) (h2 : Qn a b u < 2 ^ 54) (ha : nd a ≤ 400) (hb : nd b ≤ 400) (hu : -7990 ≤ u ∧ u ≤ 7990) (he : -6000 ≤ e ∧ e ≤ 6000) (n : Nat) (hn : 20000 < n) (M m : Nat) :
  ∃ v, Place a b e v ∧ RetW (nrec (fun _ _ _ _ _ => none) (fun _ g => S97_2b (SF tabS (n + 4)) M g) (m + 2) va vb e u h) h (pk (e - v) (Rn (Xn a v) (Yn b v))) := by
 have step : ∀ (h : HP) (u : Int) (m : Nat), Wf h → IsN h va a → IsN h vb b → Qn a b u < 2 ^ 54 → (2 ^ 52 ≤ Qn a b u) → -7995 ≤ u ∧ u ≤ 7995 →
   ((∃ v, Place a b e v ∧ RetW (nrec (fun _ _ _ _ _ => none) (fun _ g => S97_2b (SF tabS (n + 4)) M g) (m + 1) va vb e u h) h (pk (e - v) (Rn (Xn a v) (Yn b v)))) ∨
     (2 ^ 53 ≤ Qn a b u ∧ ∃ h', Wf h' ∧ Le h h' ∧ nrec (fun _ _ _ _ _ => none) (fun _ g => S97_2b (SF tabS (n + 4)) M g) (m + 1) va vb e u h = nrec (fun _ _ _ _ _ => none) (fun _ g => S97_2b (SF tabS (n + 4)) M g) m va vb e (u - 1) h')) := by
  intro h u m w xa xb h2 h1 hu
  show ((∃ v, Place a b e v ∧ RetW (S97_2b (SF tabS (n + 4)) M (nrec (fun _ _ _ _ _ => none) (fun _ g => S97_2b (SF tabS (n + 4)) M g) m) va vb e u h) h (pk (e - v) (Rn (Xn a v) (Yn b v)))) ∨
    (2 ^ 53 ≤ Qn a b u ∧ ∃ h', Wf h' ∧ Le h h' ∧ S97_2b (SF tabS (n + 4)) M (nrec (fun _ _ _ _ _ => none) (fun _ g => S97_2b (SF tabS (n + 4)) M g) m) va vb e u h = nrec (fun _ _ _ _ _ => none) (fun _ g => S97_2b (SF tabS (n + 4)) M g) m va vb e (u - 1) h'))
  generalize nrec (fun _ _ _ _ _ => none) (fun _ g => S97_2b (SF tabS (n + 4)) M g) m = G
  unfold S97_2b
  rw [wr_id (z := e - u) (by omega) (by omega)]
  simp only [lt_dec]
  by_cases g : e - u < -1074
  ·rw [decide_eq_true (show e - u < Int.negSucc 1073 from g), br_t, add_dec, wr_id (by show _ ≤ e + 1074; omega) (by show e + 1074 ≤ _; omega)]
   have q1 : Qn a b (e + 1074) ≤ Qn a b (u - 1) := Q_mono (by omega)
   rw [Q_half] at q1
   left
   refine ⟨e + 1074, ⟨by omega, by omega, .inl (by omega)⟩, ?_⟩
   exact (near_round w xa xb hb0 (e := e) (u := e + 1074) (by omega) ha hb (by omega) (by omega) n hn G M).1 (by omega)
  ·rw [decide_eq_false (show ¬ e - u < Int.negSucc 1073 from g), br_f]
   have r := near_round w xa xb hb0 (e := e) (u := u) h2 ha hb (by omega) (by omega) n hn G M
   rcases Nat.lt_or_ge (Qn a b u) (2 ^ 53) with q | q
   ·exact .inl ⟨u, ⟨by omega, q, .inr h1⟩, r.1 q⟩
   ·exact .inr ⟨q, r.2 q⟩
 rcases step h u (m + 1) w xa xb h2 h1 (by omega) with r | ⟨q, h', w', le', r⟩
 ·exact r
 ·rw [r]
  have hq := Q_half a b u
  rcases step h' (u - 1) m w' (xa.mono le') (xb.mono le') (by omega) (by omega) (by omega) with ⟨v, p, x⟩ | ⟨q2, _⟩
  ·obtain ⟨h2, e2, w2, le2⟩ := x
   exact ⟨v, p, h2, e2, w2, le'.trans le2⟩
  ·omega
theorem bits_nd (a : Nat) : bits a ≤ 16 * nd a := bits_le.2 (by rw [← pow16]; exact lt_nd a)
theorem sf_near {h : HP} (w : Wf h) {va vb : AV} {a b : Nat} (xa : IsN h va a) (xb : IsN h vb b) (ha0 : a ≠ 0) (hb0 : b ≠ 0) {e : Int} (ha : nd a ≤ 400) (hb : nd b ≤ 400) (he : -6000 ≤ e ∧ e ≤ 6000) (n : Nat) (hn : 20000 < n) :
  ∃ v, Place a b e v ∧ RetW (SF tabS (n + 5) 97 [va, vb, vI e] h .no) h (pk (e - v) (Rn (Xn a v) (Yn b v))) := by
 rw [SF_succ, find97, enter97]
 unfold S97_7
 have h1 := nd_pos.2 ha0
 rw [lenN xa, asI_iv]
 simp only [eq_nat]
 rw [decide_eq_false (by omega), br_f, cal_of (sf_size xa (by omega) (n + 3) (by omega)), asI_iv]
 have ba : bits a ≤ 6400 := Nat.le_trans (bits_nd a) (by omega)
 have bb : bits b ≤ 6400 := Nat.le_trans (bits_nd b) (by omega)
 rw [cal_of (sf_size xb (by omega) (n + 3) (by omega)), asI_iv]
 simp only [add_dec]
 have e1 : wrQ .i64 (wrQ .i64 (Int.ofNat 53 - Int.ofNat (bits a)) + Int.ofNat (bits b)) = 53 - (bits a : Int) + (bits b : Int) := by
  rw [wr_id (z := Int.ofNat 53 - Int.ofNat (bits a)) (by show _ ≤ 53 - (bits a : Int); omega) (by show 53 - (bits a : Int) ≤ _; omega)]
  exact wr_id (by show _ ≤ 53 - (bits a : Int) + (bits b : Int); omega) (by show 53 - (bits a : Int) + (bits b : Int) ≤ _; omega)
 rw [e1]
 obtain ⟨q1, q2⟩ := Q_first ha0 hb0 (u := 53 - (bits a : Int) + (bits b : Int)) rfl
 unfold S97_2
 exact near_loop w xa xb (Nat.pos_of_ne_zero hb0) q1 q2 ha hb (by omega) he n hn (n + 4) (n + 2)
end
end Go.Proofs.YtakcpnpeadkfpaaGreatDoor.Lg
