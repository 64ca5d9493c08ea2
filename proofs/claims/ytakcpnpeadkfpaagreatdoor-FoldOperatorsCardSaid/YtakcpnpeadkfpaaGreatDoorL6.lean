/- Long numbers: what the printed functions of the reference answer: half, size, divide. -/
import Derived.Test.YtakcpnpeadkfpaaGreatDoorL5
set_option linter.unusedVariables false
set_option linter.unusedSimpArgs false
set_option linter.unusedSectionVars false
namespace Go.Proofs.YtakcpnpeadkfpaaGreatDoor.Lg
open Go Go.Proofs.YtakcpnpeadkfpaaGreatDoor.Ev Go.Proofs.YtakcpnpeadkfpaaGreatDoor.Sx
noncomputable section
theorem find162 : tabS.run 162 = S162 := by kernel_rfl
theorem find132 : tabS.run 132 = S132 := by kernel_rfl
theorem find133 : tabS.run 133 = S133 := by kernel_rfl
theorem find98 : tabS.run 98 = S98 := by kernel_rfl
theorem enter162 (D : CallD) (m : Nat) (a : AV) (h : HP) : S162 D m [a] h .no = S162_2 D m a h := rfl
theorem enter132 (D : CallD) (m : Nat) (a : AV) (h : HP) : S132 D m [a] h .no = S132_2 D m a h := rfl
theorem enter133 (D : CallD) (m : Nat) (a b : AV) (h : HP) : S133 D m [a, b] h .no = S133_3 D m a b h := rfl
theorem enter98 (D : CallD) (m : Nat) (a b : AV) (h : HP) : S98 D m [a, b] h .no = S98_2 D m a b h := rfl
theorem half_loop {h0 : HP} {va : AV} {a : Nat} (xa : IsN h0 va a) (hb : nd a ≤ 10000000) (n M : Nat) (hn : nd a + 2 < n) : ∀ m i h v, OwnL h0 h v (low i (a / 2)) → i ≤ nd a → nd a < i + m →
  RetN (nrec (fun _ _ _ _ _ => none) (fun _ g => S162_1b (SF tabS (n + 1)) M g) m va v (Int.ofNat (nd a)) (Int.ofNat i) h) h0 (a / 2) := by
 intro m
 induction m with
 | zero => intro i _ _ _ _ h; omega
 | succ m ih =>
  intro i h v o h1 h2
  show RetN (S162_1b (SF tabS (n + 1)) M (nrec (fun _ _ _ _ _ => none) (fun _ g => S162_1b (SF tabS (n + 1)) M g) m) va v (Int.ofNat (nd a)) (Int.ofNat i) h) h0 (a / 2)
  generalize nrec (fun _ _ _ _ _ => none) (fun _ g => S162_1b (SF tabS (n + 1)) M g) m = G at ih ⊢
  have ya := xa.mono o.2.2.1
  unfold S162_1b
  simp only [lt_nat]
  rw [br_if]
  have da := dig_lt a i
  have db := dig_lt a (i + 1)
  split
  ·rename_i g
   obtain ⟨p, q1, _, q2⟩ := load_of ya i (by rw [digs_length]; exact g)
   have q3 := q2 h (Le.refl h)
   rw [digs_getD] at q3
   rw [q1, q3.1]
   simp only [add_nat, tdiv_nat]
   rw [wr_nat (n := i + 1) (by omega), cal_digit ya, again162 q3.2.2, br_t, asI_iv]
   simp only [tmod_nat, mul_nat]
   rw [wf_nat (n := dig a i / 2) (by omega), wr_nat (n := dig a (i + 1) % 2 * 32768) (by omega)]
   simp only [add_nat]
   rw [wr_nat (n := dig a i / 2 + dig a (i + 1) % 2 * 32768) (by omega), ← dig_half]
   obtain ⟨v', h', e1, o', _⟩ := app_own o (dig (a / 2) i) (by rw [low_length]; omega)
   rw [e1]
   rw [← low_succ] at o'
   exact ih (i + 1) h' v' o' (by omega) (by omega)
  ·rename_i g
   unfold S162_0
   have hi : i = nd a := by omega
   subst hi
   exact trim_ret o (by omega) (by have := lt_nd a; omega) n (by omega)
theorem sf_half {h : HP} (w : Wf h) {va : AV} {a : Nat} (xa : IsN h va a) (hb : nd a ≤ 10000000) (n : Nat) (hn : nd a + 2 < n) : RetN (SF tabS (n + 2) 162 [va] h .no) h (a / 2) := by
 rw [SF_succ, find162, enter162]
 unfold S162_2 S162_1
 rw [lenN xa, asI_iv]
 exact half_loop xa hb n (n + 1) hn (n + 1) 0 h .nils (OwnL.nil w) (Nat.zero_le _) (by omega)
theorem size_loop (D : CallD) (M : Nat) (h : HP) : ∀ m k x, bits x < m → x ≤ 9223372036854775807 → k + bits x ≤ 100000000 → nrec (fun _ _ _ => none) (fun _ g => S132_1b D M g) m (Int.ofNat k) (Int.ofNat x) h = some (.ret (iv (k + bits x)) h, .no) := by
 intro m
 induction m with
 | zero => intro _ _ h; omega
 | succ m ih =>
  intro k x h1 h2 h3
  show S132_1b D M (nrec (fun _ _ _ => none) (fun _ g => S132_1b D M g) m) (Int.ofNat k) (Int.ofNat x) h = _
  generalize nrec (fun _ _ _ => none) (fun _ g => S132_1b D M g) m = G at ih ⊢
  unfold S132_1b
  simp only [lt_nat]
  rw [br_if]
  split
  ·rename_i g
   have := bits_half g
   simp only [add_nat, tdiv_nat]
   rw [wr_nat (by omega), wf_nat (by omega), ih (k + 1) (x / 2) (by omega) (by omega) (by omega), this]
   rw [show k + 1 + bits (x / 2) = k + (bits (x / 2) + 1) by omega]
  ·rename_i g
   have : x = 0 := by omega
   subst this
   rfl
theorem bits_le {x k : Nat} : bits x ≤ k ↔ x < 2 ^ k := by
 unfold bits
 split
 ·rename_i h; subst h; simp [Nat.two_pow_pos]
 ·rename_i h
  rw [← Nat.log2_lt h]; omega
theorem sf_size {h : HP} {va : AV} {a : Nat} (xa : IsN h va a) (hb : nd a ≤ 1000000) (n : Nat) (hn : 20 < n) : SF tabS (n + 1) 132 [va] h .no = some (.ret (iv (bits a)) h, .no) := by
 rw [SF_succ, find132, enter132]
 unfold S132_2
 rw [lenN xa, asI_iv]
 simp only [eq_nat]
 rw [br_if]
 split
 ·rename_i g
  have : a = 0 := by
   rcases Nat.eq_zero_or_pos a with e | e
   ·exact e
   ·have := nd_pos.2 (show a ≠ 0 by omega); omega
  subst this; rfl
 ·rename_i g
  have ha : a ≠ 0 := nd_pos.1 (by omega)
  rw [lenN xa, asI_iv]
  rw [sub_nat (a := nd a) (b := 1) (by omega), wr_nat (n := nd a - 1) (by omega)]
  simp only [mul_nat]
  rw [wr_nat (n := 16 * (nd a - 1)) (by omega), lenN xa, asI_iv]
  rw [sub_nat (a := nd a) (b := 1) (by omega), wr_nat (n := nd a - 1) (by omega)]
  obtain ⟨p, q1, _, q2⟩ := load_of xa (nd a - 1) (by rw [digs_length]; omega)
  have q3 := q2 h (Le.refl h)
  rw [digs_getD] at q3
  simp only [q1, q3.1]
  have dl := dig_lt a (nd a - 1)
  have hl : bits (dig a (nd a - 1)) ≤ 16 := bits_le.2 dl
  unfold S132_1
  rw [size_loop (SF tabS n) n h n (16 * (nd a - 1)) (dig a (nd a - 1)) (by omega) (by omega) (by omega), ← bits_top ha]
/-- divide: its rounds; j of them are left. -/
def RetD (r : Res2) (h : HP) (q b : Nat) : Prop := ∃ v h', r = some (.ret (.tup [iv q, v]) h', .no) ∧ Wf h' ∧ Le h h' ∧ IsN h' v b
theorem RetD.mono {r : Res2} {h0 h : HP} {q b : Nat} (e : Le h0 h) (x : RetD r h q b) : RetD r h0 q b := by
 obtain ⟨v, h', e1, e2, e3, e4⟩ := x
 exact ⟨v, h', e1, e2, e.trans e3, e4⟩
theorem nd_mono {a b : Nat} (h : a ≤ b) : nd a ≤ nd b := nd_le.2 (Nat.lt_of_le_of_lt h (lt_nd b))
theorem cmp_ge (a b : Nat) : leQ (Int.ofNat 0) (cmpN a b) = decide (b ≤ a) := by
 unfold cmpN
 rw [le_dec]
 split
 ·rw [decide_eq_false (by decide), decide_eq_false (by omega)]
 ·split
  ·rw [decide_eq_true (by decide), decide_eq_true (by omega)]
  ·rw [decide_eq_true (by decide), decide_eq_true (by omega)]
theorem div_loop {B : Nat} {a b : Nat} (hb0 : 0 < b) (hq : a / b < 2 ^ 57) (hB : B ≤ 100000) (n M : Nat) (hn : B + 10 < n) (hd : nd (b * 2 ^ 56) ≤ B) (ha : nd a ≤ B) : ∀ j m h vc vd cur q, j < m → j ≤ 57 → Wf h → IsN h vc cur → IsN h vd (b * 2 ^ j / 2) → a = q * b + cur → cur < b * 2 ^ j →
  RetD (nrec (fun _ _ _ _ _ => none) (fun _ g => S133_1b (SF tabS (n + 2)) M g) m vc (Int.ofNat q) (Int.ofNat (2 ^ j / 2)) vd h) h (a / b) (a % b) := by
 intro j
 induction j with
 | zero =>
  intro m h vc vd cur q h1 h2 w xc xd e1 e2
  obtain ⟨m, rfl⟩ : ∃ k, m = k + 1 := ⟨m - 1, by omega⟩
  show RetD (S133_1b (SF tabS (n + 2)) M (nrec (fun _ _ _ _ _ => none) (fun _ g => S133_1b (SF tabS (n + 2)) M g) m) vc (Int.ofNat q) (Int.ofNat (2 ^ 0 / 2)) vd h) h (a / b) (a % b)
  unfold S133_1b
  rw [lt_nat, decide_eq_false (by decide), br_f]
  rw [Nat.pow_zero, Nat.mul_one] at e2
  have r1 : a / b = q := by
   rw [e1, Nat.mul_comm q b, Nat.mul_add_div hb0, Nat.div_eq_of_lt e2, Nat.add_zero]
  have r2 : a % b = cur := by
   rw [e1, Nat.mul_comm q b, Nat.mul_add_mod, Nat.mod_eq_of_lt e2]
  rw [r1, r2]
  exact ⟨vc, h, rfl, w, Le.refl h, xc⟩
 | succ j ih =>
  intro m h vc vd cur q h1 h2 w xc xd e1 e2
  obtain ⟨m, rfl⟩ : ∃ k, m = k + 1 := ⟨m - 1, by omega⟩
  show RetD (S133_1b (SF tabS (n + 2)) M (nrec (fun _ _ _ _ _ => none) (fun _ g => S133_1b (SF tabS (n + 2)) M g) m) vc (Int.ofNat q) (Int.ofNat (2 ^ (j + 1) / 2)) vd h) h (a / b) (a % b)
  have ih := fun h vc vd cur q => ih m h vc vd cur q (by omega) (by omega)
  generalize nrec (fun _ _ _ _ _ => none) (fun _ g => S133_1b (SF tabS (n + 2)) M g) m = G at ih ⊢
  have hp : 2 ^ (j + 1) / 2 = 2 ^ j := by rw [Nat.pow_succ, Nat.mul_div_cancel _ (by omega)]
  have hp0 : 0 < 2 ^ j := Nat.two_pow_pos j
  have hp1 : 2 ^ j ≤ 2 ^ 56 := Nat.pow_le_pow_right (by omega) (by omega)
  have hpd : b * 2 ^ (j + 1) / 2 = b * 2 ^ j := by rw [Nat.pow_succ, ← Nat.mul_assoc, Nat.mul_div_cancel _ (by omega)]
  rw [hpd] at xd
  rw [hp]
  have le1 : b * 2 ^ j ≤ b * 2 ^ 56 := Nat.mul_le_mul_left _ hp1
  have n1 : nd (b * 2 ^ j) ≤ B := Nat.le_trans (nd_mono le1) hd
  have n2 : nd cur ≤ B := Nat.le_trans (nd_mono (by omega)) ha
  have q57 : q < 2 ^ 57 := by
   have : q ≤ a / b := by rw [Nat.le_div_iff_mul_le hb0]; omega
   omega
  have step : ∀ h' vc' cur' q', Wf h' → Le h h' → IsN h' vc' cur' → a = q' * b + cur' → cur' < b * 2 ^ j → RetD (S133_2 (SF tabS (n + 2)) M G vc' (Int.ofNat q') (Int.ofNat (2 ^ j)) vd h') h (a / b) (a % b) := fun h' vc' cur' q' w' le' x' e3 e4 => by
   unfold S133_2
   obtain ⟨v2, h2, e5, w2, le2, x2, _⟩ := sf_half w' (xd.mono le') (by omega) n (by omega)
   rw [cal_of e5, tdiv_nat, wf_nat (by omega)]
   exact RetD.mono (le'.trans le2) (ih h2 vc' v2 cur' q' w2 (x'.mono le2) x2 e3 e4)
  unfold S133_1b
  rw [lt_nat, decide_eq_true hp0, br_t, cal_of (sf_cmp xc xd n ⟨by omega, by omega⟩ ⟨by omega, by omega⟩), asI_iv, cmp_ge]
  simp only []
  rw [br_if]
  have ex : b * 2 ^ (j + 1) = b * 2 ^ j + b * 2 ^ j := by rw [Nat.pow_succ, ← Nat.mul_assoc]; omega
  split
  ·rename_i g
   obtain ⟨v1, h1', e5, w1, le1', x1, _⟩ := sf_minus w xc xd g (by omega) n (by omega)
   rw [cal_of e5]
   simp only [add_nat]
   rw [wr_nat (by omega)]
   refine step h1' v1 (cur - b * 2 ^ j) (q + 2 ^ j) w1 le1' x1 ?_ (by omega)
   rw [Nat.add_mul, Nat.mul_comm (2 ^ j) b]; omega
  ·rename_i g
   exact step h vc cur q w (Le.refl h) xc e1 (by omega)
theorem sf_divide {h : HP} (w : Wf h) {va vb : AV} {a b : Nat} (xa : IsN h va a) (xb : IsN h vb b) (hb0 : 0 < b) (hq : a / b < 2 ^ 57) {B : Nat} (hB : B ≤ 90000) (hd : nd b + 4 ≤ B) (ha : nd a ≤ B) (n : Nat) (hn : B + 100 < n) : RetD (SF tabS (n + 4) 133 [va, vb] h .no) h (a / b) (a % b) := by
 rw [SF_succ, find133, enter133]
 unfold S133_3
 obtain ⟨v1, h1, e1, w1, le1, x1, _⟩ := sf_twice w xb (q := 56) (by omega) (by omega) n (by omega)
 rw [cal_of e1]
 unfold S133_1
 have hd' : nd (b * 2 ^ 56) ≤ B := by
  rw [nd_le]
  refine Nat.lt_of_lt_of_le (Nat.mul_lt_mul_of_pos_right (lt_nd b) (Nat.two_pow_pos 56)) (Nat.le_trans ?_ (Nat.pow_le_pow_right (by omega) hd))
  rw [Nat.pow_add]
  exact Nat.mul_le_mul_left _ (by decide)
 have := div_loop (B := B) hb0 hq (by omega) (n + 1) (n + 3) (by omega) hd' ha 57 (n + 3) h1 va v1 a 0 (by omega) (Nat.le_refl _) w1 (xa.mono le1) (by rw [show b * 2 ^ 57 / 2 = b * 2 ^ 56 by rw [show 2 ^ 57 = 2 ^ 56 * 2 from rfl, ← Nat.mul_assoc, Nat.mul_div_cancel _ (by omega)]]; exact x1) (by omega) (by have := (Nat.div_lt_iff_lt_mul hb0).1 hq; rw [Nat.mul_comm]; exact this)
 exact RetD.mono le1 this
end
end Go.Proofs.YtakcpnpeadkfpaaGreatDoor.Lg
