/- Long numbers: what the printed functions of the reference answer: minus, twice, half, size. -/
import Derived.Test.YtakcpnpeadkfpaaGreatDoorL4
set_option linter.unusedVariables false
set_option linter.unusedSimpArgs false
set_option linter.unusedSectionVars false
namespace Go.Proofs.YtakcpnpeadkfpaaGreatDoor.Lg
open Go Go.Proofs.YtakcpnpeadkfpaaGreatDoor.Ev Go.Proofs.YtakcpnpeadkfpaaGreatDoor.Sx
noncomputable section
theorem beqA_self (n : Nat) : beqA (iv n) (iv n) = true := by
 show Nat.beq n n = true
 exact Nat.beq_refl n
theorem again131 {p : AV} {n : Nat} {h : HP} (hc : cellV p h = some (iv n)) : again [⟨none, .cell q16, p17⟩] (mkT [(p17, iv n), (p16, p)]) h = true := by
 have e : again [⟨none, .cell q16, p17⟩] (mkT [(p17, iv n), (p16, p)]) h = Bool.casesOn (motive := fun _ => Bool) (Option.casesOn (motive := fun _ => Bool) (cellV p h) false (fun v => beqA v (iv n))) false true := by kernel_rfl
 rw [e, hc]
 show Bool.casesOn (motive := fun _ => Bool) (beqA (iv n) (iv n)) false true = true
 rw [beqA_self]
theorem again162 {p : AV} {n : Nat} {h : HP} (hc : cellV p h = some (iv n)) : again [⟨none, .cell q13, p14⟩] (mkT [(p14, iv n), (p13, p)]) h = true := by
 have e : again [⟨none, .cell q13, p14⟩] (mkT [(p14, iv n), (p13, p)]) h = Bool.casesOn (motive := fun _ => Bool) (Option.casesOn (motive := fun _ => Bool) (cellV p h) false (fun v => beqA v (iv n))) false true := by kernel_rfl
 rw [e, hc]
 show Bool.casesOn (motive := fun _ => Bool) (beqA (iv n) (iv n)) false true = true
 rw [beqA_self]
theorem again98 {p : AV} {n : Nat} {h : HP} (hc : cellV p h = some (iv n)) : again [⟨none, .cell q19, p20⟩] (mkT [(p20, iv n), (p19, p)]) h = true := by
 have e : again [⟨none, .cell q19, p20⟩] (mkT [(p20, iv n), (p19, p)]) h = Bool.casesOn (motive := fun _ => Bool) (Option.casesOn (motive := fun _ => Bool) (cellV p h) false (fun v => beqA v (iv n))) false true := by kernel_rfl
 rw [e, hc]
 show Bool.casesOn (motive := fun _ => Bool) (beqA (iv n) (iv n)) false true = true
 rw [beqA_self]
theorem bor_lt (a b i : Nat) : bor a b i < 2 := by unfold bor; split <;> omega
theorem minus_loop {h0 : HP} {va vb : AV} {a b : Nat} (xa : IsN h0 va a) (xb : IsN h0 vb b) (hab : b ≤ a) (hb : nd a ≤ 10000000) (n M : Nat) (hn : nd a + 2 < n) : ∀ m i h v, OwnL h0 h v (low i (a - b)) → i ≤ nd a → nd a < i + m →
  RetN (nrec (fun _ _ _ _ _ _ _ => none) (fun _ g => S131_1b (SF tabS (n + 1)) M g) m va vb v (Int.ofNat (bor a b i)) (Int.ofNat (nd a)) (Int.ofNat i) h) h0 (a - b) := by
 intro m
 induction m with
 | zero => intro i _ _ _ _ h; omega
 | succ m ih =>
  intro i h v o h1 h2
  show RetN (S131_1b (SF tabS (n + 1)) M (nrec (fun _ _ _ _ _ _ _ => none) (fun _ g => S131_1b (SF tabS (n + 1)) M g) m) va vb v (Int.ofNat (bor a b i)) (Int.ofNat (nd a)) (Int.ofNat i) h) h0 (a - b)
  generalize nrec (fun _ _ _ _ _ _ _ => none) (fun _ g => S131_1b (SF tabS (n + 1)) M g) m = G at ih ⊢
  have ya := xa.mono o.2.2.1
  have yb := xb.mono o.2.2.1
  unfold S131_1b
  simp only [lt_nat]
  rw [br_if]
  have c2 := bor_lt a b i
  have da := dig_lt a i
  have db := dig_lt b i
  have ds := dig_sub hab i
  have bs := bor_succ a b i
  have dl := dig_lt (a - b) i
  split
  ·rename_i g
   obtain ⟨p, q1, _, q2⟩ := load_of ya i (by rw [digs_length]; exact g)
   have q3 := q2 h (Le.refl h)
   rw [digs_getD] at q3
   rw [q1, q3.1, cal_digit yb, again131 q3.2.2, br_t, asI_iv]
   have e1 : wrQ .i64 (Int.ofNat (dig a i) - Int.ofNat (dig b i)) = (dig a i : Int) - dig b i := wr_id (by show _ ≤ (dig a i : Int) - (dig b i : Int); omega) (by show (dig a i : Int) - (dig b i : Int) ≤ _; omega)
   have e2 : wrQ .i64 ((dig a i : Int) - dig b i - Int.ofNat (bor a b i)) = (dig a i : Int) - dig b i - bor a b i := wr_id (by show _ ≤ (dig a i : Int) - (dig b i : Int) - (bor a b i : Int); omega) (by show (dig a i : Int) - (dig b i : Int) - (bor a b i : Int) ≤ _; omega)
   simp only [e1, e2, lt_dec]
   rw [br_if]
   have go : RetN (S131_3 (SF tabS (n + 1)) M G va vb v (Int.ofNat (bor a b (i + 1))) (Int.ofNat (dig (a - b) i)) (Int.ofNat (nd a)) (Int.ofNat i) h) h0 (a - b) := by
    unfold S131_3
    obtain ⟨v', h', e3, o', _⟩ := app_own o (dig (a - b) i) (by rw [low_length]; omega)
    simp only [e3]
    rw [← low_succ] at o'
    unfold S131_2
    simp only [add_nat]
    rw [wr_nat (by omega)]
    exact ih (i + 1) h' v' o' (by omega) (by omega)
   split
   ·rename_i g2
    have g2 : (dig a i : Int) - dig b i - bor a b i < 0 := g2
    rw [if_pos g2] at ds bs
    rw [add_dec]
    have e4 : wrQ .i64 ((dig a i : Int) - dig b i - bor a b i + Int.ofNat 65536) = Int.ofNat (dig (a - b) i) := by
     rw [wr_id (by show _ ≤ (dig a i : Int) - (dig b i : Int) - (bor a b i : Int) + 65536; omega) (by show (dig a i : Int) - (dig b i : Int) - (bor a b i : Int) + 65536 ≤ _; omega)]
     exact ds.symm
    simp only [e4]
    rw [bs] at go
    exact go
   ·rename_i g2
    have g2 : ¬ (dig a i : Int) - dig b i - bor a b i < 0 := g2
    rw [if_neg g2] at ds bs
    rw [bs] at go
    rw [show (dig a i : Int) - dig b i - bor a b i = Int.ofNat (dig (a - b) i) from ds.symm]
    exact go
  ·rename_i g
   unfold S131_0
   have hi : i = nd a := by omega
   subst hi
   exact trim_ret o (by omega) (by have := lt_nd a; omega) n (by omega)
theorem sf_minus {h : HP} (w : Wf h) {va vb : AV} {a b : Nat} (xa : IsN h va a) (xb : IsN h vb b) (hab : b ≤ a) (hb : nd a ≤ 10000000) (n : Nat) (hn : nd a + 2 < n) : RetN (SF tabS (n + 2) 131 [va, vb] h .no) h (a - b) := by
 rw [SF_succ, find131, enter131]
 unfold S131_4 S131_1
 rw [lenN xa, asI_iv]
 have := minus_loop xa xb hab hb n (n + 1) hn (n + 1) 0 h .nils (OwnL.nil w) (Nat.zero_le _) (by omega)
 rw [bor_zero] at this
 exact this
/- twice -/
theorem OwnL.mono {h0 h h' : HP} {v : AV} {l : List Nat} (o : OwnL h0 h v l) (w : Wf h') (e : Le h h') : OwnL h0 h' v l := by
 refine ⟨o.1, w, o.2.2.1.trans e, ?_⟩
 rcases o.2.2.2 with x | ⟨b, h1, h2, h3⟩
 ·exact .inl x
 ·exact .inr ⟨b, h1, h2, e.2 _ _ h3⟩
theorem copy_loop {h0 : HP} {s z : Nat} (hs : s ≠ 0) (hb : nd s ≤ 10000000 ∧ z ≤ 10000000) (D : CallD) (M : Nat) {vs : AV} : ∀ m i h v, IsN h vs s → OwnL h0 h v (low (z + i) (s * 65536 ^ z)) → i ≤ nd s → nd s < i + m → (∀ c n, vs = .slice c 0 n (.spare 1) → ∀ k, v ≠ .slice c 0 k (.spare 1)) →
  RetN (nrec (fun _ _ _ _ _ => none) (fun _ g => S128_3b D M g) m v vs (Int.ofNat (nd s)) (Int.ofNat i) h) h0 (s * 65536 ^ z) := by
 intro m
 induction m with
 | zero => intro i _ _ _ _ _ h; omega
 | succ m ih =>
  intro i h v x o h1 h2 far
  show RetN (S128_3b D M (nrec (fun _ _ _ _ _ => none) (fun _ g => S128_3b D M g) m) v vs (Int.ofNat (nd s)) (Int.ofNat i) h) h0 (s * 65536 ^ z)
  generalize nrec (fun _ _ _ _ _ => none) (fun _ g => S128_3b D M g) m = G at ih ⊢
  unfold S128_3b
  simp only [lt_nat]
  rw [br_if]
  split
  ·rename_i g
   obtain ⟨p, q1, _, q2⟩ := load_of x i (by rw [digs_length]; exact g)
   have q3 := q2 h (Le.refl h)
   rw [digs_getD] at q3
   rw [q1, q3.1]
   obtain ⟨v', h', e1, o', keep, new⟩ := app_own o (dig s i) (by rw [low_length]; omega)
   simp only [e1, add_nat]
   rw [wr_nat (by omega)]
   have e2 : low (z + i) (s * 65536 ^ z) ++ [dig s i] = low (z + (i + 1)) (s * 65536 ^ z) := by
    rw [← dig_shift s z i, ← low_succ]; rfl
   rw [e2] at o'
   refine ih (i + 1) h' v' ?_ o' (by omega) (by omega) ?_
   ·rcases x with ⟨y1, y2⟩ | ⟨b, cs, y1, y2, y3⟩
    ·exact .inl ⟨y1, y2⟩
    ·exact .inr ⟨b, cs, y1, keep _ _ y2 (far _ _ y1), y3⟩
   ·intro c n e k e'
    have := new c k e'
    rcases x with ⟨y1, y2⟩ | ⟨b, cs, y1, y2, y3⟩
    ·rw [y1] at e; cases e
    ·rw [y1] at e
     injection e with e3
     subst e3
     have := o.2.1.lt y2
     omega
  ·rename_i g
   unfold S128_2
   have hi : i = nd s := by omega
   subst hi
   rw [← nd_shift hs] at o
   exact o.ret
theorem pow_loop {h0 : HP} {D : CallD} {M r : Nat} {v0 : AV} {n : Nat} {vo : AV} {T : Nat} (k : HP → Res2) (h : HP) : ∀ m j, j ≤ r → r < j + m → r = n % 16 → nrec (fun _ _ _ _ _ _ => none) (fun _ g => S128_4b D M g) m v0 (Int.ofNat n) vo (Int.ofNat (2 ^ j)) (Int.ofNat j) h = S128_1 D M v0 vo (Int.ofNat (2 ^ r)) h := by
 intro m
 induction m with
 | zero => intro j _ h; omega
 | succ m ih =>
  intro j h1 h2 h3
  show S128_4b D M (nrec (fun _ _ _ _ _ _ => none) (fun _ g => S128_4b D M g) m) v0 (Int.ofNat n) vo (Int.ofNat (2 ^ j)) (Int.ofNat j) h = _
  generalize nrec (fun _ _ _ _ _ _ => none) (fun _ g => S128_4b D M g) m = G at ih ⊢
  unfold S128_4b
  simp only [tmod_nat, lt_nat]
  rw [br_if]
  split
  ·rename_i g
   have : 2 ^ j ≤ 2 ^ 15 := Nat.pow_le_pow_right (by omega) (by omega)
   simp only [mul_nat, add_nat]
   rw [wr_nat (by omega), wr_nat (by omega), ← Nat.pow_succ]
   exact ih (j + 1) (by omega) (by omega) h3
  ·rename_i g
   have : j = r := by omega
   subst this; rfl
theorem zero_loop {h0 : HP} {D : CallD} {M n s T : Nat} {v0 : AV} (hT : T = s * 65536 ^ (n / 16)) (hn : n ≤ 100000) : ∀ m i h v, OwnL h0 h v (low i T) → i ≤ n / 16 → n / 16 < i + m →
  ∃ v' h', OwnL h0 h' v' (low (n / 16) T) ∧ nrec (fun _ _ _ _ _ => none) (fun _ g => S128_5b D M g) m v0 (Int.ofNat n) v (Int.ofNat i) h = S128_0 D M v0 (Int.ofNat n) v' h' := by
 intro m
 induction m with
 | zero => intro i _ _ _ _ h; omega
 | succ m ih =>
  intro i h v o h1 h2
  show ∃ v' h', _ ∧ S128_5b D M (nrec (fun _ _ _ _ _ => none) (fun _ g => S128_5b D M g) m) v0 (Int.ofNat n) v (Int.ofNat i) h = _
  generalize nrec (fun _ _ _ _ _ => none) (fun _ g => S128_5b D M g) m = G at ih ⊢
  unfold S128_5b
  simp only [tdiv_nat]
  rw [wf_nat (by omega)]
  simp only [lt_nat]
  rw [br_if]
  split
  ·rename_i g
   obtain ⟨v', h', e1, o', _⟩ := app_own o 0 (by rw [low_length]; omega)
   simp only [e1, add_nat]
   rw [wr_nat (by omega)]
   have e2 : low i T ++ [0] = low (i + 1) T := by
    rw [low_succ, hT, dig_shift_low g]
   rw [e2] at o'
   exact ih (i + 1) h' v' o' (by omega) (by omega)
  ·rename_i g
   have hi : i = n / 16 := by omega
   subst hi
   exact ⟨v, h, o, rfl⟩
theorem sf_twice {h : HP} (w : Wf h) {va : AV} {a q : Nat} (xa : IsN h va a) (hb : nd a ≤ 100000) (hq : q ≤ 100000) (n : Nat) (hn : nd a + q + 5 < n) : RetN (SF tabS (n + 3) 128 [va, iv q] h .no) h (a * 2 ^ q) := by
 rw [SF_succ, find128, enter128]
 unfold S128_6
 rw [lenN xa, asI_iv]
 simp only [eq_nat]
 rw [br_if]
 split
 ·rename_i g
  have : a = 0 := by
   rcases Nat.eq_zero_or_pos a with e | e
   ·exact e
   ·have := nd_pos.2 (show a ≠ 0 by omega); omega
  subst this
  rw [Nat.zero_mul]
  exact ⟨.nils, h, rfl, w, Le.refl h, .inl ⟨rfl, rfl⟩, fun _ _ e => nomatch e⟩
 ·rename_i g
  have ha : a ≠ 0 := nd_pos.1 (by omega)
  have e16 : a * 2 ^ q = a * 2 ^ (q % 16) * 65536 ^ (q / 16) := by
   rw [pow16, Nat.mul_assoc, ← Nat.pow_add, Nat.mod_add_div]
  rw [e16]
  have hp : 0 < 2 ^ (q % 16) := Nat.two_pow_pos _
  have hp2 : 2 ^ (q % 16) ≤ 2 ^ 16 := Nat.pow_le_pow_right (by omega) (by omega)
  have hs : a * 2 ^ (q % 16) ≠ 0 := Nat.mul_ne_zero ha (by omega)
  have hnd : nd (a * 2 ^ (q % 16)) ≤ nd a + 1 := by
   rw [nd_le, Nat.pow_succ]
   exact Nat.lt_of_lt_of_le (Nat.mul_lt_mul_of_pos_right (lt_nd a) hp) (Nat.mul_le_mul_left _ hp2)
  unfold S128_5
  obtain ⟨v1, h1, o1, e1⟩ := zero_loop (h0 := h) (D := SF tabS (n + 2)) (M := n + 2) (n := q) (v0 := va) (T := a * 2 ^ (q % 16) * 65536 ^ (q / 16)) (s := a * 2 ^ (q % 16)) rfl hq (n + 2) 0 h .nils (OwnL.nil w) (Nat.zero_le _) (by omega)
  rw [e1]
  unfold S128_0 S128_4
  rw [show (Int.ofNat 1) = Int.ofNat (2 ^ 0) from rfl, pow_loop (h0 := h) (T := 0) (r := q % 16) (fun h => none) h1 (n + 2) 0 (Nat.zero_le _) (by omega) rfl]
  unfold S128_1
  obtain ⟨v2, h2, e2, w2, le2, x2, new2⟩ := sf_small o1.2.1 (xa.mono o1.2.2.1) (by omega) hp2 n (by omega)
  rw [cal_of e2, lenN x2, asI_iv]
  unfold S128_3
  refine copy_loop hs ⟨by omega, by omega⟩ _ _ (n + 2) 0 h2 v1 x2 (o1.mono w2 le2) (Nat.zero_le _) (by omega) (fun c k e l e' => ?_)
  have q1 := new2 c k e
  rcases o1.2.2.2 with ⟨r1, _⟩ | ⟨b, r1, r2, r3⟩
  ·rw [r1] at e'; cases e'
  ·rw [r1] at e'
   injection e' with e3
   subst e3
   have := o1.2.1.lt r3
   omega
end
end Go.Proofs.YtakcpnpeadkfpaaGreatDoor.Lg
