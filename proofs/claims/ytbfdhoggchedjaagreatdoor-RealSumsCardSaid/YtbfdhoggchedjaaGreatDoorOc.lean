/- RealOrder: what the printed function answers, by what is, Canon and Neg answer. -/
import Derived.Test.YtbfdhoggchedjaaGreatDoorRu
import Derived.Test.YtbfdhoggchedjaaGreatDoorOd
set_option linter.unusedVariables false
set_option linter.unusedSimpArgs false
set_option linter.unusedSectionVars false
namespace Go.Proofs.YtbfdhoggchedjaaGreatDoor.Sx
open Go Go.Proofs.YtbfdhoggchedjaaGreatDoor.Ev
noncomputable section
section
variable {D : CallD} (hA : ∀ h k, cal D 10 [] h k = k (.bool true) h)
  (hI1 : ∀ (a b : Nat) h k, cal D 17 [vI (Int.ofNat 51), AV.int .u64 (Int.ofNat a), AV.int .u64 (Int.ofNat b)] h k = k (.bool (eqB a b)) h)
  (hI2 : ∀ (a b : Nat) h k, cal D 17 [vI (Int.ofNat 52), AV.int .u64 (Int.ofNat a), AV.int .u64 (Int.ofNat b)] h k = k (.bool (ltB a b)) h)
  (hI3 : ∀ (a b : Nat) h k, cal D 17 [vI (Int.ofNat 53), AV.int .u64 (Int.ofNat a), AV.int .u64 (Int.ofNat b)] h k = k (.bool (leB a b)) h)
  (hC : ∀ (a : Nat) h k, cal D 15 [AV.int .u64 (Int.ofNat a)] h k = k (AV.int .u64 (Int.ofNat (canonN a))) h)
  (hN : ∀ (a : Nat), a < 2 ^ 64 → ∀ h k, cal D 18 [AV.int .u64 (Int.ofNat a)] h k = k (AV.int .u64 (Int.ofNat (negN a))) h)
  (m : Nat) (a b c : Nat) (ha : a < 2 ^ 64) (hb : b < 2 ^ 64) (h : HP)
 include hI3 in
theorem s5_3 (t : Bool) : S5_3 D m (Int.ofNat a) (Int.ofNat c) t h = some (.ret (.bool (!t || leB a c)) h, .no) := by
  unfold S5_3
  cases t
  · rfl
  · show cal D 17 [vI (Int.ofNat 53), AV.int .u64 (Int.ofNat a), AV.int .u64 (Int.ofNat c)] h _ = _
    rw [hI3]; rfl
 include hI3 in
theorem s5_2 : S5_2 D m (Int.ofNat a) (Int.ofNat b) (Int.ofNat c) h = some (.ret (.bool (!(leB a b && leB b c) || leB a c)) h, .no) := by
  unfold S5_2
  rw [hI3]
  show br (leB a b) _ _ = _
  cases leB a b
  · exact s5_3 hI3 m a c h false
  · show cal D 17 [vI (Int.ofNat 53), AV.int .u64 (Int.ofNat b), AV.int .u64 (Int.ofNat c)] h _ = _
    rw [hI3]
    exact s5_3 hI3 m a c h (leB b c)
 include hI3 in
theorem s5_8 (t : Bool) : S5_8 D m (Int.ofNat a) (Int.ofNat b) (Int.ofNat c) t h = some (.ret (.bool (!t && (!(leB a b && leB b c) || leB a c))) h, .no) := by
  unfold S5_8
  cases t
  · exact s5_2 hI3 m a b c h
  · rfl
 include hI2 hI3 hN ha hb in
theorem s5_7 (t : Bool) : S5_7 D m (Int.ofNat a) (Int.ofNat b) (Int.ofNat c) t h = some (.ret (.bool (!(t || (ltB a b == ltB (negN b) (negN a)) != true) && (!(leB a b && leB b c) || leB a c))) h, .no) := by
  unfold S5_7
  cases t
  · show cal D 17 [vI (Int.ofNat 52), AV.int .u64 (Int.ofNat a), AV.int .u64 (Int.ofNat b)] h _ = _
    rw [hI2]
    show cal D 18 [AV.int .u64 (Int.ofNat b)] h _ = _
    rw [hN b hb]
    show cal D 18 [AV.int .u64 (Int.ofNat a)] h _ = _
    rw [hN a ha]
    show cal D 17 [vI (Int.ofNat 52), AV.int .u64 (Int.ofNat (negN b)), AV.int .u64 (Int.ofNat (negN a))] h _ = _
    rw [hI2]
    exact s5_8 hI3 m a b c h _
  · exact s5_8 hI3 m a b c h true
 include hI1 hI2 hI3 hN ha hb in
/-- n of the three hold; whether both are numbers. -/
theorem s5_1 (n : Nat) (t : Bool) : S5_1 D m (Int.ofNat a) (Int.ofNat b) (Int.ofNat c) (Int.ofNat n) t h = some (.ret (.bool (!((Nat.beq n 1 == t) != true || Nat.ble 2 n || (leB a b == (ltB a b || eqB a b)) != true || (ltB a b == ltB (negN b) (negN a)) != true) && (!(leB a b && leB b c) || leB a c))) h, .no) := by
  unfold S5_1
  show obB (brV ((Nat.beq n 1 == t) != true) (some (vB true)) (some (vB (Nat.ble 2 n)))) _ = _
  cases e1 : ((Nat.beq n 1 == t) != true)
  · show br (Nat.ble 2 n) _ _ = _
    cases e2 : Nat.ble 2 n
    · show cal D 17 [vI (Int.ofNat 53), AV.int .u64 (Int.ofNat a), AV.int .u64 (Int.ofNat b)] h _ = _
      rw [hI3]
      show cal D 17 [vI (Int.ofNat 52), AV.int .u64 (Int.ofNat a), AV.int .u64 (Int.ofNat b)] h _ = _
      rw [hI2]
      show br (ltB a b) _ _ = _
      cases e3 : ltB a b
      · show cal D 17 [vI (Int.ofNat 51), AV.int .u64 (Int.ofNat a), AV.int .u64 (Int.ofNat b)] h _ = _
        rw [hI1]
        have := s5_7 hI2 hI3 hN m a b c ha hb h ((leB a b == eqB a b) != true)
        rw [e3] at this
        exact this
      · have := s5_7 hI2 hI3 hN m a b c ha hb h ((leB a b == true) != true)
        rw [e3] at this
        exact this
    · exact s5_7 hI2 hI3 hN m a b c ha hb h true
  · exact s5_7 hI2 hI3 hN m a b c ha hb h true
def numQ (a : Nat) : Bool := notQ (eqQ (Int.ofNat (canonN a)) (Int.ofNat 9221120237041090560))
 include hI1 hI2 hI3 hC hN ha hb in
theorem s5_0 (n : Nat) : S5_0 D m (Int.ofNat a) (Int.ofNat b) (Int.ofNat c) (Int.ofNat n) h = some (.ret (.bool (!((Nat.beq n 1 == (numQ a && numQ b)) != true || Nat.ble 2 n || (leB a b == (ltB a b || eqB a b)) != true || (ltB a b == ltB (negN b) (negN a)) != true) && (!(leB a b && leB b c) || leB a c))) h, .no) := by
  unfold S5_0
  rw [hC]
  show br (numQ a) _ _ = _
  cases e1 : numQ a
  · exact s5_1 hI1 hI2 hI3 hN m a b c ha hb h n false
  · show cal D 15 [AV.int .u64 (Int.ofNat b)] h _ = _
    rw [hC]
    exact s5_1 hI1 hI2 hI3 hN m a b c ha hb h n (numQ b)
theorem s5_11 (x y z : Int) (p q r : Bool) : S5_11 D 999 x y z (Int.ofNat 0) (AV.agg [vB p, vB q, vB r]) (Int.ofNat 0) h = S5_0 D 999 x y z (Int.ofNat (p.toNat + q.toNat + r.toNat)) h := by
  cases p <;> cases q <;> cases r <;> kernel_rfl
 include hA hI1 hI2 hI3 hC hN ha hb in
theorem s5_13 : S5_13 D 999 (Int.ofNat a) (Int.ofNat b) (Int.ofNat c) h = some (.ret (.bool (!((Nat.beq ((ltB a b).toNat + (ltB b a).toNat + (eqB a b).toNat) 1 == (numQ a && numQ b)) != true || Nat.ble 2 ((ltB a b).toNat + (ltB b a).toNat + (eqB a b).toNat) || (leB a b == (ltB a b || eqB a b)) != true || (ltB a b == ltB (negN b) (negN a)) != true) && (!(leB a b && leB b c) || leB a c))) h, .no) := by
  unfold S5_13
  rw [hA]
  show cal D 17 [vI (Int.ofNat 52), AV.int .u64 (Int.ofNat a), AV.int .u64 (Int.ofNat b)] h _ = _
  rw [hI2]
  show cal D 17 [vI (Int.ofNat 52), AV.int .u64 (Int.ofNat b), AV.int .u64 (Int.ofNat a)] h _ = _
  rw [hI2]
  show cal D 17 [vI (Int.ofNat 51), AV.int .u64 (Int.ofNat a), AV.int .u64 (Int.ofNat b)] h _ = _
  rw [hI1]
  show S5_11 D 999 (Int.ofNat a) (Int.ofNat b) (Int.ofNat c) (Int.ofNat 0) (AV.agg [vB (ltB a b), vB (ltB b a), vB (eqB a b)]) (Int.ofNat 0) h = _
  rw [s5_11]
  exact s5_0 hI1 hI2 hI3 hC hN 999 a b c ha hb h _
end
theorem ne_nan (x : Nat) : neB x = Rl.nan x := by
  cases h : Rl.nan x with
  | true =>
    show ((Ieee.double.read x).order (Ieee.double.read x) != some .eq) = true
    rw [Rl.order_nan_left h]; rfl
  | false =>
    have := (Rl.eq_iff h h).2 ⟨rfl, rfl⟩
    show (!(Rl.eq x x)) = false
    rw [this]; rfl
theorem num (x : Nat) : numQ x = !neB x := by
  cases h : neB x with
  | true =>
    show notQ (Nat.beq (Bool.rec x NANC (neB x)) 9221120237041090560) = _
    rw [h]; rfl
  | false =>
    show notQ (Nat.beq (Bool.rec x NANC (neB x)) 9221120237041090560) = _
    rw [h]
    show notQ (Nat.beq x 9221120237041090560) = true
    cases e : Nat.beq x 9221120237041090560 with
    | false => rfl
    | true =>
      obtain rfl := Nat.eq_of_beq_eq_true e
      exact absurd h (by rw [ne_nan]; decide +kernel)
theorem tb (a : Nat) (ha : a < 2 ^ 64) : ∀ i, (Nat.lor ((BitVec.ofInt 64 (Int.ofNat a) &&& ~~~ BitVec.ofInt 64 (Int.ofNat 9223372036854775808)).toNat % 18446744073709551616) (Nat.land (Nat.xor a 9223372036854775808) 9223372036854775808)).testBit i = (if i = 63 then !a.testBit 63 else a.testBit i) := fun i => by
  show ((_ : Nat) ||| ((a ^^^ 9223372036854775808) &&& 9223372036854775808)).testBit i = _
  have e1 : (18446744073709551616 : Nat) = 2 ^ 64 := rfl
  have e2 : (9223372036854775808 : Nat) = 2 ^ 63 := rfl
  have e3 : BitVec.ofInt 64 (Int.ofNat a) = BitVec.ofNat 64 a := BitVec.ofInt_natCast 64 a
  have e4 : BitVec.ofInt 64 (Int.ofNat 9223372036854775808) = BitVec.twoPow 64 63 := by decide
  rw [e3, e4, e1, e2]
  rw [Nat.testBit_or, Nat.testBit_and, Nat.testBit_xor, Nat.testBit_mod_two_pow, Nat.testBit_two_pow, BitVec.testBit_toNat, BitVec.getLsbD_and, BitVec.getLsbD_not, BitVec.getLsbD_twoPow, BitVec.getLsbD_ofNat]
  by_cases h : i = 63
  · subst h; simp
  · rw [if_neg h]
    by_cases h2 : i < 64
    · have : ¬ (63 = i) := by omega
      simp [h2, this]
    · have h3 : a.testBit i = false := Nat.testBit_lt_two_pow (Nat.lt_of_lt_of_le ha (Nat.pow_le_pow_right (by omega) (by omega)))
      have : ¬ (63 = i) := by omega
      simp [h2, this, h3]
theorem top (c a : Nat) (h : c.testBit 63 = !a.testBit 63) : (c / 2 ^ 63 % 2 == 1) = !(a / 2 ^ 63 % 2 == 1) := by
  rw [Nat.testBit_eq_decide_div_mod_eq, Nat.testBit_eq_decide_div_mod_eq] at h
  exact h
theorem sign_read {a : Nat} (ha : a < 2 ^ 64) : Ieee.double.read (signN a (flipN a)) = (Ieee.double.read a).opposite := by
  have hb : ∀ i, (signN a (flipN a)).testBit i = (if i = 63 then !a.testBit 63 else a.testBit i) := tb a ha
  refine Rl.read_opp ?_ ?_
  · have h := hb 63
    rw [if_pos rfl] at h
    exact top _ _ h
  · show signN a (flipN a) % 2 ^ 63 = a % 2 ^ 63
    apply Nat.eq_of_testBit_eq
    intro i
    rw [Nat.testBit_mod_two_pow, Nat.testBit_mod_two_pow, hb]
    by_cases h : i < 63
    · rw [if_neg (by omega)]
    · simp [h]
theorem nanc : Rl.nan NANC = true := by decide +kernel
theorem neg_lt {a b : Nat} (ha : a < 2 ^ 64) (hb : b < 2 ^ 64) : ltB (negN b) (negN a) = ltB a b := by
  have ra := sign_read ha
  have rb := sign_read hb
  have na := Rl.nan_opp ra
  have nb := Rl.nan_opp rb
  have ca : negN a = if Rl.nan a = true then NANC else signN a (flipN a) := by
    show (Bool.rec (signN a (flipN a)) NANC (neB (signN a (flipN a))) : Nat) = _
    rw [ne_nan, na]; cases Rl.nan a <;> rfl
  have cb : negN b = if Rl.nan b = true then NANC else signN b (flipN b) := by
    show (Bool.rec (signN b (flipN b)) NANC (neB (signN b (flipN b))) : Nat) = _
    rw [ne_nan, nb]; cases Rl.nan b <;> rfl
  cases h1 : Rl.nan a with
  | true =>
    rw [ca, if_pos h1]
    show Rl.lt _ NANC = Rl.lt a b
    unfold Rl.lt
    rw [Rl.order_nan_right nanc, Rl.order_nan_left h1]
  | false =>
    cases h2 : Rl.nan b with
    | true =>
      rw [cb, if_pos h2]
      show Rl.lt NANC _ = Rl.lt a b
      unfold Rl.lt
      rw [Rl.order_nan_left nanc, Rl.order_nan_right h2]
    | false =>
      rw [if_neg (by rw [h1]; decide)] at ca
      rw [if_neg (by rw [h2]; decide)] at cb
      rw [ca, cb]
      exact Rl.lt_opp ra rb
theorem SF_1000 (t : ST) (f : Nat) (xs : List AV) (h : HP) (u : AMode) : SF t 1000 f xs h u = t.run f (SF t 999) 999 xs h u := rfl
theorem find5 : tabR.run 5 = S5 := by kernel_rfl
theorem enter5 (D : CallD) (m : Nat) (a b c : Int) (h : HP) : S5 D m [.int .u64 a, .int .u64 b, .int .u64 c] h .no = S5_13 D m a b c h := rfl
theorem runO (m : Int) (a b c : Nat) (ha : a < 2 ^ 64) (hb : b < 2 ^ 64) : isTrue (SF tabR 1000 5 [.int .u64 (.ofNat a), .int .u64 (.ofNat b), .int .u64 (.ofNat c)] (gH m) .no) = true := by
  have e : SF tabR 1000 5 [.int .u64 (.ofNat a), .int .u64 (.ofNat b), .int .u64 (.ofNat c)] (gH m) .no = S5_13 (SF tabR 999) 999 (Int.ofNat a) (Int.ofNat b) (Int.ofNat c) (gH m) := by
    rw [SF_1000, find5, enter5]
  have hN : ∀ (a : Nat), a < 2 ^ 64 → ∀ h k, cal (SF tabR 999) 18 [AV.int .u64 (Int.ofNat a)] h k = k (AV.int .u64 (Int.ofNat (negN a))) h := fun a ha h k => by
    have e : SF tabR 999 18 [AV.int .u64 (Int.ofNat a)] h .no = some (.ret (.int .u64 (.ofNat (negN a))) h, .no) := by
      show obQ (bif Nat.ble a 18446744073709551615 then some ((AV.int .u64 (.ofNat (negN a))), h) else none) _ = _
      rw [show Nat.ble a 18446744073709551615 = true from by rw [Nat.ble_eq]; omega]
      rfl
    unfold cal calC
    rw [e]
    rfl
  rw [e, s5_13 (D := SF tabR 999) (fun h k => by kernel_rfl) (fun a b h k => by kernel_rfl) (fun a b h k => by kernel_rfl) (fun a b h k => by kernel_rfl) (fun a h k => by kernel_rfl) hN a b c ha hb]
  have el : ∀ x y, leB x y = (ltB x y || eqB x y) := fun _ _ => rfl
  have en : ltB (negN b) (negN a) = ltB a b := neg_lt ha hb
  have hq : ∀ x, numQ x = !neB x := num
  have hn : ∀ x, neB x = Rl.nan x := ne_nan
  have ht : leB a b = true → leB b c = true → leB a c = true := fun h1 h2 => Rl.le_trans h1 h2
  rw [en, hq, hq, hn, hn, el a b]
  show _ = true
  cases hna : (Rl.nan a || Rl.nan b) with
  | false =>
    have h1 := Rl.tri a b hna
    rw [Bool.or_eq_false_iff] at hna
    rw [hna.1, hna.2]
    rw [el a b] at ht
    rcases h1 with ⟨x, y, z⟩ | ⟨x, y, z⟩ | ⟨x, y, z⟩
    · have x : ltB a b = true := x
      have y : ltB b a = false := y
      have z : eqB a b = false := z
      rw [x, y, z]
      cases e1 : leB b c <;> cases e2 : leB a c <;> first | rfl | (exfalso; have := ht (by rw [x, z]; rfl) e1; rw [e2] at this; cases this)
    · have x : ltB a b = false := x
      have y : ltB b a = true := y
      have z : eqB a b = false := z
      rw [x, y, z]
      cases e1 : leB b c <;> cases e2 : leB a c <;> rfl
    · have x : ltB a b = false := x
      have y : ltB b a = false := y
      have z : eqB a b = true := z
      rw [x, y, z]
      cases e1 : leB b c <;> cases e2 : leB a c <;> first | rfl | (exfalso; have := ht (by rw [x, z]; rfl) e1; rw [e2] at this; cases this)
  | true =>
    obtain ⟨x, y, z⟩ := Rl.no a b hna
    have x : ltB a b = false := x
    have y : ltB b a = false := y
    have z : eqB a b = false := z
    rw [x, y, z]
    have : (!Rl.nan a && !Rl.nan b) = false := by
      cases h1 : Rl.nan a <;> cases h2 : Rl.nan b <;> simp [h1, h2] at hna ⊢
    rw [this]
    cases e1 : leB b c <;> cases e2 : leB a c <;> rfl
end
end Go.Proofs.YtbfdhoggchedjaaGreatDoor.Sx
