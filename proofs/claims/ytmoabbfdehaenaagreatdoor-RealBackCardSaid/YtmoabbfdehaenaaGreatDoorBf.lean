/- Canon and Neg: plain laws. -/
import Derived.Test.YtmoabbfdehaenaaGreatDoorBe
import Derived.Test.YtmoabbfdehaenaaGreatDoorOd
set_option linter.unusedVariables false
set_option linter.unusedSimpArgs false
set_option linter.unusedSectionVars false
set_option maxRecDepth 20000
namespace Go.Proofs.YtmoabbfdehaenaaGreatDoor.Lx
open Go Go.Proofs.YtmoabbfdehaenaaGreatDoor.Ev Go.Proofs.YtmoabbfdehaenaaGreatDoor.Sx Go.Proofs.YtmoabbfdehaenaaGreatDoor
noncomputable section
theorem ne_nan (x : Nat) : neB x = Rl.nan x := by
  cases h : Rl.nan x with
  | true =>
    show ((Ieee.double.read x).order (Ieee.double.read x) != some .eq) = true
    rw [Rl.order_nan_left h]; rfl
  | false =>
    have := (Rl.eq_iff h h).2 ⟨rfl, rfl⟩
    show (!(Rl.eq x x)) = false
    rw [this]; rfl
theorem nanc : Rl.nan NANC = true := by decide +kernel
theorem canon_nan {x : Nat} (h : Rl.nan x = true) : canonN x = NANC := by
  unfold canonN; rw [ne_nan, h]
theorem canon_id {x : Nat} (h : Rl.nan x = false) : canonN x = x := by
  unfold canonN; rw [ne_nan, h]
theorem canon_canon (a : Nat) : canonN (canonN a) = canonN a := by
  cases h : Rl.nan a with
  | true => rw [canon_nan h, canon_nan nanc]
  | false => rw [canon_id h, canon_id h]
theorem tb (a : Nat) (ha : a < 2 ^ 64) : ∀ i, (Nat.lor ((BitVec.ofInt 64 (Int.ofNat a) &&& ~~~ BitVec.ofInt 64 (Int.ofNat 9223372036854775808)).toNat % 18446744073709551616) (Nat.land (Nat.xor a 9223372036854775808) 9223372036854775808)).testBit i = (if i = 63 then !a.testBit 63 else a.testBit i) := fun i => by
  show ((_ : Nat) ||| ((a ^^^ 9223372036854775808) &&& 9223372036854775808)).testBit i = _
  have e1 : (18446744073709551616 : Nat) = 2 ^ 64 := rfl
  have e2 : (9223372036854775808 : Nat) = 2 ^ 63 := rfl
  have e3 : BitVec.ofInt 64 (Int.ofNat a) = BitVec.ofNat 64 a := BitVec.ofInt_natCast 64 a
  have e4 : BitVec.ofInt 64 (Int.ofNat 9223372036854775808) = BitVec.twoPow 64 63 := by decide
  rw [e3, e4, e1, e2]
  rw [Nat.testBit_or, Nat.testBit_and, Nat.testBit_xor, Nat.testBit_mod_two_pow, Nat.testBit_two_pow, BitVec.testBit_toNat, BitVec.getLsbD_and, BitVec.getLsbD_not, BitVec.getLsbD_twoPow, BitVec.getLsbD_ofNat]
  by_cases h : i = 63
  · subst h; simp
  · rw [if_neg h]
    by_cases h2 : i < 64
    · have : ¬ (63 = i) := by omega
      simp [h2, this]
    · have h3 : a.testBit i = false := Nat.testBit_lt_two_pow (Nat.lt_of_lt_of_le ha (Nat.pow_le_pow_right (by omega) (by omega)))
      have : ¬ (63 = i) := by omega
      simp [h2, this, h3]
theorem top (c a : Nat) (h : c.testBit 63 = !a.testBit 63) : (c / 2 ^ 63 % 2 == 1) = !(a / 2 ^ 63 % 2 == 1) := by
  rw [Nat.testBit_eq_decide_div_mod_eq, Nat.testBit_eq_decide_div_mod_eq] at h
  exact h
theorem sign_read {a : Nat} (ha : a < 2 ^ 64) : Ieee.double.read (signN a (flipN a)) = (Ieee.double.read a).opposite := by
  have hb : ∀ i, (signN a (flipN a)).testBit i = (if i = 63 then !a.testBit 63 else a.testBit i) := tb a ha
  refine Rl.read_opp ?_ ?_
  · have h := hb 63
    rw [if_pos rfl] at h
    exact top _ _ h
  · show signN a (flipN a) % 2 ^ 63 = a % 2 ^ 63
    apply Nat.eq_of_testBit_eq
    intro i
    rw [Nat.testBit_mod_two_pow, Nat.testBit_mod_two_pow, hb]
    by_cases h : i < 63
    · rw [if_neg (by omega)]
    · simp [h]
theorem neg_nan {a : Nat} (ha : a < 2 ^ 64) (h : Rl.nan a = true) : negN a = NANC := canon_nan (by rw [Rl.nan_opp (sign_read ha)]; exact h)
theorem neg_num {a : Nat} (ha : a < 2 ^ 64) (h : Rl.nan a = false) : negN a = signN a (flipN a) := canon_id (by rw [Rl.nan_opp (sign_read ha)]; exact h)
theorem sign_sign {a : Nat} (ha : a < 2 ^ 64) : signN (signN a (flipN a)) (flipN (signN a (flipN a))) = a := by
  have h1 : ∀ i, (signN a (flipN a)).testBit i = (if i = 63 then !a.testBit 63 else a.testBit i) := tb a ha
  have hb := sign_lt a (flipN a)
  have h2 : ∀ i, (signN (signN a (flipN a)) (flipN (signN a (flipN a)))).testBit i = (if i = 63 then !(signN a (flipN a)).testBit 63 else (signN a (flipN a)).testBit i) := tb _ hb
  apply Nat.eq_of_testBit_eq
  intro i
  rw [h2 i, h1 63, h1 i, if_pos rfl]
  by_cases h : i = 63
  · subst h; simp
  · simp [h]
theorem neg_neg {a : Nat} (ha : a < 2 ^ 64) : negN (negN a) = canonN a := by
  cases h : Rl.nan a with
  | true => rw [neg_nan ha h, canon_nan h, neg_nan (by decide) nanc]
  | false =>
    rw [neg_num ha h, canon_id h, neg_num (sign_lt _ _) (by rw [Rl.nan_opp (sign_read ha)]; exact h), sign_sign ha]
theorem negN_lt (a : Nat) : negN a < 2 ^ 64 := canon_lt (sign_lt _ _)
end
end Go.Proofs.YtmoabbfdehaenaaGreatDoor.Lx
