/- The program's word operations answer what the document's do. -/
import Derived.Test.YtakcpnpeadkfpaaGreatDoorWs
set_option linter.unusedVariables false
set_option linter.unusedSimpArgs false
namespace Go.Proofs.YtakcpnpeadkfpaaGreatDoor.Sx
open Go Go.Proofs.YtakcpnpeadkfpaaGreatDoor.Ev
set_option linter.unusedSectionVars false
noncomputable section
variable [Rho]
theorem wN {a : Nat} (h : a < 4294967296) : wrapF .i64 (Int.ofNat a) = (a : Int) := wrapF_nat (n := a) (by show a ≤ 9223372036854775807; omega)
theorem c1 {a b : Nat} (ha : a < 4294967296) (hb : b < 4294967296) : wrQ .u32 (addQ (Int.ofNat a) (Int.ofNat b)) = doW 1 a b := by
 rw [doW_1, wN ha, wN hb, addQ_eq, addF_eq, wrQ_eq, wu32, addQ_eq, addF_eq, wrQ_eq, wi64 _ (by omega) (by omega), ofw_eq _ (by omega) (by omega)]
 rfl
theorem c2 {a b : Nat} (ha : a < 4294967296) (hb : b < 4294967296) : wrQ .u32 (Int.ofNat a - Int.ofNat b) = doW 2 a b := by
 rw [doW_2, wN ha, wN hb, wrQ_eq, wu32, wrQ_eq, wi64 _ (by omega) (by omega), ofw_eq _ (by omega) (by omega)]
 rfl
theorem and31 (b : Nat) : Nat.land b 31 = b % 32 := Nat.and_two_pow_sub_one_eq_mod b 5
theorem c3 {a b : Nat} (ha : a < 4294967296) : IntKind.u32.wrap (Int.ofNat a * 2 ^ (min (b % 32) 32)) = doW 3 a b := by
 have hb : b % 32 < 32 := Nat.mod_lt _ (by omega)
 have e0 : min (b % 32) 32 = b % 32 := by omega
 have hp : (2 : Int) ^ (b % 32) = ((2 ^ (b % 32) : Nat) : Int) := by simp
 have hm : 2 ^ (32 - b % 32) * 2 ^ (b % 32) = 4294967296 := by rw [← Nat.pow_add]; rw [show 32 - b % 32 + b % 32 = 32 from by omega]
 have hlt : a % 2 ^ (32 - b % 32) * 2 ^ (b % 32) < 4294967296 := by
  have := Nat.mod_lt a (Nat.two_pow_pos (32 - b % 32))
  have h2 := Nat.mul_lt_mul_of_pos_right this (Nat.two_pow_pos (b % 32))
  omega
 have e1 : Int.tmod (a : Int) (Int.ofNat (2 ^ (32 - b % 32))) * Int.ofNat (2 ^ (b % 32)) = ((a % 2 ^ (32 - b % 32) * 2 ^ (b % 32) : Nat) : Int) := rfl
 rw [doW_3, wN ha, e1, wrQ_eq, wi64 _ (by omega) (by omega), ofw_eq _ (by omega) (by omega), ← wrapF_eq, wu32, e0, hp]
 show ((a * 2 ^ (b % 32) : Nat) : Int) % 4294967296 = _
 have h3 : a * 2 ^ (b % 32) % 4294967296 = a % 2 ^ (32 - b % 32) * 2 ^ (b % 32) := by rw [← hm, Nat.mul_mod_mul_right]
 omega
theorem sgn_bd {a : Nat} (ha : a < 4294967296) : -2147483648 ≤ sgn (Int.ofNat a) ∧ sgn (Int.ofNat a) < 2147483648 := by
 rw [sgn_eq a ha]; split <;> omega
theorem fdiv_bd (x : Int) (k : Nat) (h : -2147483648 ≤ x ∧ x < 2147483648) : -2147483648 ≤ x.fdiv (2 ^ k) ∧ x.fdiv (2 ^ k) < 2147483648 := by
 have hpos := Nat.two_pow_pos k
 have hp : (2 : Int) ^ k = ((2 ^ k : Nat) : Int) := by simp
 rw [hp]
 generalize 2 ^ k = y at *
 rw [Int.fdiv_eq_ediv_of_nonneg _ (by omega)]
 have h1 := Int.mul_ediv_add_emod x (y : Int)
 have h2 : 0 ≤ x % (y : Int) := Int.emod_nonneg _ (by omega)
 have h3 : x % (y : Int) < y := Int.emod_lt_of_pos _ (by omega)
 constructor
 ·by_cases h4 : x / (y : Int) < -2147483648
  ·exfalso
   have h5 : (y : Int) * (x / (y : Int)) ≤ (y : Int) * (-2147483649) := Int.mul_le_mul_of_nonneg_left (by omega) (by omega)
   omega
  ·omega
 ·by_cases h4 : x / (y : Int) < 2147483648
  ·exact h4
  ·exfalso
   have h5 : (y : Int) * 2147483648 ≤ (y : Int) * (x / (y : Int)) := Int.mul_le_mul_of_nonneg_left (by omega) (by omega)
   omega
theorem c8 {a b : Nat} (ha : a < 4294967296) : wrapF .u32 ((wrapF .i32 (Int.ofNat a)).fdiv (2 ^ (min (b % 32) 32))) = doW 8 a b := by
 have hb : b % 32 < 32 := Nat.mod_lt _ (by omega)
 have e0 : min (b % 32) 32 = b % 32 := by omega
 have h1 := sgn_bd ha
 have h2 := fdiv_bd _ (b % 32) h1
 rw [doW_8, flr_eq _ _ (by omega) (by omega) (by omega), ofw_eq _ (by omega) (by omega), ← sgn_i32 a ha, e0, wu32]
theorem opN_lt (how a b : Nat) (ha : a < 4294967296) (hb : b < 4294967296) : opN how a b < 4294967296 := by
 unfold opN
 split
 ·exact Nat.xor_lt_two_pow (n := 32) ha hb
 ·exact Nat.or_lt_two_pow (n := 32) ha hb
 ·exact Nat.lt_of_le_of_lt Nat.and_le_left ha
theorem cb (how op : Nat) (h : (op = 6 ∧ how = 1) ∨ (op = 9 ∧ how = 2) ∨ (op = 10 ∧ how = 3)) {a b : Nat} (ha : a < 4294967296) (hb : b < 4294967296) : wrapF .u32 (Int.ofNat (opN how a b)) = doW op a b := by
 have hl := opN_lt how a b ha hb
 rw [doW_b how op h, bits_eq how a b (by omega), wu32]
 show ((opN how a b : Nat) : Int) % 4294967296 = ((opN how a b % 4294967296 : Nat) : Int)
 omega
theorem c11 {a b : Nat} (ha : a < 4294967296) (hb : b < 4294967296) : wrapF .u32 (wrQ .u64 (Int.ofNat a * Int.ofNat b)) = doW 11 a b := by
 have hab : a * b < 18446744073709551616 := by
  have h1 : a * b ≤ 4294967295 * 4294967295 := Nat.mul_le_mul (by omega) (by omega)
  omega
 have e1 : wrQ .u64 (Int.ofNat a * Int.ofNat b) = ((a * b : Nat) : Int) := wrQ_nat (n := a * b) (by show a * b ≤ 18446744073709551615; omega)
 obtain ⟨a1, a0, h0, rfl⟩ : ∃ a1 a0, a0 < 65536 ∧ a = a1 * 65536 + a0 := ⟨a / 65536, a % 65536, Nat.mod_lt _ (by omega), by omega⟩
 obtain ⟨b1, b0, h2, rfl⟩ : ∃ b1 b0, b0 < 65536 ∧ b = b1 * 65536 + b0 := ⟨b / 65536, b % 65536, Nat.mod_lt _ (by omega), by omega⟩
 have ha1 : a1 < 65536 := by omega
 have hb1 : b1 < 65536 := by omega
 have m1 : a0 * (b1 * 65536 + b0) ≤ 65535 * 4294967295 := Nat.mul_le_mul (by omega) (by omega)
 have m2 : a1 * b0 ≤ 65535 * 65535 := Nat.mul_le_mul (by omega) (by omega)
 have f1 : Int.tmod ((a1 * 65536 + a0 : Nat) : Int) (Int.ofNat 65536) = ((a0 : Nat) : Int) := by
  show (((a1 * 65536 + a0) % 65536 : Nat) : Int) = _; congr 1; omega
 have f2 : Int.tdiv ((a1 * 65536 + a0 : Nat) : Int) (Int.ofNat 65536) = ((a1 : Nat) : Int) := by
  show (((a1 * 65536 + a0) / 65536 : Nat) : Int) = _; congr 1; omega
 have f3 : Int.tmod ((b1 * 65536 + b0 : Nat) : Int) (Int.ofNat 65536) = ((b0 : Nat) : Int) := by
  show (((b1 * 65536 + b0) % 65536 : Nat) : Int) = _; congr 1; omega
 have f4 : wrapF .i64 ((a1 : Nat) : Int) = ((a1 : Nat) : Int) := wrapF_nat (n := a1) (by show a1 ≤ 9223372036854775807; omega)
 have f5 : wrQ .i64 (((a0 : Nat) : Int) * ((b1 * 65536 + b0 : Nat) : Int)) = ((a0 * (b1 * 65536 + b0) : Nat) : Int) := wrQ_nat (n := a0 * (b1 * 65536 + b0)) (by show _ ≤ 9223372036854775807; omega)
 have f6 : wrQ .i64 (((a1 : Nat) : Int) * ((b0 : Nat) : Int)) = ((a1 * b0 : Nat) : Int) := wrQ_nat (n := a1 * b0) (by show _ ≤ 9223372036854775807; omega)
 have f7 : wrQ .i64 (((a1 * b0 : Nat) : Int) * Int.ofNat 65536) = ((a1 * b0 * 65536 : Nat) : Int) := wrQ_nat (n := a1 * b0 * 65536) (by show _ ≤ 9223372036854775807; omega)
 rw [doW_11, wN ha, wN hb, f1, f2, f3, f4, f5, f6, f7, addQ_eq, addF_eq, e1, wrQ_eq, wi64 _ (by omega) (by omega), ofw_eq _ (by omega) (by omega), wu32]
 have ex : (a1 * 65536 + a0) * (b1 * 65536 + b0) = a0 * (b1 * 65536 + b0) + a1 * b0 * 65536 + (a1 * b1) * 4294967296 := by
  have e2 : a1 * 65536 * (b1 * 65536 + b0) = a1 * b0 * 65536 + (a1 * b1) * 4294967296 := by
   rw [Nat.mul_add]
   have e3 : a1 * 65536 * (b1 * 65536) = a1 * b1 * 4294967296 := by rw [Nat.mul_mul_mul_comm]
   have e4 : a1 * 65536 * b0 = a1 * b0 * 65536 := Nat.mul_right_comm ..
   omega
  rw [Nat.add_mul, e2]; omega
 rw [ex]
 omega
theorem c14 {a b : Nat} (ha : a < 4294967296) (hb : b < 4294967296) (hb0 : b ≠ 0) : wrapF .u32 (wrapF .i32 (Int.tdiv (wrapF .i32 (Int.ofNat a)) (wrapF .i32 (Int.ofNat b)))) = doW 14 a b := by
 have h1 := sgn_bd ha
 have h2 := sgn_bd hb
 have hne : sgn (Int.ofNat b) ≠ 0 := by rw [sgn_eq b hb]; split <;> omega
 rw [doW_14, eqQ_dec, decide_eq_false (show ¬ sgn (Int.ofNat b) = Int.ofNat 0 from hne), ← sgn_i32 a ha, ← sgn_i32 b hb, wi32_u]
 generalize sgn (Int.ofNat a) = x at *
 generalize sgn (Int.ofNat b) = y at *
 have hq : (x.tdiv y).natAbs ≤ x.natAbs := by rw [Int.natAbs_tdiv]; exact Nat.div_le_self _ _
 show wrapF .u32 (x.tdiv y) = ofw (wrapF .i64 (x.tdiv y))
 rw [wi64 _ (by omega) (by omega), ofw_eq _ (by omega) (by omega), wu32]
theorem c16 {a b : Nat} (ha : a < 4294967296) (hb : b < 4294967296) (hb0 : b ≠ 0) : wrapF .u32 (Int.tmod (wrapF .i32 (Int.ofNat a)) (wrapF .i32 (Int.ofNat b))) = doW 16 a b := by
 have h1 := sgn_bd ha
 have h2 := sgn_bd hb
 have hne : sgn (Int.ofNat b) ≠ 0 := by rw [sgn_eq b hb]; split <;> omega
 rw [doW_16, eqQ_dec, decide_eq_false (show ¬ sgn (Int.ofNat b) = Int.ofNat 0 from hne), ← sgn_i32 a ha, ← sgn_i32 b hb]
 generalize sgn (Int.ofNat a) = x at *
 generalize sgn (Int.ofNat b) = y at *
 have hq : (x.tmod y).natAbs ≤ x.natAbs := by rw [Int.natAbs_tmod]; exact Nat.mod_le _ _
 show wrapF .u32 (x.tmod y) = ofw (x.tmod y)
 rw [ofw_eq _ (by omega) (by omega), wu32]
theorem c0 (a : Nat) : doW 14 a 0 = Int.ofNat 4294967295 ∧ doW 16 a 0 = Int.ofNat a := by
 have h : sgn (Int.ofNat 0) = 0 := by rw [sgn_eq 0 (by omega)]; rfl
 constructor
 ·rw [doW_14, eqQ_dec, h]; rfl
 ·rw [doW_16, eqQ_dec, h]; rfl
end
end Go.Proofs.YtakcpnpeadkfpaaGreatDoor.Sx
