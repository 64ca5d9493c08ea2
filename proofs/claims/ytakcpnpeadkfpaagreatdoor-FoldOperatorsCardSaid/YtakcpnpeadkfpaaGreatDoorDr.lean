/- The program's reals are the reference's. -/
import Derived.Test.YtakcpnpeadkfpaaGreatDoorLC
import Derived.Test.YtakcpnpeadkfpaaGreatDoorPr
set_option linter.unusedVariables false
set_option linter.unusedSimpArgs false
set_option linter.unusedSectionVars false
namespace Go.Proofs.YtakcpnpeadkfpaaGreatDoor.Lg
open Go Go.Proofs.YtakcpnpeadkfpaaGreatDoor.Ev Go.Proofs.YtakcpnpeadkfpaaGreatDoor.Sx
noncomputable section
abbrev ord (a b : Nat) : Option Ordering := FloatKind.f64.format.order a b
def ltB (a b : Nat) : Bool := ord a b == some .lt
def eqB (a b : Nat) : Bool := ord a b == some .eq
def leB (a b : Nat) : Bool := ord a b == some .lt || ord a b == some .eq
def neB (a : Nat) : Bool := ord a a != some .eq
def NANC : Nat := 9221120237041090560
def canonN (a : Nat) : Nat := Bool.rec a NANC (neB a)
def resN (r : Option Nat) : Nat := Option.rec NANC canonN r
def doN (op a b : Nat) : Nat := Bool.rec (Bool.rec (Bool.rec (resN (FloatKind.f64.format.div a b)) (resN (FloatKind.f64.format.mul a b)) (Nat.beq op 47)) (resN (FloatKind.f64.format.sub a b)) (Nat.beq op 46)) (resN (FloatKind.f64.format.add a b)) (Nat.beq op 45)
theorem sf_bits (x : Nat) (h : HP) : SF tabS 19 27 [.flt .f64 x] h .no = some (.ret (.int .u64 (.ofNat (canonN x))) h, .no) := by
 have e : SF tabS 19 27 [.flt .f64 x] h .no = (Bool.rec (some (.ret (.int .u64 (.ofNat x)) h, .no)) (some (.ret (.int .u64 (.ofNat NANC)) h, .no)) (neB x) : Res2) := by kernel_rfl
 rw [e]; unfold canonN; cases neB x <;> rfl
theorem bits_fltR (r : Option Nat) (h : HP) (k : AV → HP → Res2) : cal (SF tabS 19) 27 [fltR .f64 r] h k = k (.int .u64 (.ofNat (resN r))) h := by
 cases r with
 | none =>
  have e : SF tabS 19 27 [fltR .f64 none] h .no = some (.ret (.int .u64 (.ofNat NANC)) h, .no) := by kernel_rfl
  exact cal_of e k
 | some x => exact cal_of (sf_bits x h) k
theorem asI_u (x : Int) (F : Int → Res2) : asI .u64 (AV.int .u64 x) F = F x := rfl
theorem find35 : tabS.run 35 = S35 := by kernel_rfl
theorem find36 : tabS.run 36 = S36 := by kernel_rfl
theorem SF_20 (t : ST) (f : Nat) (xs : List AV) (h : HP) (u : AMode) : SF t 20 f xs h u = t.run f (SF t 19) 19 xs h u := rfl
theorem enter35 (D : CallD) (m : Nat) (a b c : Int) (h : HP) : S35 D m [.int .i64 a, .int .u64 b, .int .u64 c] h .no = S35_0 D m a b c h := rfl
theorem enter36 (D : CallD) (m : Nat) (a b c : Int) (h : HP) : S36 D m [.int .i64 a, .int .u64 b, .int .u64 c] h .no = S36_1 D m a b c h := rfl
theorem bin_add (a b : Nat) (k : AV → Res2) : binC .add (.flt .f64 a) (.flt .f64 b) k = k (fltR .f64 (FloatKind.f64.format.add a b)) := by kernel_rfl
theorem bin_sub (a b : Nat) (k : AV → Res2) : binC .sub (.flt .f64 a) (.flt .f64 b) k = k (fltR .f64 (FloatKind.f64.format.sub a b)) := by kernel_rfl
theorem bin_mul (a b : Nat) (k : AV → Res2) : binC .mul (.flt .f64 a) (.flt .f64 b) k = k (fltR .f64 (FloatKind.f64.format.mul a b)) := by kernel_rfl
theorem bin_div (a b : Nat) (k : AV → Res2) : binC .quo (.flt .f64 a) (.flt .f64 b) k = k (fltR .f64 (FloatKind.f64.format.div a b)) := by kernel_rfl
theorem bin_eql (a b : Nat) (k : AV → Res2) : binC .eql (.flt .f64 a) (.flt .f64 b) k = k (.bool (eqB a b)) := by kernel_rfl
theorem bin_lss (a b : Nat) (k : AV → Res2) : binC .lss (.flt .f64 a) (.flt .f64 b) k = k (.bool (ltB a b)) := by kernel_rfl
theorem bin_leq (a b : Nat) (k : AV → Res2) : binC .leq (.flt .f64 a) (.flt .f64 b) k = k (.bool (leB a b)) := by kernel_rfl
theorem h31 (x : Nat) (h : HP) (k : AV → HP → Res2) : cal (SF tabS 19) 28 [.int .u64 (.ofNat x)] h k = k (.flt .f64 x) h := by kernel_rfl
theorem asB_b (b : Bool) (F : Bool → Res2) : asB (AV.bool b) F = F b := rfl
theorem sf_do {op : Nat} (h1 : 45 ≤ op) (h2 : op ≤ 48) (a b : Nat) (h : HP) : SF tabS 20 35 [.int .i64 (.ofNat op), .int .u64 (.ofNat a), .int .u64 (.ofNat b)] h .no = some (.ret (.tup [uv (doN op a b), iv 0]) h, .no) := by
 rw [SF_20, find35, enter35]
 unfold S35_0
 rw [h31, h31]
 simp only [eq_nat]
 rcases (show op = 45 ∨ op = 46 ∨ op = 47 ∨ op = 48 by omega) with rfl | rfl | rfl | rfl
 ·rw [decide_eq_true rfl, br_t, bin_add, bits_fltR, asI_u]; rfl
 ·rw [decide_eq_false (by decide), br_f, decide_eq_true rfl, br_t, bin_sub, bits_fltR, asI_u]; rfl
 ·rw [decide_eq_false (by decide), br_f, decide_eq_false (by decide), br_f, decide_eq_true rfl, br_t, bin_mul, bits_fltR, asI_u]; rfl
 ·rw [decide_eq_false (by decide), br_f, decide_eq_false (by decide), br_f, decide_eq_false (by decide), br_f, decide_eq_true rfl, br_t, bin_div, bits_fltR, asI_u]; rfl
def cpN (op a b : Nat) : Bool := if op = 51 then eqB a b else if op = 52 then ltB a b else leB a b
theorem s13_0 (D : CallD) (m : Nat) (c : Bool) (h : HP) : S36_0 D m c h = some (.ret (.tup [wv c.toNat, iv 0]) h, .no) := by cases c <;> rfl
theorem sf_cmp' {op : Nat} (h1 : 51 ≤ op) (h2 : op ≤ 53) (a b : Nat) (h : HP) : SF tabS 20 36 [.int .i64 (.ofNat op), .int .u64 (.ofNat a), .int .u64 (.ofNat b)] h .no = some (.ret (.tup [wv (cpN op a b).toNat, iv 0]) h, .no) := by
 rw [SF_20, find36, enter36]
 unfold S36_1
 rw [h31, h31]
 simp only [eq_nat]
 rcases (show op = 51 ∨ op = 52 ∨ op = 53 by omega) with rfl | rfl | rfl
 ·rw [decide_eq_true rfl, br_t, bin_eql, asB_b, s13_0]; rfl
 ·rw [decide_eq_false (by decide), br_f, decide_eq_true rfl, br_t, bin_lss, asB_b, s13_0]; rfl
 ·rw [decide_eq_false (by decide), br_f, decide_eq_false (by decide), br_f, decide_eq_true rfl, br_t, bin_leq, asB_b, s13_0]; rfl
theorem sf_cmp_no {op : Int} (ho : op < 51 ∨ 53 < op) (a b : Nat) (h : HP) : SF tabS 20 36 [.int .i64 op, .int .u64 (.ofNat a), .int .u64 (.ofNat b)] h .no = some (.ret (.tup [wv 0, iv 1]) h, .no) := by
 rw [SF_20, find36, enter36]
 unfold S36_1
 rw [h31, h31]
 simp only [eq_dec]
 rw [decide_eq_false (show ¬ op = Int.ofNat 51 by show ¬ op = (51 : Int); omega), br_f, decide_eq_false (show ¬ op = Int.ofNat 52 by show ¬ op = (52 : Int); omega), br_f, decide_eq_false (show ¬ op = Int.ofNat 53 by show ¬ op = (53 : Int); omega), br_f]
 rfl
open Ieee in
theorem fine_sum {d e p : Datum} (h : d.sum e = some p) : (∃ s m i, p = .number s m i) ∨ ∃ s, p = .infinity s := by
 cases d <;> cases e <;> simp only [Datum.sum] at h
 all_goals first | (simp at h; done) | skip
 all_goals first | (obtain rfl := Option.some.inj h; first | exact .inl ⟨_, _, _, rfl⟩ | exact .inr ⟨_, rfl⟩) | skip
 all_goals split at h
 ·obtain rfl := Option.some.inj h; exact .inr ⟨_, rfl⟩
 ·simp at h
open Ieee in
theorem fine_quot {n : Nat} {d e p : Datum} (h : d.quotient n e = some p) : (∃ s m i, p = .number s m i) ∨ ∃ s, p = .infinity s := by
 cases d <;> cases e <;> simp only [Datum.quotient] at h
 all_goals first | (simp at h; done) | skip
 all_goals first | (obtain rfl := Option.some.inj h; first | exact .inl ⟨_, _, _, rfl⟩ | exact .inr ⟨_, rfl⟩) | skip
 split at h
 ·split at h
  ·simp at h
  ·obtain rfl := Option.some.inj h; exact .inr ⟨_, rfl⟩
 ·obtain rfl := Option.some.inj h; exact .inl ⟨_, _, _, rfl⟩
theorem canon_id {a : Nat} (h : Rl.nan a = false) : canonN a = a := by
 have : neB a = false := by
  unfold neB
  have := (Rl.eq_iff (a := a) (b := a) h h).2 ⟨rfl, rfl⟩
  have e : (ord a a == some Ordering.eq) = true := this
  show (!(ord a a == some .eq)) = false
  rw [e]; rfl
 unfold canonN; rw [this]
theorem res_wrD {r : Option Ieee.Datum} (h : ∀ p, r = some p → (∃ s m i, p = .number s m i) ∨ ∃ s, p = .infinity s) : resN (r.map Ieee.double.write) = wrD r := by
 cases r with
 | none => rfl
 | some p =>
  show canonN (Ieee.double.write p) = Ieee.double.write p
  obtain ⟨s, R, hR, e1, _⟩ := Rl.write_word (h p rfl)
  rw [e1]
  exact canon_id (Rl.word_nan s hR)
theorem do_same {op : Nat} (h1 : 45 ≤ op) (h2 : op ≤ 48) (a b : Nat) : doN op a b = opW op a b := by
 rcases (show op = 45 ∨ op = 46 ∨ op = 47 ∨ op = 48 by omega) with rfl | rfl | rfl | rfl
 ·exact res_wrD fun p h => fine_sum h
 ·exact res_wrD fun p h => fine_sum h
 ·exact res_wrD fun p h => Rl.product_fine h
 ·exact res_wrD fun p h => fine_quot h
theorem cal_ret {D : CallD} {f : Nat} {xs : List AV} {h : HP} {v : AV} (e : D f xs h .no = some (.ret v h, .no)) (k : AV → HP → Res2) : cal D f xs h k = k v h := cal_of e k
def flipN (a : Nat) : Nat := Nat.xor a 9223372036854775808
def restN (a : Nat) : Nat := (BitVec.ofInt (IntKind.bits .u64) (.ofNat a) &&& ~~~ BitVec.ofInt (IntKind.bits .u64) (Int.ofNat 9223372036854775808)).toNat % 18446744073709551616
def signN (a b : Nat) : Nat := Nat.lor (restN a) (Nat.land b 9223372036854775808)
def negN (a : Nat) : Nat := canonN (signN a (flipN a))
theorem fits {k : Nat} (h : k < 2 ^ 64) : wrapF .u64 (.ofNat k) = .ofNat k := by
 show (bif Nat.ble k 18446744073709551615 then Int.ofNat k else _) = _
 rw [show Nat.ble k 18446744073709551615 = true from by rw [Nat.ble_eq]; omega]
 rfl
theorem flip_lt {a : Nat} (h : a < 2 ^ 64) : flipN a < 2 ^ 64 := Nat.xor_lt_two_pow h (by decide)
theorem rest_lt (a : Nat) : restN a < 2 ^ 64 := Nat.mod_lt _ (by decide)
theorem land_lt (b : Nat) : Nat.land b 9223372036854775808 < 2 ^ 64 := Nat.lt_of_le_of_lt Nat.and_le_right (by decide)
theorem sign_lt (a b : Nat) : signN a b < 2 ^ 64 := Nat.or_lt_two_pow (rest_lt a) (land_lt b)
theorem obI_u (x : Int) (F : Int → Res2) : obI .u64 (some (AV.int .u64 x)) F = F x := rfl
theorem bin_and (a b : Nat) : intBin .and .u64 (.ofNat a) (.ofNat b) = some (AV.int .u64 (wrapF .u64 (.ofNat (Nat.land a b)))) := by kernel_rfl
theorem bin_or (a b : Nat) : intBin .or .u64 (.ofNat a) (.ofNat b) = some (AV.int .u64 (wrapF .u64 (.ofNat (Nat.lor a b)))) := by kernel_rfl
theorem bin_xor (a b : Nat) : intBin .xor .u64 (.ofNat a) (.ofNat b) = some (AV.int .u64 (wrapF .u64 (.ofNat (Nat.xor a b)))) := by kernel_rfl
theorem sf_sign (x y : Nat) (h : HP) : SF tabS 19 40 [.flt .f64 x, .flt .f64 y] h .no = some (.ret (.flt .f64 (signN x y)) h, .no) := by
 have e : SF tabS 19 40 [.flt .f64 x, .flt .f64 y] h .no = obI .u64 (intBin .and .u64 (.ofNat y) (.ofNat 9223372036854775808)) fun t10 =>
   obI .u64 (intBin .or .u64 (.ofNat (restN x)) t10) fun t11 => obQ (evP (.xt .ffrom [(.c (AV.int .u64 t11))]) .leaf) fun t12 => some (.ret t12 h, .no) := by kernel_rfl
 rw [e, bin_and, fits (land_lt y), obI_u, bin_or, fits (k := Nat.lor (restN x) (Nat.land y 9223372036854775808)) (sign_lt x y), obI_u]
 rfl
theorem sf_neg (a : Nat) (ha : a < 2 ^ 64) (h : HP) : SF tabS 20 20 [.int .u64 (.ofNat a)] h .no = some (.ret (.int .u64 (.ofNat (negN a))) h, .no) := by
 have e : SF tabS 20 20 [.int .u64 (.ofNat a)] h .no = S20_0 (SF tabS 19) 19 (.ofNat a) h := by kernel_rfl
 rw [e]
 unfold S20_0
 have h31 : ∀ (x : Nat) h k, cal (SF tabS 19) 28 [.int .u64 (.ofNat x)] h k = k (.flt .f64 x) h := fun x h k => by kernel_rfl
 have h42 : ∀ (x y : Nat) h k, cal (SF tabS 19) 40 [.flt .f64 x, .flt .f64 y] h k = k (.flt .f64 (signN x y)) h := fun x y h k => cal_ret (sf_sign x y h) k
 have h32 : ∀ (x : Nat) h k, cal (SF tabS 19) 27 [.flt .f64 x] h k = k (.int .u64 (.ofNat (canonN x))) h := fun x h k => cal_ret (sf_bits x h) k
 rw [h31, bin_xor, fits (k := Nat.xor a 9223372036854775808) (flip_lt ha), obI_u, h31, h42, h32, asI_u]
 rfl
theorem tb (a : Nat) (ha : a < 2 ^ 64) : ∀ i, (Nat.lor ((BitVec.ofInt 64 (Int.ofNat a) &&& ~~~ BitVec.ofInt 64 (Int.ofNat 9223372036854775808)).toNat % 18446744073709551616) (Nat.land (Nat.xor a 9223372036854775808) 9223372036854775808)).testBit i = (if i = 63 then !a.testBit 63 else a.testBit i) := fun i => by
 show ((_ : Nat) ||| ((a ^^^ 9223372036854775808) &&& 9223372036854775808)).testBit i = _
 have e1 : (18446744073709551616 : Nat) = 2 ^ 64 := rfl
 have e2 : (9223372036854775808 : Nat) = 2 ^ 63 := rfl
 have e3 : BitVec.ofInt 64 (Int.ofNat a) = BitVec.ofNat 64 a := BitVec.ofInt_natCast 64 a
 have e4 : BitVec.ofInt 64 (Int.ofNat 9223372036854775808) = BitVec.twoPow 64 63 := by decide
 rw [e3, e4, e1, e2]
 rw [Nat.testBit_or, Nat.testBit_and, Nat.testBit_xor, Nat.testBit_mod_two_pow, Nat.testBit_two_pow, BitVec.testBit_toNat, BitVec.getLsbD_and, BitVec.getLsbD_not, BitVec.getLsbD_twoPow, BitVec.getLsbD_ofNat]
 by_cases h : i = 63
 ·subst h; simp
 ·rw [if_neg h]
  by_cases h2 : i < 64
  ·have : ¬ (63 = i) := by omega
   simp [h2, this]
  ·have h3 : a.testBit i = false := Nat.testBit_lt_two_pow (Nat.lt_of_lt_of_le ha (Nat.pow_le_pow_right (by omega) (by omega)))
   have : ¬ (63 = i) := by omega
   simp [h2, this, h3]
theorem top (c a : Nat) (h : c.testBit 63 = !a.testBit 63) : (c / 2 ^ 63 % 2 == 1) = !(a / 2 ^ 63 % 2 == 1) := by
 rw [Nat.testBit_eq_decide_div_mod_eq, Nat.testBit_eq_decide_div_mod_eq] at h
 exact h
theorem sign_read {a : Nat} (ha : a < 2 ^ 64) : Ieee.double.read (signN a (flipN a)) = (Ieee.double.read a).opposite := by
 have hb : ∀ i, (signN a (flipN a)).testBit i = (if i = 63 then !a.testBit 63 else a.testBit i) := tb a ha
 refine Rl.read_opp ?_ ?_
 ·have h := hb 63
  rw [if_pos rfl] at h
  exact top _ _ h
 ·show signN a (flipN a) % 2 ^ 63 = a % 2 ^ 63
  apply Nat.eq_of_testBit_eq
  intro i
  rw [Nat.testBit_mod_two_pow, Nat.testBit_mod_two_pow, hb]
  by_cases h : i < 63
  ·rw [if_neg (by omega)]
  ·simp [h]
theorem canon_nan {a : Nat} (h : Rl.nan a = true) : canonN a = NANC := by
 have k : (Ieee.double.read a).order (Ieee.double.read a) = none := Rl.order_nan_left h
 have : neB a = true := by
  show ((Ieee.double.read a).order (Ieee.double.read a) != some .eq) = true
  rw [k]; rfl
 unfold canonN; rw [this]
theorem neg_same {a : Nat} (ha : a < 2 ^ 64) : negN a = ngN a := by
 have e : negN a = canonN (signN a (flipN a)) := rfl
 rw [e]
 cases h : isN a with
 | true => rw [canon_nan (by rw [Rl.nan_opp (sign_read ha), nan_is ha]; exact h)]; unfold ngN; rw [h]; rfl
 | false =>
  rw [canon_id (by rw [Rl.nan_opp (sign_read ha), nan_is ha]; exact h)]
  have hb : ∀ i, (signN a (flipN a)).testBit i = (if i = 63 then !a.testBit 63 else a.testBit i) := tb a ha
  have h1 := top (signN a (flipN a)) a (by have := hb 63; rw [if_pos rfl] at this; exact this)
  have h2 : signN a (flipN a) % 2 ^ 63 = a % 2 ^ 63 := by
   apply Nat.eq_of_testBit_eq
   intro i
   rw [Nat.testBit_mod_two_pow, Nat.testBit_mod_two_pow, hb]
   by_cases h : i < 63
   ·rw [if_neg (by omega)]
   ·simp [h]
  have h3 := sign_lt a (flipN a)
  generalize signN a (flipN a) = x at *
  unfold ngN sN
  rw [h, if_neg Bool.false_ne_true]
  split
  ·rename_i g
   have : a / 2 ^ 63 % 2 = 1 := by omega
   rw [this] at h1
   have : x / 2 ^ 63 % 2 ≠ 1 := fun e => by rw [e] at h1; simp at h1
   omega
  ·rename_i g
   have : a / 2 ^ 63 % 2 = 0 := by omega
   rw [this] at h1
   have : x / 2 ^ 63 % 2 = 1 := by simpa using h1
   omega
theorem cmp_same (op a b : Nat) : cpN op a b = cpW op a b := rfl
end
end Go.Proofs.YtakcpnpeadkfpaaGreatDoor.Lg
