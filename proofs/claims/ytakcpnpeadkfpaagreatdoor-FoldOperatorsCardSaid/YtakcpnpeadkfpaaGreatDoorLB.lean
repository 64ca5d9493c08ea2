/- Long numbers: what the printed functions Do, Compare of the reference answer. -/
import Derived.Test.YtakcpnpeadkfpaaGreatDoorLA
set_option linter.unusedVariables false
set_option linter.unusedSimpArgs false
set_option linter.unusedSectionVars false
namespace Go.Proofs.YtakcpnpeadkfpaaGreatDoor.Lg
open Go Go.Proofs.YtakcpnpeadkfpaaGreatDoor.Ev Go.Proofs.YtakcpnpeadkfpaaGreatDoor.Sx
noncomputable section
abbrev NANW : Nat := 9221120237041090560
open Ieee in
def wrD (r : Option Datum) : Nat := match r with | some d => double.write d | none => NANW
theorem obB_s (c : Bool) (F : Bool → Res2) : obB (some (vB c)) F = F c := rfl
theorem obBV_s (c : Bool) (F : Bool → Option AV) : obBV (some (vB c)) F = F c := rfl
theorem brV_t (x y : Option AV) : brV true x y = x := rfl
theorem brV_f (x y : Option AV) : brV false x y = y := rfl
theorem not_dec (c : Bool) : notQ c = !c := notQ_eq c
open Ieee in
/-- The operation of two words. -/
def opW (op : Nat) (a b : Nat) : Nat :=
 if op = 45 then wrD ((double.read a).sum (double.read b)) else if op = 46 then wrD ((double.read a).sum (double.read b).opposite)
 else if op = 47 then wrD ((double.read a).product (double.read b)) else wrD ((double.read a).quotient 54 (double.read b))
theorem isN_nan {a : Nat} (ha : a < 2 ^ 64) (h : isN a = true) (d : Ieee.Datum) : (Ieee.double.read a).sum d = none ∧ d.sum (Ieee.double.read a) = none ∧ (Ieee.double.read a).product d = none ∧ d.product (Ieee.double.read a) = none ∧ (∀ n, (Ieee.double.read a).quotient n d = none) ∧ (∀ n, d.quotient n (Ieee.double.read a) = none) := Rl.nan_sum (by rw [nan_is ha]; exact h) d
theorem opW_nan {a b : Nat} (ha : a < 2 ^ 64) (hb : b < 2 ^ 64) (h : (isN a || isN b) = true) (op : Nat) : opW op a b = NANW := by
 unfold opW
 rw [Bool.or_eq_true] at h
 rcases h with h | h
 ·have k := isN_nan ha h
  rw [(k _).1, (k _).1, (k _).2.2.1, (k _).2.2.2.2.1]
  split <;> (try split) <;> (try split) <;> rfl
 ·have k := isN_nan hb h
  rw [(k _).2.1, (k _).2.2.2.1, (k _).2.2.2.2.2, Rl.nan_sub (by rw [nan_is hb]; exact h)]
  split <;> (try split) <;> (try split) <;> rfl
abbrev NANT : AV := .tup [uv NANW, vB true]
theorem asB_v (c : Bool) (F : Bool → Res2) : asB (vB c) F = F c := rfl
theorem br_b (c : Bool) (x y : Res2) : br c x y = if c = true then x else y := by cases c <;> rfl
theorem pre_do {op : Nat} (h1 : 45 ≤ op) (h2 : op ≤ 48) {a b : Nat} (ha : a < 2 ^ 64) (hb : b < 2 ^ 64) (n m : Nat) (h : HP) :
  S60_6 (SF tabS (n + 2)) m (Int.ofNat op) (Int.ofNat a) (Int.ofNat b) h = if (isN a || isN b) = true then some (.ret NANT h, .no) else
   S60_0 (SF tabS (n + 2)) m (Int.ofNat op) (Int.ofNat a) (Int.ofNat b) (Int.ofNat (sN a)) (Int.ofNat (eN a)) (Int.ofNat (sN b)) (Int.ofNat (eN b)) (Int.ofNat ((sN a + sN b) % 2)) (Int.ofNat (a % 9223372036854775808)) (Int.ofNat (b % 9223372036854775808)) h := by
 unfold S60_6
 simp only [lt_nat]
 rw [decide_eq_false (by omega : ¬ op < 45), decide_eq_false (by omega : ¬ 48 < op)]
 rw [brV_f, obB_s, br_f, parts_k ha, parts_k hb]
 have s1 : sN a < 2 := by unfold sN; omega
 have s2 : sN b < 2 := by unfold sN; omega
 have e1 : wrQ .u64 (addQ (Int.ofNat (sN a)) (Int.ofNat (sN b))) = Int.ofNat (sN a + sN b) := by rw [add_nat, wru_nat (by omega)]
 have e2 : Int.tmod (Int.ofNat (sN a + sN b)) (Int.ofNat 2) = Int.ofNat ((sN a + sN b) % 2) := tmod_nat _ _
 have e3 : Int.tmod (Int.ofNat a) (Int.ofNat 9223372036854775808) = Int.ofNat (a % 9223372036854775808) := tmod_nat _ _
 have e4 : Int.tmod (Int.ofNat b) (Int.ofNat 9223372036854775808) = Int.ofNat (b % 9223372036854775808) := tmod_nat _ _
 simp only [e1, e2, e3, e4]
 rw [cal_of (sf_isN ha n h), asB_v, br_b]
 by_cases e : isN a = true
 ·rw [if_pos e, e, Bool.true_or, if_pos rfl]
  unfold S60_4
  rw [br_t]
 ·rw [if_neg e, cal_of (sf_isN hb n h), asB_v]
  unfold S60_4
  rw [br_b, Bool.eq_false_iff.2 e, Bool.false_or]
theorem isN_inf {a : Nat} (h : isN a = false) (g : eN a = 2047) : rN a = 0 := by
 unfold isN at h
 rw [decide_eq_true g] at h
 simpa using h
theorem x_zero {a : Nat} (ha : a < 2 ^ 64) : a % 9223372036854775808 = 0 ↔ mN a = 0 := by
 obtain ⟨h1, h2, h3, h4, h5, _⟩ := rung_of ha
 have h1 : a % 9223372036854775808 = eN a * 2 ^ 52 + rN a := h1
 unfold mN
 split <;> omega
theorem inf_x {a : Nat} (ha : a < 2 ^ 64) (g : eN a = 2047) : a % 9223372036854775808 ≠ 0 := by
 obtain ⟨h1, h2, h3, h4, h5, _⟩ := rung_of ha
 have h1 : a % 9223372036854775808 = eN a * 2 ^ 52 + rN a := h1
 omega
open Ieee in
theorem inf_write {a : Nat} (ha : a < 2 ^ 64) (g : eN a = 2047) (r : rN a = 0) : double.write (.infinity (sN a == 1)) = a := by
 obtain ⟨h1, h2, h3, h4, h5, h6⟩ := rung_of ha
 show double.word (sN a == 1) double.infRung = a
 have hs : double.signWeight = 2 ^ 63 := rfl
 have hi : double.infRung = 2047 * 2 ^ 52 := by decide
 unfold Format.word
 rw [hs, hi]
 rcases h5 with s | s
 ·rw [s]; simp; omega
 ·rw [s]; simp; omega
open Ieee in
theorem zero_write {a : Nat} (ha : a < 2 ^ 64) (g : a % 9223372036854775808 = 0) : double.word (sN a == 1) 0 = a := by
 have hs : double.signWeight = 2 ^ 63 := rfl
 unfold Format.word
 rw [hs]
 have : sN a = a / 9223372036854775808 := rfl
 have h5 : sN a = 0 ∨ sN a = 1 := by omega
 rcases h5 with s | s
 ·rw [s]; simp; omega
 ·rw [s]; simp; omega
theorem sum_wrD {a b : Nat} (ha : a < 2 ^ 64) (hb : b < 2 ^ 64) (fa : eN a ≠ 2047) (fb : eN b ≠ 2047) : wrD ((Ieee.double.read a).sum (Ieee.double.read b)) = sumW a b := by
 unfold sumW
 rw [read_fin ha fa, read_fin hb fb]
 rfl
open Ieee in
theorem sum_zeros {a b : Nat} (ha : a < 2 ^ 64) (hb : b < 2 ^ 64) (fa : eN a ≠ 2047) (fb : eN b ≠ 2047) (za : a % 9223372036854775808 = 0) (zb : b % 9223372036854775808 = 0) : sumW a b = double.word ((sN a == 1) && (sN b == 1)) 0 := by
 unfold sumW
 rw [read_fin ha fa, read_fin hb fb, (x_zero ha).1 za, (x_zero hb).1 zb]
 show double.write (Datum.number _ _ _) = _
 rw [signed_up, signed_up]
 simp only [Nat.zero_mul]
 simp
 exact nearest_zero _ _
theorem sN_01 {a : Nat} (ha : a < 2 ^ 64) : sN a = 0 ∨ sN a = 1 := by unfold sN; omega
theorem sN_eq {a b : Nat} (ha : a < 2 ^ 64) (hb : b < 2 ^ 64) : ((sN a == 1) = (sN b == 1)) ↔ sN a = sN b := by
 rcases sN_01 ha with s | s <;> rcases sN_01 hb with t | t <;> simp [s, t]
theorem do45 {h : HP} (w : Wf h) {a b : Nat} (ha : a < 2 ^ 64) (hb : b < 2 ^ 64) (na : isN a = false) (nb : isN b = false) (n m : Nat) (hn : 20000 < n) :
  RetA (S60_0 (SF tabS (n + 6)) m (Int.ofNat 45) (Int.ofNat a) (Int.ofNat b) (Int.ofNat (sN a)) (Int.ofNat (eN a)) (Int.ofNat (sN b)) (Int.ofNat (eN b)) (Int.ofNat ((sN a + sN b) % 2)) (Int.ofNat (a % 9223372036854775808)) (Int.ofNat (b % 9223372036854775808)) h) h (.tup [uv (opW 45 a b), vB true]) := by
 have eo : opW 45 a b = wrD ((Ieee.double.read a).sum (Ieee.double.read b)) := rfl
 rw [eo]
 have se := sN_eq ha hb
 by_cases ga : eN a = 2047
 ·have ra := isN_inf na ga
  rw [read_inf ha ga ra]
  by_cases gb : eN b = 2047
  ·have rb := isN_inf nb gb
   rw [read_inf hb gb rb]
   by_cases gs : sN a = sN b
   ·have : wrD (Ieee.Datum.sum (.infinity (sN a == 1)) (.infinity (sN b == 1))) = a := by
     show wrD (if (sN a == 1) = (sN b == 1) then some (Ieee.Datum.infinity (sN a == 1)) else none) = a
     rw [if_pos (se.2 gs)]
     exact inf_write ha ga ra
    rw [this]
    simp only [S60_0, S60_2, S60_3, eq_nat, ga, gb, gs, not_dec, Nat.reduceEqDiff, decide_true, decide_false, brV_t, brV_f, obB_s, obBV_s, br_t, br_f, Bool.not_true, Bool.not_false]
    exact ⟨h, rfl, w, Le.refl h⟩
   ·have : wrD (Ieee.Datum.sum (.infinity (sN a == 1)) (.infinity (sN b == 1))) = NANW := by
     show wrD (if (sN a == 1) = (sN b == 1) then some (Ieee.Datum.infinity (sN a == 1)) else none) = NANW
     rw [if_neg (fun e => gs (se.1 e))]; rfl
    rw [this]
    simp only [S60_0, S60_2, S60_3, eq_nat, ga, gb, gs, not_dec, Nat.reduceEqDiff, decide_true, decide_false, brV_t, brV_f, obB_s, obBV_s, br_t, br_f, Bool.not_true, Bool.not_false]
    exact ⟨h, rfl, w, Le.refl h⟩
  ·rw [read_fin hb gb]
   have : wrD (Ieee.Datum.sum (.infinity (sN a == 1)) (.number (sN b == 1) (mN b) (pN b))) = a := inf_write ha ga ra
   rw [this]
   simp only [S60_0, S60_2, S60_3, eq_nat, ga, gb, not_dec, Nat.reduceEqDiff, decide_true, decide_false, brV_t, brV_f, obB_s, obBV_s, br_t, br_f, Bool.not_true, Bool.not_false]
   exact ⟨h, rfl, w, Le.refl h⟩
 ·by_cases gb : eN b = 2047
  ·have rb := isN_inf nb gb
   rw [read_fin ha ga, read_inf hb gb rb]
   have : wrD (Ieee.Datum.sum (.number (sN a == 1) (mN a) (pN a)) (.infinity (sN b == 1))) = b := inf_write hb gb rb
   rw [this]
   simp only [S60_0, S60_2, S60_3, eq_nat, ga, gb, not_dec, Nat.reduceEqDiff, decide_true, decide_false, brV_t, brV_f, obB_s, obBV_s, br_t, br_f, Bool.not_true, Bool.not_false]
   exact ⟨h, rfl, w, Le.refl h⟩
  ·rw [sum_wrD ha hb ga gb]
   have fin : RetA (cal (SF tabS (n + 6)) 94 [uv a, uv b] h fun t160 h23 => asI .u64 t160 fun t160a => some (.ret (.tup [(AV.int .u64 t160a), (vB true)]) h23, .no)) h (.tup [uv (sumW a b), vB true]) := by
    obtain ⟨h', e, w', le'⟩ := sf_sum w ha hb ga gb n hn
    rw [cal_of e, asI_uv]
    exact ⟨h', rfl, w', le'⟩
   by_cases za : a % 9223372036854775808 = 0
   ·by_cases zb : b % 9223372036854775808 = 0
    ·rw [sum_zeros ha hb ga gb za zb]
     by_cases gs : sN a = sN b
     ·have : ((sN a == 1) && (sN b == 1)) = (sN a == 1) := by rw [gs, Bool.and_self]
      rw [this, zero_write ha za]
      simp only [S60_0, S60_2, S60_3, eq_nat, ga, gb, gs, za, zb, not_dec, Nat.reduceEqDiff, decide_true, decide_false, brV_t, brV_f, obB_s, obBV_s, br_t, br_f, Bool.not_true, Bool.not_false]
      exact ⟨h, rfl, w, Le.refl h⟩
     ·have : ((sN a == 1) && (sN b == 1)) = false := by
       rcases sN_01 ha with s | s <;> rcases sN_01 hb with t | t <;> simp [s, t]
       omega
      rw [this]
      simp only [S60_0, S60_2, S60_3, eq_nat, ga, gb, gs, za, zb, not_dec, Nat.reduceEqDiff, decide_true, decide_false, brV_t, brV_f, obB_s, obBV_s, br_t, br_f, Bool.not_true, Bool.not_false]
      exact ⟨h, rfl, w, Le.refl h⟩
    ·simp only [S60_0, S60_2, S60_3, eq_nat, ga, gb, za, zb, not_dec, Nat.reduceEqDiff, decide_true, decide_false, brV_t, brV_f, obB_s, obBV_s, br_t, br_f, Bool.not_true, Bool.not_false]
     exact fin
   ·simp only [S60_0, S60_2, S60_3, eq_nat, ga, gb, za, not_dec, Nat.reduceEqDiff, decide_true, decide_false, brV_t, brV_f, obB_s, obBV_s, br_t, br_f, Bool.not_true, Bool.not_false]
    exact fin
open Ieee in
theorem sign_word {a b k : Nat} (ha : a < 2 ^ 64) (hb : b < 2 ^ 64) (hk : k ≤ double.infRung) : sgN ((sN a + sN b) % 2) k = double.word ((sN a == 1) ^^ (sN b == 1)) k := by
 rw [sgn_word hk]
 congr 1
 rcases sN_01 ha with s | s <;> rcases sN_01 hb with t | t <;> simp [s, t]
theorem ret_sgn {h0 h : HP} (w : Wf h) (le : Le h0 h) {a b k : Nat} (ha : a < 2 ^ 64) (hb : b < 2 ^ 64) (hk : k ≤ Ieee.double.infRung) (n : Nat) :
  RetA (cal (SF tabS (n + 1)) 95 [uv ((sN a + sN b) % 2), uv k] h fun t222 h22 => asI .u64 t222 fun t222a => some (.ret (.tup [(AV.int .u64 t222a), (vB true)]) h22, .no)) h0 (.tup [uv (Ieee.double.word ((sN a == 1) ^^ (sN b == 1)) k), vB true]) := by
 rw [cal_of (sf_signed' (inf63 hk) n h), asI_uv, sign_word ha hb hk]
 exact ⟨h, rfl, w, le⟩
theorem inf_le : (9218868437227405312 : Nat) ≤ Ieee.double.infRung := by decide
theorem inf_is : Ieee.double.infRung = 9218868437227405312 := by decide
theorem nd_m (a : Nat) : nd (mN a) ≤ 4 := nd_small (by have := mN_lt a; omega)
theorem do47 {h : HP} (w : Wf h) {a b : Nat} (ha : a < 2 ^ 64) (hb : b < 2 ^ 64) (na : isN a = false) (nb : isN b = false) (n m : Nat) (hn : 20000 < n) :
  RetA (S60_0 (SF tabS (n + 6)) m (Int.ofNat 47) (Int.ofNat a) (Int.ofNat b) (Int.ofNat (sN a)) (Int.ofNat (eN a)) (Int.ofNat (sN b)) (Int.ofNat (eN b)) (Int.ofNat ((sN a + sN b) % 2)) (Int.ofNat (a % 9223372036854775808)) (Int.ofNat (b % 9223372036854775808)) h) h (.tup [uv (opW 47 a b), vB true]) := by
 have eo : opW 47 a b = wrD ((Ieee.double.read a).product (Ieee.double.read b)) := rfl
 rw [eo]
 have infs : RetA (cal (SF tabS (n + 6)) 95 [uv ((sN a + sN b) % 2), uv 9218868437227405312] h fun t222 h22 => asI .u64 t222 fun t222a => some (.ret (.tup [(AV.int .u64 t222a), (vB true)]) h22, .no)) h (.tup [uv (Ieee.double.word ((sN a == 1) ^^ (sN b == 1)) 9218868437227405312), vB true]) := ret_sgn w (Le.refl h) ha hb inf_le (n + 5)
 by_cases ga : eN a = 2047
 ·have ra := isN_inf na ga
  have za := inf_x ha ga
  rw [read_inf ha ga ra]
  by_cases gb : eN b = 2047
  ·have rb := isN_inf nb gb
   have zb := inf_x hb gb
   rw [read_inf hb gb rb]
   have : wrD (Ieee.Datum.product (.infinity (sN a == 1)) (.infinity (sN b == 1))) = Ieee.double.word ((sN a == 1) ^^ (sN b == 1)) 9218868437227405312 := by rw [← inf_is]; rfl
   rw [this]
   simp only [S60_0, S60_2, S60_3, eq_nat, ga, gb, za, zb, not_dec, Nat.reduceEqDiff, decide_true, decide_false, brV_t, brV_f, obB_s, obBV_s, br_t, br_f, Bool.not_true, Bool.not_false]
   exact infs
  ·rw [read_fin hb gb]
   by_cases zb : b % 9223372036854775808 = 0
   ·have : wrD (Ieee.Datum.product (.infinity (sN a == 1)) (.number (sN b == 1) (mN b) (pN b))) = NANW := by
     rw [(x_zero hb).1 zb]; rfl
    rw [this]
    simp only [S60_0, S60_2, S60_3, eq_nat, ga, gb, za, zb, not_dec, Nat.reduceEqDiff, decide_true, decide_false, brV_t, brV_f, obB_s, obBV_s, br_t, br_f, Bool.not_true, Bool.not_false]
    exact ⟨h, rfl, w, Le.refl h⟩
   ·have : wrD (Ieee.Datum.product (.infinity (sN a == 1)) (.number (sN b == 1) (mN b) (pN b))) = Ieee.double.word ((sN a == 1) ^^ (sN b == 1)) 9218868437227405312 := by
     show wrD (if mN b = 0 then none else some (Ieee.Datum.infinity ((sN a == 1) ^^ (sN b == 1)))) = _
     rw [if_neg (fun e => zb ((x_zero hb).2 e)), ← inf_is]; rfl
    rw [this]
    simp only [S60_0, S60_2, S60_3, eq_nat, ga, gb, za, zb, not_dec, Nat.reduceEqDiff, decide_true, decide_false, brV_t, brV_f, obB_s, obBV_s, br_t, br_f, Bool.not_true, Bool.not_false]
    exact infs
 ·by_cases gb : eN b = 2047
  ·have rb := isN_inf nb gb
   have zb := inf_x hb gb
   rw [read_fin ha ga, read_inf hb gb rb]
   by_cases za : a % 9223372036854775808 = 0
   ·have : wrD (Ieee.Datum.product (.number (sN a == 1) (mN a) (pN a)) (.infinity (sN b == 1))) = NANW := by
     rw [(x_zero ha).1 za]; rfl
    rw [this]
    simp only [S60_0, S60_2, S60_3, eq_nat, ga, gb, za, zb, not_dec, Nat.reduceEqDiff, decide_true, decide_false, brV_t, brV_f, obB_s, obBV_s, br_t, br_f, Bool.not_true, Bool.not_false]
    exact ⟨h, rfl, w, Le.refl h⟩
   ·have : wrD (Ieee.Datum.product (.number (sN a == 1) (mN a) (pN a)) (.infinity (sN b == 1))) = Ieee.double.word ((sN a == 1) ^^ (sN b == 1)) 9218868437227405312 := by
     show wrD (if mN a = 0 then none else some (Ieee.Datum.infinity ((sN b == 1) ^^ (sN a == 1)))) = _
     rw [if_neg (fun e => za ((x_zero ha).2 e)), ← inf_is, Bool.xor_comm]; rfl
    rw [this]
    simp only [S60_0, S60_2, S60_3, eq_nat, ga, gb, za, zb, not_dec, Nat.reduceEqDiff, decide_true, decide_false, brV_t, brV_f, obB_s, obBV_s, br_t, br_f, Bool.not_true, Bool.not_false]
    exact infs
  ·have fin : RetA (S60_1 (SF tabS (n + 6)) m (Int.ofNat 47) (Int.ofNat a) (Int.ofNat b) (Int.ofNat ((sN a + sN b) % 2)) h) h (.tup [uv (wrD ((Ieee.double.read a).product (Ieee.double.read b))), vB true]) := by
    rw [read_fin ha ga, read_fin hb gb]
    show RetA _ h (.tup [uv (Ieee.double.nearest ((sN a == 1) ^^ (sN b == 1)) (mN a * mN b) (pN a + pN b)), vB true])
    have ma := mN_lt a
    have mb := mN_lt b
    have pa := pN_le a
    have pb := pN_le b
    unfold S60_1
    rw [num_k ha, num_k hb]
    simp only [eq_nat, decide_true, br_t]
    obtain ⟨v1, h1, e1, w1, le1, x1, _⟩ := sf_of w (N := mN a) (by omega) (n + 5) (by omega)
    rw [cal_of e1]
    obtain ⟨v2, h2, e2, w2, le2, x2, _⟩ := sf_of w1 (N := mN b) (by omega) (n + 5) (by omega)
    rw [cal_of e2]
    have n1 := nd_m a
    have n2 := nd_m b
    obtain ⟨v3, h3, e3, w3, le3, x3, _⟩ := sf_times w2 (x1.mono le2) x2 ⟨by omega, by omega⟩ (n + 2) (by omega)
    rw [cal_of e3]
    obtain ⟨v4, h4, e4, w4, le4, x4, _⟩ := sf_of w3 (N := 1) (by omega) (n + 5) (by omega)
    rw [cal_of e4]
    have n3 : nd (mN a * mN b) ≤ 400 := Nat.le_trans (nd_mul _ _) (by omega)
    simp only [add_dec]
    rw [wr_id (z := pN a + pN b) (by omega) (by omega)]
    obtain ⟨k, hk, hw, h5, e5, w5, le5⟩ := sf_near1 w4 (x3.mono le4) x4 (e := pN a + pN b) n3 (by omega) (n + 1) (by omega)
    rw [cal_of e5, asI_uv, hw]
    exact ret_sgn w5 (le1.trans (le2.trans (le3.trans (le4.trans le5)))) ha hb hk (n + 5)
   simp only [S60_0, S60_2, S60_3, eq_nat, ga, gb, not_dec, Nat.reduceEqDiff, decide_true, decide_false, brV_t, brV_f, obB_s, obBV_s, br_t, br_f, Bool.not_true, Bool.not_false]
   exact fin
theorem do48 {h : HP} (w : Wf h) {a b : Nat} (ha : a < 2 ^ 64) (hb : b < 2 ^ 64) (na : isN a = false) (nb : isN b = false) (n m : Nat) (hn : 20000 < n) :
  RetA (S60_0 (SF tabS (n + 6)) m (Int.ofNat 48) (Int.ofNat a) (Int.ofNat b) (Int.ofNat (sN a)) (Int.ofNat (eN a)) (Int.ofNat (sN b)) (Int.ofNat (eN b)) (Int.ofNat ((sN a + sN b) % 2)) (Int.ofNat (a % 9223372036854775808)) (Int.ofNat (b % 9223372036854775808)) h) h (.tup [uv (opW 48 a b), vB true]) := by
 have eo : opW 48 a b = wrD ((Ieee.double.read a).quotient 54 (Ieee.double.read b)) := rfl
 rw [eo]
 have infs : RetA (cal (SF tabS (n + 6)) 95 [uv ((sN a + sN b) % 2), uv 9218868437227405312] h fun t222 h22 => asI .u64 t222 fun t222a => some (.ret (.tup [(AV.int .u64 t222a), (vB true)]) h22, .no)) h (.tup [uv (Ieee.double.word ((sN a == 1) ^^ (sN b == 1)) 9218868437227405312), vB true]) := ret_sgn w (Le.refl h) ha hb inf_le (n + 5)
 have zeros : RetA (cal (SF tabS (n + 6)) 95 [uv ((sN a + sN b) % 2), uv 0] h fun t222 h22 => asI .u64 t222 fun t222a => some (.ret (.tup [(AV.int .u64 t222a), (vB true)]) h22, .no)) h (.tup [uv (Ieee.double.word ((sN a == 1) ^^ (sN b == 1)) 0), vB true]) := ret_sgn w (Le.refl h) ha hb (Nat.zero_le _) (n + 5)
 by_cases ga : eN a = 2047
 ·have ra := isN_inf na ga
  have za := inf_x ha ga
  rw [read_inf ha ga ra]
  by_cases gb : eN b = 2047
  ·have rb := isN_inf nb gb
   have zb := inf_x hb gb
   rw [read_inf hb gb rb]
   have : wrD (Ieee.Datum.quotient 54 (.infinity (sN a == 1)) (.infinity (sN b == 1))) = NANW := rfl
   rw [this]
   simp only [S60_0, S60_2, S60_3, eq_nat, ga, gb, za, zb, not_dec, Nat.reduceEqDiff, decide_true, decide_false, brV_t, brV_f, obB_s, obBV_s, br_t, br_f, Bool.not_true, Bool.not_false]
   exact ⟨h, rfl, w, Le.refl h⟩
  ·rw [read_fin hb gb]
   have : wrD (Ieee.Datum.quotient 54 (.infinity (sN a == 1)) (.number (sN b == 1) (mN b) (pN b))) = Ieee.double.word ((sN a == 1) ^^ (sN b == 1)) 9218868437227405312 := by rw [← inf_is]; rfl
   rw [this]
   simp only [S60_0, S60_2, S60_3, eq_nat, ga, gb, za, not_dec, Nat.reduceEqDiff, decide_true, decide_false, brV_t, brV_f, obB_s, obBV_s, br_t, br_f, Bool.not_true, Bool.not_false]
   exact infs
 ·by_cases gb : eN b = 2047
  ·have rb := isN_inf nb gb
   have zb := inf_x hb gb
   rw [read_fin ha ga, read_inf hb gb rb]
   have : wrD (Ieee.Datum.quotient 54 (.number (sN a == 1) (mN a) (pN a)) (.infinity (sN b == 1))) = Ieee.double.word ((sN a == 1) ^^ (sN b == 1)) 0 := nearest_zero ((sN a == 1) ^^ (sN b == 1)) 0
   rw [this]
   simp only [S60_0, S60_2, S60_3, eq_nat, ga, gb, zb, not_dec, Nat.reduceEqDiff, decide_true, decide_false, brV_t, brV_f, obB_s, obBV_s, br_t, br_f, Bool.not_true, Bool.not_false]
   by_cases za : a % 9223372036854775808 = 0
   ·simp only [za, decide_true, brV_t, obB_s, obBV_s, br_t, br_f]; exact zeros
   ·simp only [za, decide_false, brV_f, obB_s, obBV_s, br_t, br_f]; exact zeros
  ·by_cases zb : b % 9223372036854775808 = 0
   ·by_cases za : a % 9223372036854775808 = 0
    ·have : wrD (Ieee.Datum.quotient 54 (Ieee.double.read a) (Ieee.double.read b)) = NANW := by
      rw [read_fin ha ga, read_fin hb gb, (x_zero hb).1 zb, (x_zero ha).1 za]; rfl
     rw [this]
     simp only [S60_0, S60_2, S60_3, eq_nat, ga, gb, za, zb, not_dec, Nat.reduceEqDiff, decide_true, decide_false, brV_t, brV_f, obB_s, obBV_s, br_t, br_f, Bool.not_true, Bool.not_false]
     exact ⟨h, rfl, w, Le.refl h⟩
    ·have : wrD (Ieee.Datum.quotient 54 (Ieee.double.read a) (Ieee.double.read b)) = Ieee.double.word ((sN a == 1) ^^ (sN b == 1)) 9218868437227405312 := by
      rw [read_fin ha ga, read_fin hb gb, (x_zero hb).1 zb]
      show wrD (if mN a = 0 then none else some (Ieee.Datum.infinity ((sN a == 1) ^^ (sN b == 1)))) = _
      rw [if_neg (fun e => za ((x_zero ha).2 e)), ← inf_is]; rfl
     rw [this]
     simp only [S60_0, S60_2, S60_3, eq_nat, ga, gb, za, zb, not_dec, Nat.reduceEqDiff, decide_true, decide_false, brV_t, brV_f, obB_s, obBV_s, br_t, br_f, Bool.not_true, Bool.not_false]
     exact infs
   ·have mb0 : mN b ≠ 0 := fun e => zb ((x_zero hb).2 e)
    have fin : RetA (S60_1 (SF tabS (n + 6)) m (Int.ofNat 48) (Int.ofNat a) (Int.ofNat b) (Int.ofNat ((sN a + sN b) % 2)) h) h (.tup [uv (wrD ((Ieee.double.read a).quotient 54 (Ieee.double.read b))), vB true]) := by
     rw [read_fin ha ga, read_fin hb gb]
     have eq : wrD (Ieee.Datum.quotient 54 (.number (sN a == 1) (mN a) (pN a)) (.number (sN b == 1) (mN b) (pN b))) = Ieee.double.nearest ((sN a == 1) ^^ (sN b == 1)) (2 * ((mN a <<< (54 + (mN b).log2 - (mN a).log2)) / mN b) + ((mN a <<< (54 + (mN b).log2 - (mN a).log2)) % mN b != 0).toNat) (pN a - pN b - (54 + (mN b).log2 - (mN a).log2 : Nat) - 1) := by
      show wrD (if mN b = 0 then _ else _) = _
      rw [if_neg mb0]; rfl
     rw [eq]
     have ma := mN_lt a
     have mb := mN_lt b
     have pa := pN_le a
     have pb := pN_le b
     unfold S60_1
     rw [num_k ha, num_k hb]
     simp only [eq_nat, Nat.reduceEqDiff, decide_false, br_f]
     obtain ⟨v1, h1, e1, w1, le1, x1, _⟩ := sf_of w (N := mN a) (by omega) (n + 5) (by omega)
     rw [cal_of e1]
     obtain ⟨v2, h2, e2, w2, le2, x2, _⟩ := sf_of w1 (N := mN b) (by omega) (n + 5) (by omega)
     rw [cal_of e2]
     have n1 := nd_m a
     have n2 := nd_m b
     rw [wr_id (z := pN a - pN b) (by omega) (by omega)]
     by_cases ma0 : mN a = 0
     ·rw [ma0] at x1 ⊢
      rw [cal_of (sf_near0 w2 (x1.mono le2) (pN a - pN b) (n + 5)), asI_uv]
      have := ret_sgn w2 (le1.trans le2) ha hb (Nat.zero_le _) (n + 5)
      have z : 2 * ((0 <<< (54 + (mN b).log2 - (0 : Nat).log2)) / mN b) + ((0 <<< (54 + (mN b).log2 - (0 : Nat).log2)) % mN b != 0).toNat = 0 := by
       rw [Nat.zero_shiftLeft, Nat.zero_div, Nat.zero_mod]; rfl
      rw [z, nearest_zero]
      exact this
     ·obtain ⟨v, P, h5, e5, w5, le5⟩ := sf_near w2 (x1.mono le2) x2 ma0 mb0 (e := pN a - pN b) (by omega) (by omega) (by omega) (n + 1) (by omega)
      rw [cal_of e5, asI_uv, near_quot ma0 mb0 P]
      exact ret_sgn w5 (le1.trans (le2.trans le5)) ha hb (pk_word P) (n + 5)
    simp only [S60_0, S60_2, S60_3, eq_nat, ga, gb, zb, not_dec, Nat.reduceEqDiff, decide_true, decide_false, brV_t, brV_f, obB_s, obBV_s, br_t, br_f, Bool.not_true, Bool.not_false]
    by_cases za : a % 9223372036854775808 = 0
    ·simp only [za, decide_true, brV_t, obB_s, obBV_s, br_t, br_f]; exact fin
    ·simp only [za, decide_false, brV_f, obB_s, obBV_s, br_t, br_f]; exact fin
theorem ng_lt {b : Nat} (hb : b < 2 ^ 64) : ngN b < 2 ^ 64 := by
 unfold ngN
 have : sN b = b / 9223372036854775808 := rfl
 split
 ·omega
 ·split <;> omega
theorem ng_opp {b : Nat} (hb : b < 2 ^ 64) (nb : isN b = false) : Ieee.double.read (ngN b) = (Ieee.double.read b).opposite ∧ isN (ngN b) = false := by
 have hs : Ieee.double.signWeight = 9223372036854775808 := rfl
 have e : ngN b = if sN b = 1 then b - 9223372036854775808 else b + 9223372036854775808 := by unfold ngN; rw [nb]; rfl
 have hs1 : sN b = b / 9223372036854775808 := rfl
 have h1 : Ieee.double.read (ngN b) = (Ieee.double.read b).opposite := by
  refine Rl.read_opp ?_ ?_
  ·rw [hs, e]
   rcases sN_01 hb with s | s
   ·rw [if_neg (by omega)]
    rw [show (b + 9223372036854775808) / 9223372036854775808 % 2 = 1 by omega, show b / 9223372036854775808 % 2 = 0 by omega]; rfl
   ·rw [if_pos s]
    rw [show (b - 9223372036854775808) / 9223372036854775808 % 2 = 0 by omega, show b / 9223372036854775808 % 2 = 1 by omega]; rfl
  ·rw [hs, e]; split <;> omega
 refine ⟨h1, ?_⟩
 rw [← nan_is (ng_lt hb), Rl.nan_opp h1, nan_is hb]; exact nb
theorem sf_Do {h : HP} (w : Wf h) {op a b : Nat} (h1 : 45 ≤ op) (h2 : op ≤ 48) (ha : a < 2 ^ 64) (hb : b < 2 ^ 64) (n : Nat) (hn : 20000 < n) : RetA (SF tabS (n + 8) 60 [iv op, uv a, uv b] h .no) h (.tup [uv (opW op a b), vB true]) := by
 have base : ∀ (n op b : Nat), 20000 < n → op = 45 ∨ op = 47 ∨ op = 48 → b < 2 ^ 64 → RetA (SF tabS (n + 7) 60 [iv op, uv a, uv b] h .no) h (.tup [uv (opW op a b), vB true]) := by
  intro n op b hn ho hb
  rw [SF_succ, find60, enter60, pre_do (by omega) (by omega) ha hb]
  split
  ·rename_i g
   rw [opW_nan ha hb g]
   exact ⟨h, rfl, w, Le.refl h⟩
  ·rename_i g
   simp only [Bool.not_eq_true, Bool.or_eq_false_iff] at g
   rcases ho with rfl | rfl | rfl
   ·exact do45 w ha hb g.1 g.2 n _ hn
   ·exact do47 w ha hb g.1 g.2 n _ hn
   ·exact do48 w ha hb g.1 g.2 n _ hn
 rcases (show (op = 45 ∨ op = 47 ∨ op = 48) ∨ op = 46 by omega) with ho | ho
 ·exact base (n + 1) op b (by omega) ho hb
 ·subst ho
  rw [SF_succ, find60, enter60, pre_do (by omega) (by omega) ha hb]
  split
  ·rename_i g
   rw [opW_nan ha hb g]
   exact ⟨h, rfl, w, Le.refl h⟩
  ·rename_i g
   simp only [Bool.not_eq_true, Bool.or_eq_false_iff] at g
   unfold S60_0
   simp only [eq_nat, decide_true, br_t]
   rw [cal_of (sf_neg' hb (n + 4) h), asI_uv]
   obtain ⟨k1, k2⟩ := ng_opp hb g.2
   have ee : opW 46 a b = opW 45 a (ngN b) := by
    show wrD ((Ieee.double.read a).sum (Ieee.double.read b).opposite) = wrD ((Ieee.double.read a).sum (Ieee.double.read (ngN b)))
    rw [k1]
   obtain ⟨h', e, w', le'⟩ := base n 45 (ngN b) hn (.inl rfl) (ng_lt hb)
   rw [cal_of e, ee]
   exact ⟨h', rfl, w', le'⟩
end
end Go.Proofs.YtakcpnpeadkfpaaGreatDoor.Lg
