/- RealEdges: what the printed function answers. -/
import Derived.Test.YtbfdhoggchedjaaGreatDoorRu
import Derived.Test.YtbfdhoggchedjaaGreatDoorOc
import Derived.Test.YtbfdhoggchedjaaGreatDoorEd
set_option linter.unusedVariables false
set_option linter.unusedSimpArgs false
set_option linter.unusedSectionVars false
namespace Go.Proofs.YtbfdhoggchedjaaGreatDoor.Sx
open Go Go.Proofs.YtbfdhoggchedjaaGreatDoor.Ev
noncomputable section
def resN (r : Option Nat) : Nat := Option.rec NANC canonN r
def doN (op a b : Nat) : Nat := Bool.rec (Bool.rec (Bool.rec (resN (FloatKind.f64.format.div a b)) (resN (FloatKind.f64.format.mul a b)) (Nat.beq op 47)) (resN (FloatKind.f64.format.sub a b)) (Nat.beq op 46)) (resN (FloatKind.f64.format.add a b)) (Nat.beq op 45)
theorem SF_19 (t : ST) (f : Nat) (xs : List AV) (h : HP) (u : AMode) : SF t 19 f xs h u = t.run f (SF t 18) 18 xs h u := rfl
theorem SF_20 (t : ST) (f : Nat) (xs : List AV) (h : HP) (u : AMode) : SF t 20 f xs h u = t.run f (SF t 19) 19 xs h u := rfl
theorem find11 : tabS.run 11 = S11 := by kernel_rfl
theorem find16 : tabS.run 16 = S16 := by kernel_rfl
theorem enter11 (D : CallD) (m : Nat) (a b c : Int) (h : HP) : S11 D m [.int .i64 a, .int .u64 b, .int .u64 c] h .no = S11_0 D m a b c h := rfl
theorem enter16 (D : CallD) (m : Nat) (a b c : Int) (h : HP) : S16 D m [.int .i64 a, .int .u64 b, .int .u64 c] h .no = S16_0 D m a b c h := rfl
theorem bits_fltR (r : Option Nat) (h : HP) (k : AV → HP → Res2) : cal (SF tabS 18) 32 [fltR .f64 r] h k = k (.int .u64 (.ofNat (resN r))) h := by
  cases r with
  | none =>
    have e : SF tabS 18 32 [.nan .f64] h .no = some (.ret (.int .u64 (.ofNat NANC)) h, .no) := by kernel_rfl
    exact cal_ret e k
  | some x =>
    have e : SF tabS 18 32 [.flt .f64 x] h .no = some (.ret (.int .u64 (.ofNat (canonN x))) h, .no) := by
      have e : SF tabS 18 32 [.flt .f64 x] h .no = (Bool.rec (some (.ret (.int .u64 (.ofNat x)) h, .no)) (some (.ret (.int .u64 (.ofNat NANC)) h, .no)) (neB x) : Res2) := by kernel_rfl
      rw [e]; unfold canonN; cases neB x <;> rfl
    exact cal_ret e k
theorem q45_45 : eqQ (Int.ofNat 45) (Int.ofNat 45) = true := rfl
theorem q46_45 : eqQ (Int.ofNat 46) (Int.ofNat 45) = false := rfl
theorem q46_46 : eqQ (Int.ofNat 46) (Int.ofNat 46) = true := rfl
theorem q47_45 : eqQ (Int.ofNat 47) (Int.ofNat 45) = false := rfl
theorem q47_46 : eqQ (Int.ofNat 47) (Int.ofNat 46) = false := rfl
theorem q47_47 : eqQ (Int.ofNat 47) (Int.ofNat 47) = true := rfl
theorem q48_45 : eqQ (Int.ofNat 48) (Int.ofNat 45) = false := rfl
theorem q48_46 : eqQ (Int.ofNat 48) (Int.ofNat 46) = false := rfl
theorem q48_47 : eqQ (Int.ofNat 48) (Int.ofNat 47) = false := rfl
theorem q48_48 : eqQ (Int.ofNat 48) (Int.ofNat 48) = true := rfl
theorem asB_b (b : Bool) (F : Bool → Res2) : asB (AV.bool b) F = F b := rfl
theorem br_t (x y : Res2) : br true x y = x := rfl
theorem br_f (x y : Res2) : br false x y = y := rfl
theorem bin_add (a b : Nat) (k : AV → Res2) : binC .add (.flt .f64 a) (.flt .f64 b) k = k (fltR .f64 (FloatKind.f64.format.add a b)) := by kernel_rfl
theorem sf_add (a b : Nat) (h : HP) : SF tabS 20 16 [.int .i64 (.ofNat 45), .int .u64 (.ofNat a), .int .u64 (.ofNat b)] h .no = some (.ret (.int .u64 (.ofNat (doN 45 a b))) h, .no) := by
  have e1 : SF tabS 19 11 [.int .i64 (.ofNat 45), .int .u64 (.ofNat a), .int .u64 (.ofNat b)] h .no = some (.ret (.tup [.int .u64 (.ofNat (doN 45 a b)), vI (Int.ofNat 0)]) h, .no) := by
    rw [SF_19, find11, enter11]
    unfold S11_0
    have h31 : ∀ (x : Nat) h k, cal (SF tabS 18) 31 [.int .u64 (.ofNat x)] h k = k (.flt .f64 x) h := fun x h k => by kernel_rfl
    rw [h31, h31]
    simp only [q45_45, br_t, br_f]
    rw [bin_add, bits_fltR]
    rfl
  rw [SF_20, find16, enter16]
  unfold S16_0
  have e2 : ∀ k, cal (SF tabS 19) 11 [vI (Int.ofNat 45), AV.int .u64 (Int.ofNat a), AV.int .u64 (Int.ofNat b)] h k = k (.tup [.int .u64 (.ofNat (doN 45 a b)), vI (Int.ofNat 0)]) h := fun k => cal_ret e1 k
  rw [e2]
  rfl
theorem bin_sub (a b : Nat) (k : AV → Res2) : binC .sub (.flt .f64 a) (.flt .f64 b) k = k (fltR .f64 (FloatKind.f64.format.sub a b)) := by kernel_rfl
theorem sf_sub (a b : Nat) (h : HP) : SF tabS 20 16 [.int .i64 (.ofNat 46), .int .u64 (.ofNat a), .int .u64 (.ofNat b)] h .no = some (.ret (.int .u64 (.ofNat (doN 46 a b))) h, .no) := by
  have e1 : SF tabS 19 11 [.int .i64 (.ofNat 46), .int .u64 (.ofNat a), .int .u64 (.ofNat b)] h .no = some (.ret (.tup [.int .u64 (.ofNat (doN 46 a b)), vI (Int.ofNat 0)]) h, .no) := by
    rw [SF_19, find11, enter11]
    unfold S11_0
    have h31 : ∀ (x : Nat) h k, cal (SF tabS 18) 31 [.int .u64 (.ofNat x)] h k = k (.flt .f64 x) h := fun x h k => by kernel_rfl
    rw [h31, h31]
    simp only [q46_45, q46_46, br_t, br_f]
    rw [bin_sub, bits_fltR]
    rfl
  rw [SF_20, find16, enter16]
  unfold S16_0
  have e2 : ∀ k, cal (SF tabS 19) 11 [vI (Int.ofNat 46), AV.int .u64 (Int.ofNat a), AV.int .u64 (Int.ofNat b)] h k = k (.tup [.int .u64 (.ofNat (doN 46 a b)), vI (Int.ofNat 0)]) h := fun k => cal_ret e1 k
  rw [e2]
  rfl
theorem bin_mul (a b : Nat) (k : AV → Res2) : binC .mul (.flt .f64 a) (.flt .f64 b) k = k (fltR .f64 (FloatKind.f64.format.mul a b)) := by kernel_rfl
theorem sf_mul (a b : Nat) (h : HP) : SF tabS 20 16 [.int .i64 (.ofNat 47), .int .u64 (.ofNat a), .int .u64 (.ofNat b)] h .no = some (.ret (.int .u64 (.ofNat (doN 47 a b))) h, .no) := by
  have e1 : SF tabS 19 11 [.int .i64 (.ofNat 47), .int .u64 (.ofNat a), .int .u64 (.ofNat b)] h .no = some (.ret (.tup [.int .u64 (.ofNat (doN 47 a b)), vI (Int.ofNat 0)]) h, .no) := by
    rw [SF_19, find11, enter11]
    unfold S11_0
    have h31 : ∀ (x : Nat) h k, cal (SF tabS 18) 31 [.int .u64 (.ofNat x)] h k = k (.flt .f64 x) h := fun x h k => by kernel_rfl
    rw [h31, h31]
    simp only [q47_45, q47_46, q47_47, br_t, br_f]
    rw [bin_mul, bits_fltR]
    rfl
  rw [SF_20, find16, enter16]
  unfold S16_0
  have e2 : ∀ k, cal (SF tabS 19) 11 [vI (Int.ofNat 47), AV.int .u64 (Int.ofNat a), AV.int .u64 (Int.ofNat b)] h k = k (.tup [.int .u64 (.ofNat (doN 47 a b)), vI (Int.ofNat 0)]) h := fun k => cal_ret e1 k
  rw [e2]
  rfl
theorem bin_div (a b : Nat) (k : AV → Res2) : binC .quo (.flt .f64 a) (.flt .f64 b) k = k (fltR .f64 (FloatKind.f64.format.div a b)) := by kernel_rfl
theorem sf_div (a b : Nat) (h : HP) : SF tabS 20 16 [.int .i64 (.ofNat 48), .int .u64 (.ofNat a), .int .u64 (.ofNat b)] h .no = some (.ret (.int .u64 (.ofNat (doN 48 a b))) h, .no) := by
  have e1 : SF tabS 19 11 [.int .i64 (.ofNat 48), .int .u64 (.ofNat a), .int .u64 (.ofNat b)] h .no = some (.ret (.tup [.int .u64 (.ofNat (doN 48 a b)), vI (Int.ofNat 0)]) h, .no) := by
    rw [SF_19, find11, enter11]
    unfold S11_0
    have h31 : ∀ (x : Nat) h k, cal (SF tabS 18) 31 [.int .u64 (.ofNat x)] h k = k (.flt .f64 x) h := fun x h k => by kernel_rfl
    rw [h31, h31]
    simp only [q48_45, q48_46, q48_47, q48_48, br_t, br_f]
    rw [bin_div, bits_fltR]
    rfl
  rw [SF_20, find16, enter16]
  unfold S16_0
  have e2 : ∀ k, cal (SF tabS 19) 11 [vI (Int.ofNat 48), AV.int .u64 (Int.ofNat a), AV.int .u64 (Int.ofNat b)] h k = k (.tup [.int .u64 (.ofNat (doN 48 a b)), vI (Int.ofNat 0)]) h := fun k => cal_ret e1 k
  rw [e2]
  rfl
def doP (xs : List AV) (h : HP) : Option (AV × HP) :=
  match xs with
  | [.int .i64 (.ofNat op), .int .u64 (.ofNat a), .int .u64 (.ofNat b)] => bif Nat.ble 45 op && Nat.ble op 48 then some (.int .u64 (.ofNat (doN op a b)), h) else none
  | _ => none
def tabE : ST := .node 15 tabR (.node 16 (.pr 16 doP) tabR)
theorem okE (m : Int) (lf : Ev.Loc) : letI := rhoV m lf rfl; ST.Ok Tryz.prog tabE := by
  letI := rhoV m lf rfl
  have pD : ∀ w0, PrOk Tryz.prog w0 16 doP := fun w0 => pr_of (n := 20) (by kernel_rfl) okS ⟨_, Tryz.func16, by kernel_rfl, by decide +kernel⟩ (fun xs h r hr => by
    unfold doP at hr
    split at hr
    · rename_i op a b
      obtain ⟨hc, hr⟩ := bif_eq hr
      rw [Bool.and_eq_true] at hc
      have h1 := Nat.le_of_ble_eq_true hc.1
      have h2 := Nat.le_of_ble_eq_true hc.2
      obtain rfl := Option.some.inj hr
      rcases (show op = 45 ∨ op = 46 ∨ op = 47 ∨ op = 48 by omega) with rfl | rfl | rfl | rfl
      · exact sf_add _ _ _
      · exact sf_sub _ _ _
      · exact sf_mul _ _ _
      · exact sf_div _ _ _
    · simp at hr) w0
  exact .node _ _ _ (okR m lf) (.node _ _ _ (.pr _ _ pD) (okR m lf))
section
variable {D : CallD} (hA : ∀ h k, cal D 10 [] h k = k (.bool true) h)
  (hI1 : ∀ (a b : Nat) h k, cal D 17 [vI (Int.ofNat 51), AV.int .u64 (Int.ofNat a), AV.int .u64 (Int.ofNat b)] h k = k (.bool (eqB a b)) h)
  (hI2 : ∀ (a b : Nat) h k, cal D 17 [vI (Int.ofNat 52), AV.int .u64 (Int.ofNat a), AV.int .u64 (Int.ofNat b)] h k = k (.bool (ltB a b)) h)
  (hI3 : ∀ (a b : Nat) h k, cal D 17 [vI (Int.ofNat 53), AV.int .u64 (Int.ofNat a), AV.int .u64 (Int.ofNat b)] h k = k (.bool (leB a b)) h)
  (hC : ∀ (a : Nat) h k, cal D 15 [AV.int .u64 (Int.ofNat a)] h k = k (AV.int .u64 (Int.ofNat (canonN a))) h)
  (hD : ∀ (op a b : Nat), 45 ≤ op → op ≤ 48 → ∀ h k, cal D 16 [vI (Int.ofNat op), AV.int .u64 (Int.ofNat a), AV.int .u64 (Int.ofNat b)] h k = k (AV.int .u64 (Int.ofNat (doN op a b))) h)
  (m : Nat) (a : Nat) (h : HP)
  (F1 : ∀ op, 45 ≤ op → op ≤ 48 → Nat.beq (doN op a NANC) NANC = true ∧ Nat.beq (doN op NANC a) NANC = true)
  (F2 : eqB NANC a = false ∧ eqB a NANC = false ∧ ltB a NANC = false ∧ leB NANC a = false)
  (F3 : (eqB a a == numQ a) = true) (F4 : ltB a a = false)
  (F6 : (Nat.beq (doN 46 a a) 0 == notQ (Nat.beq (Nat.land (canonN a) 9218868437227405312) 9218868437227405312)) = true)
  (F7 : Nat.beq (doN 45 a 9223372036854775808) (canonN a) = true) (F8 : Nat.beq (doN 47 a 4607182418800017408) (canonN a) = true)
  (F9 : (Nat.beq (doN 45 a 0) (canonN a) == notQ (Nat.beq (canonN a) 9223372036854775808)) = true)
  (C1 : eqB 0 9223372036854775808 = true) (C2 : ltB 9223372036854775808 0 = false) (C3 : Nat.beq (doN 48 4607182418800017408 0) 9218868437227405312 = true) (C4 : Nat.beq (doN 48 4607182418800017408 9223372036854775808) 18442240474082181120 = true) (C5 : Nat.beq (doN 47 0 9218868437227405312) NANC = true)
  (C6 : Nat.beq (doN 46 9218868437227405312 9218868437227405312) NANC = true) (C7 : Nat.beq (doN 48 9223372036854775808 0) NANC = true) (C8 : Nat.beq (doN 45 9223372036854775808 9223372036854775808) 9223372036854775808 = true) (C9 : Nat.beq (doN 45 0 9223372036854775808) 0 = true)
 include hD F9 in
theorem s4_4 : S4_4 D m (Int.ofNat a) (Int.ofNat (canonN a)) true h = some (.ret (.bool true) h, .no) := by
  unfold S4_4
  show cal D 16 [vI (Int.ofNat 45), AV.int .u64 (Int.ofNat a), AV.int .u64 (Int.ofNat 0)] h _ = _
  rw [hD 45 a 0 (by omega) (by omega)]
  show S4_5 D m ((Nat.beq (doN 45 a 0) (canonN a) == notQ (Nat.beq (canonN a) 9223372036854775808)) != false) h = _
  rw [F9]; rfl
 include hD F9 F8 in
theorem s4_3 : S4_3 D m (Int.ofNat a) (Int.ofNat (canonN a)) true h = some (.ret (.bool true) h, .no) := by
  unfold S4_3
  show cal D 16 [vI (Int.ofNat 47), AV.int .u64 (Int.ofNat a), AV.int .u64 (Int.ofNat 4607182418800017408)] h _ = _
  rw [hD 47 a 4607182418800017408 (by omega) (by omega)]
  show S4_4 D m (Int.ofNat a) (Int.ofNat (canonN a)) (Nat.beq (doN 47 a 4607182418800017408) (canonN a)) h = _
  rw [F8]; exact s4_4 hD m a h F9
 include hD F9 F8 F6 F7 in
theorem s4_2 : S4_2 D m (Int.ofNat a) (Int.ofNat (canonN a)) h = some (.ret (.bool true) h, .no) := by
  unfold S4_2
  rw [bin_and, fits (k := Nat.land (canonN a) 9218868437227405312) (Nat.lt_of_le_of_lt Nat.and_le_right (by decide)), obI_u]
  show cal D 16 [vI (Int.ofNat 46), AV.int .u64 (Int.ofNat a), AV.int .u64 (Int.ofNat a)] h _ = _
  rw [hD 46 a a (by omega) (by omega)]
  show br ((Nat.beq (doN 46 a a) 0 == notQ (Nat.beq (Nat.land (canonN a) 9218868437227405312) 9218868437227405312)) != false) _ _ = _
  rw [F6]
  show cal D 16 [vI (Int.ofNat 45), AV.int .u64 (Int.ofNat a), AV.int .u64 (Int.ofNat 9223372036854775808)] h _ = _
  rw [hD 45 a 9223372036854775808 (by omega) (by omega)]
  show S4_3 D m (Int.ofNat a) (Int.ofNat (canonN a)) (Nat.beq (doN 45 a 9223372036854775808) (canonN a)) h = _
  rw [F7]; exact s4_3 hD m a h F8 F9
 include hD F9 F8 F6 F7 in
theorem s4_14 : S4_14 D m (Int.ofNat a) (Int.ofNat (canonN a)) false h = some (.ret (.bool true) h, .no) := by
  unfold S4_14
  exact s4_2 hD m a h F6 F7 F8 F9
 include hD F9 F8 F6 F7 C9 in
theorem s4_13 : S4_13 D m (Int.ofNat a) (Int.ofNat (canonN a)) false h = some (.ret (.bool true) h, .no) := by
  unfold S4_13
  show cal D 16 [vI (Int.ofNat 45), AV.int .u64 (Int.ofNat 0), AV.int .u64 (Int.ofNat 9223372036854775808)] h _ = _
  rw [hD 45 0 9223372036854775808 (by omega) (by omega)]
  show S4_14 D m (Int.ofNat a) (Int.ofNat (canonN a)) (notQ (Nat.beq (doN 45 0 9223372036854775808) 0)) h = _
  rw [C9]
  exact s4_14 hD m a h F6 F7 F8 F9 
 include hD F9 F8 F6 F7 C9 C8 in
theorem s4_12 : S4_12 D m (Int.ofNat a) (Int.ofNat (canonN a)) false h = some (.ret (.bool true) h, .no) := by
  unfold S4_12
  show cal D 16 [vI (Int.ofNat 45), AV.int .u64 (Int.ofNat 9223372036854775808), AV.int .u64 (Int.ofNat 9223372036854775808)] h _ = _
  rw [hD 45 9223372036854775808 9223372036854775808 (by omega) (by omega)]
  show S4_13 D m (Int.ofNat a) (Int.ofNat (canonN a)) (notQ (Nat.beq (doN 45 9223372036854775808 9223372036854775808) 9223372036854775808)) h = _
  rw [C8]
  exact s4_13 hD m a h F6 F7 F8 F9 C9
 include hD F9 F8 F6 F7 C9 C8 C7 in
theorem s4_11 : S4_11 D m (Int.ofNat a) (Int.ofNat NANC) (Int.ofNat (canonN a)) false h = some (.ret (.bool true) h, .no) := by
  unfold S4_11
  show cal D 16 [vI (Int.ofNat 48), AV.int .u64 (Int.ofNat 9223372036854775808), AV.int .u64 (Int.ofNat 0)] h _ = _
  rw [hD 48 9223372036854775808 0 (by omega) (by omega)]
  show S4_12 D m (Int.ofNat a) (Int.ofNat (canonN a)) (notQ (Nat.beq (doN 48 9223372036854775808 0) NANC)) h = _
  rw [C7]
  exact s4_12 hD m a h F6 F7 F8 F9 C8 C9
 include hD F9 F8 F6 F7 C9 C8 C7 C6 in
theorem s4_10 : S4_10 D m (Int.ofNat a) (Int.ofNat NANC) (Int.ofNat (canonN a)) false h = some (.ret (.bool true) h, .no) := by
  unfold S4_10
  show cal D 16 [vI (Int.ofNat 46), AV.int .u64 (Int.ofNat 9218868437227405312), AV.int .u64 (Int.ofNat 9218868437227405312)] h _ = _
  rw [hD 46 9218868437227405312 9218868437227405312 (by omega) (by omega)]
  show S4_11 D m (Int.ofNat a) (Int.ofNat NANC) (Int.ofNat (canonN a)) (notQ (Nat.beq (doN 46 9218868437227405312 9218868437227405312) NANC)) h = _
  rw [C6]
  exact s4_11 hD m a h F6 F7 F8 F9 C7 C8 C9
 include hD F9 F8 F6 F7 C9 C8 C7 C6 C5 in
theorem s4_9 : S4_9 D m (Int.ofNat a) (Int.ofNat NANC) (Int.ofNat (canonN a)) false h = some (.ret (.bool true) h, .no) := by
  unfold S4_9
  show cal D 16 [vI (Int.ofNat 47), AV.int .u64 (Int.ofNat 0), AV.int .u64 (Int.ofNat 9218868437227405312)] h _ = _
  rw [hD 47 0 9218868437227405312 (by omega) (by omega)]
  show S4_10 D m (Int.ofNat a) (Int.ofNat NANC) (Int.ofNat (canonN a)) (notQ (Nat.beq (doN 47 0 9218868437227405312) NANC)) h = _
  rw [C5]
  exact s4_10 hD m a h F6 F7 F8 F9 C6 C7 C8 C9
 include hD F9 F8 F6 F7 C9 C8 C7 C6 C5 C4 in
theorem s4_8 : S4_8 D m (Int.ofNat a) (Int.ofNat NANC) (Int.ofNat (canonN a)) false h = some (.ret (.bool true) h, .no) := by
  unfold S4_8
  show cal D 16 [vI (Int.ofNat 48), AV.int .u64 (Int.ofNat 4607182418800017408), AV.int .u64 (Int.ofNat 9223372036854775808)] h _ = _
  rw [hD 48 4607182418800017408 9223372036854775808 (by omega) (by omega)]
  show S4_9 D m (Int.ofNat a) (Int.ofNat NANC) (Int.ofNat (canonN a)) (notQ (Nat.beq (doN 48 4607182418800017408 9223372036854775808) 18442240474082181120)) h = _
  rw [C4]
  exact s4_9 hD m a h F6 F7 F8 F9 C5 C6 C7 C8 C9
 include hD F9 F8 F6 F7 C9 C8 C7 C6 C5 C4 C3 in
theorem s4_7 : S4_7 D m (Int.ofNat a) (Int.ofNat NANC) (Int.ofNat (canonN a)) false h = some (.ret (.bool true) h, .no) := by
  unfold S4_7
  show cal D 16 [vI (Int.ofNat 48), AV.int .u64 (Int.ofNat 4607182418800017408), AV.int .u64 (Int.ofNat 0)] h _ = _
  rw [hD 48 4607182418800017408 0 (by omega) (by omega)]
  show S4_8 D m (Int.ofNat a) (Int.ofNat NANC) (Int.ofNat (canonN a)) (notQ (Nat.beq (doN 48 4607182418800017408 0) 9218868437227405312)) h = _
  rw [C3]
  exact s4_8 hD m a h F6 F7 F8 F9 C4 C5 C6 C7 C8 C9
 include hI1 hI2 hD F9 F8 F6 F7 C9 C8 C7 C6 C5 C4 C3 C1 C2 in
theorem s4_1 : S4_1 D m (Int.ofNat a) (Int.ofNat NANC) (Int.ofNat (canonN a)) h = some (.ret (.bool true) h, .no) := by
  unfold S4_1
  rw [hI1 0 9223372036854775808]
  simp only [asB_b, C1, Bool.not_true, br_f]
  rw [hI2 9223372036854775808 0]
  simp only [asB_b, C2]
  exact s4_7 hD m a h F6 F7 F8 F9 C3 C4 C5 C6 C7 C8 C9
 include hI1 hI2 hD F9 F8 F6 F7 C9 C8 C7 C6 C5 C4 C3 C1 C2 in
theorem s4_20 : S4_20 D m (Int.ofNat a) (Int.ofNat NANC) (Int.ofNat (canonN a)) false h = some (.ret (.bool true) h, .no) := by
  unfold S4_20
  exact s4_1 hI1 hI2 hD m a h F6 F7 F8 F9 C1 C2 C3 C4 C5 C6 C7 C8 C9
 include hI1 hI2 hD F9 F8 F6 F7 C9 C8 C7 C6 C5 C4 C3 C1 C2 F4 in
theorem s4_19 : S4_19 D m (Int.ofNat a) (Int.ofNat NANC) (Int.ofNat (canonN a)) false h = some (.ret (.bool true) h, .no) := by
  unfold S4_19
  show cal D 17 [vI (Int.ofNat 52), AV.int .u64 (Int.ofNat a), AV.int .u64 (Int.ofNat a)] h _ = _
  rw [hI2 a a]
  show S4_20 D m (Int.ofNat a) (Int.ofNat NANC) (Int.ofNat (canonN a)) (ltB a a) h = _
  rw [F4]
  exact s4_20 hI1 hI2 hD m a h F6 F7 F8 F9 C1 C2 C3 C4 C5 C6 C7 C8 C9
 include hI1 hI2 hD F9 F8 F6 F7 C9 C8 C7 C6 C5 C4 C3 C1 C2 F4 F3 in
theorem s4_18 : S4_18 D m (Int.ofNat a) (Int.ofNat NANC) (Int.ofNat (canonN a)) false h = some (.ret (.bool true) h, .no) := by
  unfold S4_18
  show cal D 17 [vI (Int.ofNat 51), AV.int .u64 (Int.ofNat a), AV.int .u64 (Int.ofNat a)] h _ = _
  rw [hI1 a a]
  show S4_19 D m (Int.ofNat a) (Int.ofNat NANC) (Int.ofNat (canonN a)) ((eqB a a == numQ a) != true) h = _
  rw [F3]
  exact s4_19 hI1 hI2 hD m a h F4 F6 F7 F8 F9 C1 C2 C3 C4 C5 C6 C7 C8 C9
 include hI3 hI1 hI2 hD F9 F8 F6 F7 C9 C8 C7 C6 C5 C4 C3 C1 C2 F4 F3 F2 in
theorem s4_17 : S4_17 D m (Int.ofNat a) (Int.ofNat NANC) (Int.ofNat (canonN a)) false h = some (.ret (.bool true) h, .no) := by
  unfold S4_17
  show cal D 17 [vI (Int.ofNat 53), AV.int .u64 (Int.ofNat NANC), AV.int .u64 (Int.ofNat a)] h _ = _
  rw [hI3 NANC a]
  show S4_18 D m (Int.ofNat a) (Int.ofNat NANC) (Int.ofNat (canonN a)) (leB NANC a) h = _
  rw [F2.2.2.2]
  exact s4_18 hI1 hI2 hD m a h F3 F4 F6 F7 F8 F9 C1 C2 C3 C4 C5 C6 C7 C8 C9
 include hI3 hI1 hI2 hD F9 F8 F6 F7 C9 C8 C7 C6 C5 C4 C3 C1 C2 F4 F3 F2 in
theorem s4_16 : S4_16 D m (Int.ofNat a) (Int.ofNat NANC) (Int.ofNat (canonN a)) false h = some (.ret (.bool true) h, .no) := by
  unfold S4_16
  show cal D 17 [vI (Int.ofNat 52), AV.int .u64 (Int.ofNat a), AV.int .u64 (Int.ofNat NANC)] h _ = _
  rw [hI2 a NANC]
  show S4_17 D m (Int.ofNat a) (Int.ofNat NANC) (Int.ofNat (canonN a)) (ltB a NANC) h = _
  rw [F2.2.2.1]
  exact s4_17 hI1 hI2 hI3 hD m a h F2 F3 F4 F6 F7 F8 F9 C1 C2 C3 C4 C5 C6 C7 C8 C9
 include hI3 hI1 hI2 hD F9 F8 F6 F7 C9 C8 C7 C6 C5 C4 C3 C1 C2 F4 F3 F2 in
theorem s4_0 : S4_0 D m (Int.ofNat a) (Int.ofNat NANC) (Int.ofNat (canonN a)) h = some (.ret (.bool true) h, .no) := by
  unfold S4_0
  rw [hI1 NANC a]
  simp only [asB_b, F2.1, br_f]
  rw [hI1 a NANC]
  simp only [asB_b, F2.2.1]
  exact s4_16 hI1 hI2 hI3 hD m a h F2 F3 F4 F6 F7 F8 F9 C1 C2 C3 C4 C5 C6 C7 C8 C9
 include hD F1 in
theorem s4_st0 (g : Int → Int → Int → AV → Int → HP → Res2) : S4_22b D m g (Int.ofNat a) (Int.ofNat NANC) (Int.ofNat (canonN a)) (AV.agg [vI (Int.ofNat 45), vI (Int.ofNat 46), vI (Int.ofNat 47), vI (Int.ofNat 48)]) (Int.ofNat 0) h = g (Int.ofNat a) (Int.ofNat NANC) (Int.ofNat (canonN a)) (AV.agg [vI (Int.ofNat 45), vI (Int.ofNat 46), vI (Int.ofNat 47), vI (Int.ofNat 48)]) (Int.ofNat 1) h := by
  unfold S4_22b
  show obI .i64 (evP (.idxa 4 1 false (.c (AV.agg [vI (Int.ofNat 45), vI (Int.ofNat 46), vI (Int.ofNat 47), vI (Int.ofNat 48)])) (.c (vI (Int.ofNat 0)))) .leaf) _ = _
  have e : evP (.idxa 4 1 false (.c (AV.agg [vI (Int.ofNat 45), vI (Int.ofNat 46), vI (Int.ofNat 47), vI (Int.ofNat 48)])) (.c (vI (Int.ofNat 0)))) .leaf = some (vI (Int.ofNat 45)) := by kernel_rfl
  rw [e]
  show cal D 16 [vI (Int.ofNat 45), AV.int .u64 (Int.ofNat a), AV.int .u64 (Int.ofNat NANC)] h _ = _
  rw [hD 45 a NANC (by omega) (by omega)]
  show br (notQ (Nat.beq (doN 45 a NANC) NANC)) _ _ = _
  rw [(F1 45 (by omega) (by omega)).1]
  show cal D 16 [vI (Int.ofNat 45), AV.int .u64 (Int.ofNat NANC), AV.int .u64 (Int.ofNat a)] h _ = _
  rw [hD 45 NANC a (by omega) (by omega)]
  show S4_24 D m g (Int.ofNat a) (Int.ofNat NANC) (Int.ofNat (canonN a)) (AV.agg [vI (Int.ofNat 45), vI (Int.ofNat 46), vI (Int.ofNat 47), vI (Int.ofNat 48)]) (Int.ofNat 0) (notQ (Nat.beq (doN 45 NANC a) NANC)) h = _
  rw [(F1 45 (by omega) (by omega)).2]
  rfl
 include hD F1 in
theorem s4_st1 (g : Int → Int → Int → AV → Int → HP → Res2) : S4_22b D m g (Int.ofNat a) (Int.ofNat NANC) (Int.ofNat (canonN a)) (AV.agg [vI (Int.ofNat 45), vI (Int.ofNat 46), vI (Int.ofNat 47), vI (Int.ofNat 48)]) (Int.ofNat 1) h = g (Int.ofNat a) (Int.ofNat NANC) (Int.ofNat (canonN a)) (AV.agg [vI (Int.ofNat 45), vI (Int.ofNat 46), vI (Int.ofNat 47), vI (Int.ofNat 48)]) (Int.ofNat 2) h := by
  unfold S4_22b
  show obI .i64 (evP (.idxa 4 1 false (.c (AV.agg [vI (Int.ofNat 45), vI (Int.ofNat 46), vI (Int.ofNat 47), vI (Int.ofNat 48)])) (.c (vI (Int.ofNat 1)))) .leaf) _ = _
  have e : evP (.idxa 4 1 false (.c (AV.agg [vI (Int.ofNat 45), vI (Int.ofNat 46), vI (Int.ofNat 47), vI (Int.ofNat 48)])) (.c (vI (Int.ofNat 1)))) .leaf = some (vI (Int.ofNat 46)) := by kernel_rfl
  rw [e]
  show cal D 16 [vI (Int.ofNat 46), AV.int .u64 (Int.ofNat a), AV.int .u64 (Int.ofNat NANC)] h _ = _
  rw [hD 46 a NANC (by omega) (by omega)]
  show br (notQ (Nat.beq (doN 46 a NANC) NANC)) _ _ = _
  rw [(F1 46 (by omega) (by omega)).1]
  show cal D 16 [vI (Int.ofNat 46), AV.int .u64 (Int.ofNat NANC), AV.int .u64 (Int.ofNat a)] h _ = _
  rw [hD 46 NANC a (by omega) (by omega)]
  show S4_24 D m g (Int.ofNat a) (Int.ofNat NANC) (Int.ofNat (canonN a)) (AV.agg [vI (Int.ofNat 45), vI (Int.ofNat 46), vI (Int.ofNat 47), vI (Int.ofNat 48)]) (Int.ofNat 1) (notQ (Nat.beq (doN 46 NANC a) NANC)) h = _
  rw [(F1 46 (by omega) (by omega)).2]
  rfl
 include hD F1 in
theorem s4_st2 (g : Int → Int → Int → AV → Int → HP → Res2) : S4_22b D m g (Int.ofNat a) (Int.ofNat NANC) (Int.ofNat (canonN a)) (AV.agg [vI (Int.ofNat 45), vI (Int.ofNat 46), vI (Int.ofNat 47), vI (Int.ofNat 48)]) (Int.ofNat 2) h = g (Int.ofNat a) (Int.ofNat NANC) (Int.ofNat (canonN a)) (AV.agg [vI (Int.ofNat 45), vI (Int.ofNat 46), vI (Int.ofNat 47), vI (Int.ofNat 48)]) (Int.ofNat 3) h := by
  unfold S4_22b
  show obI .i64 (evP (.idxa 4 1 false (.c (AV.agg [vI (Int.ofNat 45), vI (Int.ofNat 46), vI (Int.ofNat 47), vI (Int.ofNat 48)])) (.c (vI (Int.ofNat 2)))) .leaf) _ = _
  have e : evP (.idxa 4 1 false (.c (AV.agg [vI (Int.ofNat 45), vI (Int.ofNat 46), vI (Int.ofNat 47), vI (Int.ofNat 48)])) (.c (vI (Int.ofNat 2)))) .leaf = some (vI (Int.ofNat 47)) := by kernel_rfl
  rw [e]
  show cal D 16 [vI (Int.ofNat 47), AV.int .u64 (Int.ofNat a), AV.int .u64 (Int.ofNat NANC)] h _ = _
  rw [hD 47 a NANC (by omega) (by omega)]
  show br (notQ (Nat.beq (doN 47 a NANC) NANC)) _ _ = _
  rw [(F1 47 (by omega) (by omega)).1]
  show cal D 16 [vI (Int.ofNat 47), AV.int .u64 (Int.ofNat NANC), AV.int .u64 (Int.ofNat a)] h _ = _
  rw [hD 47 NANC a (by omega) (by omega)]
  show S4_24 D m g (Int.ofNat a) (Int.ofNat NANC) (Int.ofNat (canonN a)) (AV.agg [vI (Int.ofNat 45), vI (Int.ofNat 46), vI (Int.ofNat 47), vI (Int.ofNat 48)]) (Int.ofNat 2) (notQ (Nat.beq (doN 47 NANC a) NANC)) h = _
  rw [(F1 47 (by omega) (by omega)).2]
  rfl
 include hD F1 in
theorem s4_st3 (g : Int → Int → Int → AV → Int → HP → Res2) : S4_22b D m g (Int.ofNat a) (Int.ofNat NANC) (Int.ofNat (canonN a)) (AV.agg [vI (Int.ofNat 45), vI (Int.ofNat 46), vI (Int.ofNat 47), vI (Int.ofNat 48)]) (Int.ofNat 3) h = g (Int.ofNat a) (Int.ofNat NANC) (Int.ofNat (canonN a)) (AV.agg [vI (Int.ofNat 45), vI (Int.ofNat 46), vI (Int.ofNat 47), vI (Int.ofNat 48)]) (Int.ofNat 4) h := by
  unfold S4_22b
  show obI .i64 (evP (.idxa 4 1 false (.c (AV.agg [vI (Int.ofNat 45), vI (Int.ofNat 46), vI (Int.ofNat 47), vI (Int.ofNat 48)])) (.c (vI (Int.ofNat 3)))) .leaf) _ = _
  have e : evP (.idxa 4 1 false (.c (AV.agg [vI (Int.ofNat 45), vI (Int.ofNat 46), vI (Int.ofNat 47), vI (Int.ofNat 48)])) (.c (vI (Int.ofNat 3)))) .leaf = some (vI (Int.ofNat 48)) := by kernel_rfl
  rw [e]
  show cal D 16 [vI (Int.ofNat 48), AV.int .u64 (Int.ofNat a), AV.int .u64 (Int.ofNat NANC)] h _ = _
  rw [hD 48 a NANC (by omega) (by omega)]
  show br (notQ (Nat.beq (doN 48 a NANC) NANC)) _ _ = _
  rw [(F1 48 (by omega) (by omega)).1]
  show cal D 16 [vI (Int.ofNat 48), AV.int .u64 (Int.ofNat NANC), AV.int .u64 (Int.ofNat a)] h _ = _
  rw [hD 48 NANC a (by omega) (by omega)]
  show S4_24 D m g (Int.ofNat a) (Int.ofNat NANC) (Int.ofNat (canonN a)) (AV.agg [vI (Int.ofNat 45), vI (Int.ofNat 46), vI (Int.ofNat 47), vI (Int.ofNat 48)]) (Int.ofNat 3) (notQ (Nat.beq (doN 48 NANC a) NANC)) h = _
  rw [(F1 48 (by omega) (by omega)).2]
  rfl
 include hI3 hI1 hI2 hD F9 F8 F6 F7 C9 C8 C7 C6 C5 C4 C3 C1 C2 F4 F3 F2 F1 in
theorem s4_22 : S4_22 D 999 (Int.ofNat a) (Int.ofNat NANC) (Int.ofNat (canonN a)) (AV.agg [vI (Int.ofNat 45), vI (Int.ofNat 46), vI (Int.ofNat 47), vI (Int.ofNat 48)]) (Int.ofNat 0) h = some (.ret (.bool true) h, .no) := by
  have u : ∀ k x, nrec (fun _ _ _ _ _ _ => none) (fun _ g => S4_22b D 999 g) (k + 1) (Int.ofNat a) (Int.ofNat NANC) (Int.ofNat (canonN a)) (AV.agg [vI (Int.ofNat 45), vI (Int.ofNat 46), vI (Int.ofNat 47), vI (Int.ofNat 48)]) x h = S4_22b D 999 (nrec (fun _ _ _ _ _ _ => none) (fun _ g => S4_22b D 999 g) k) (Int.ofNat a) (Int.ofNat NANC) (Int.ofNat (canonN a)) (AV.agg [vI (Int.ofNat 45), vI (Int.ofNat 46), vI (Int.ofNat 47), vI (Int.ofNat 48)]) x h := fun _ _ => rfl
  show nrec (fun _ _ _ _ _ _ => none) (fun _ g => S4_22b D 999 g) (994 + 1 + 1 + 1 + 1 + 1) (Int.ofNat a) (Int.ofNat NANC) (Int.ofNat (canonN a)) (AV.agg [vI (Int.ofNat 45), vI (Int.ofNat 46), vI (Int.ofNat 47), vI (Int.ofNat 48)]) (Int.ofNat 0) h = _
  rw [u, s4_st0 hD 999 a h F1, u, s4_st1 hD 999 a h F1, u, s4_st2 hD 999 a h F1, u, s4_st3 hD 999 a h F1, u]
  unfold S4_22b
  exact s4_0 hI1 hI2 hI3 hD 999 a h F2 F3 F4 F6 F7 F8 F9 C1 C2 C3 C4 C5 C6 C7 C8 C9
 include hA hI1 hI2 hI3 hD F9 F8 F6 F7 C9 C8 C7 C6 C5 C4 C3 C1 C2 F4 F3 F2 F1 hC in
theorem s4_26 : S4_26 D 999 (Int.ofNat a) h = some (.ret (.bool true) h, .no) := by
  unfold S4_26
  rw [hA]
  show cal D 15 [AV.int .u64 (Int.ofNat a)] h _ = _
  rw [hC]
  exact s4_22 hI1 hI2 hI3 hD a h F1 F2 F3 F4 F6 F7 F8 F9 C1 C2 C3 C4 C5 C6 C7 C8 C9
end
theorem dbl : FloatKind.f64.format = Ieee.double := rfl
theorem canon_nan {a : Nat} (h : Rl.nan a = true) : canonN a = NANC := by
  show (Bool.rec a NANC (neB a) : Nat) = _
  rw [ne_nan, h]
theorem canon_id {a : Nat} (h : Rl.nan a = false) : canonN a = a := by
  show (Bool.rec a NANC (neB a) : Nat) = _
  rw [ne_nan, h]
theorem canon_canon (a : Nat) : canonN (canonN a) = canonN a := by
  cases h : Rl.nan a with
  | true => rw [canon_nan h]; exact canon_nan nanc
  | false => rw [canon_id h, canon_id h]
theorem beq_self (x : Nat) : Nat.beq x x = true := by rw [Nat.beq_eq]
theorem f1 (a : Nat) : ∀ op, 45 ≤ op → op ≤ 48 → Nat.beq (doN op a NANC) NANC = true ∧ Nat.beq (doN op NANC a) NANC = true := fun op h1 h2 => by
  have hn := Rl.nan_sum nanc (Ieee.double.read a)
  have hs := Rl.nan_sub nanc (Ieee.double.read a)
  rcases (show op = 45 ∨ op = 46 ∨ op = 47 ∨ op = 48 by omega) with rfl | rfl | rfl | rfl
  · constructor
    · show Nat.beq (resN (((Ieee.double.read a).sum (Ieee.double.read NANC)).map Ieee.double.write)) NANC = true
      rw [hn.2.1]; rfl
    · show Nat.beq (resN (((Ieee.double.read NANC).sum (Ieee.double.read a)).map Ieee.double.write)) NANC = true
      rw [hn.1]; rfl
  · constructor
    · show Nat.beq (resN (((Ieee.double.read a).sum (Ieee.double.read NANC).opposite).map Ieee.double.write)) NANC = true
      rw [hs]; rfl
    · show Nat.beq (resN (((Ieee.double.read NANC).sum (Ieee.double.read a).opposite).map Ieee.double.write)) NANC = true
      rw [(Rl.nan_sum nanc _).1]; rfl
  · constructor
    · show Nat.beq (resN (((Ieee.double.read a).product (Ieee.double.read NANC)).map Ieee.double.write)) NANC = true
      rw [hn.2.2.2.1]; rfl
    · show Nat.beq (resN (((Ieee.double.read NANC).product (Ieee.double.read a)).map Ieee.double.write)) NANC = true
      rw [hn.2.2.1]; rfl
  · constructor
    · show Nat.beq (resN (((Ieee.double.read a).quotient (Ieee.double.fractionBits + 2) (Ieee.double.read NANC)).map Ieee.double.write)) NANC = true
      rw [hn.2.2.2.2.2]; rfl
    · show Nat.beq (resN (((Ieee.double.read NANC).quotient (Ieee.double.fractionBits + 2) (Ieee.double.read a)).map Ieee.double.write)) NANC = true
      rw [hn.2.2.2.2.1]; rfl
theorem f2 (a : Nat) : eqB NANC a = false ∧ eqB a NANC = false ∧ ltB a NANC = false ∧ leB NANC a = false := by
  have h1 : ord NANC a = none := Rl.order_nan_left nanc
  have h2 : ord a NANC = none := Rl.order_nan_right nanc
  unfold eqB ltB leB
  rw [h1, h2]
  exact ⟨rfl, rfl, rfl, rfl⟩
theorem f3 (a : Nat) : (eqB a a == numQ a) = true := by
  rw [num]
  show ((ord a a == some .eq) == !(!(ord a a == some .eq))) = true
  generalize (ord a a == some .eq) = b
  cases b <;> rfl
theorem f4 (a : Nat) : ltB a a = false := by
  cases h : Rl.nan a with
  | true => show (ord a a == some .lt) = false; rw [show ord a a = none from Rl.order_nan_left h]; rfl
  | false =>
    have := Rl.lt_iff h h
    cases e : ltB a a with
    | false => rfl
    | true => exact absurd (this.1 e) (by omega)
theorem f6 {a : Nat} (ha : a < 2 ^ 64) : (Nat.beq (doN 46 a a) 0 == notQ (Nat.beq (Nat.land (canonN a) 9218868437227405312) 9218868437227405312)) = true := by
  show (Nat.beq (resN (Ieee.double.sub a a)) 0 == _) = true
  rcases Rl.kinds ha with (rfl | rfl) | ⟨h, h0⟩ | (rfl | rfl) | h
  · decide +kernel
  · decide +kernel
  · rw [Rl.sub_self ha h h0]
    have hn : Rl.nan a = false := by
      obtain ⟨s, m, i, e, _⟩ := Rl.fin_near ha h h0
      unfold Rl.nan; rw [e]; rfl
    rw [canon_id hn]
    have : Nat.beq (Nat.land a 9218868437227405312) 9218868437227405312 = false := by
      cases e : Nat.beq (Nat.land a 9218868437227405312) 9218868437227405312 with
      | false => rfl
      | true => exact absurd (Nat.eq_of_beq_eq_true e) (Rl.land_inf h)
    rw [this]
    decide +kernel
  · decide +kernel
  · decide +kernel
  · unfold Ieee.Format.sub
    rw [(Rl.nan_sum h _).1, canon_nan h]
    decide +kernel
theorem f7 {a : Nat} (ha : a < 2 ^ 64) : Nat.beq (doN 45 a 9223372036854775808) (canonN a) = true := by
  show Nat.beq (resN (Ieee.double.add a 9223372036854775808)) (canonN a) = true
  rcases Rl.kinds ha with (rfl | rfl) | ⟨h, h0⟩ | (rfl | rfl) | h
  · decide +kernel
  · decide +kernel
  · have e : Ieee.double.add a 9223372036854775808 = some a := by
      unfold Ieee.Format.add
      rw [show Ieee.double.read 9223372036854775808 = .number true 0 Ieee.double.leastPlace from by decide +kernel]
      exact Rl.sum_zero ha h h0 true
    rw [e]; exact beq_self _
  · decide +kernel
  · decide +kernel
  · unfold Ieee.Format.add
    rw [(Rl.nan_sum h _).1, canon_nan h]
    exact beq_self _
theorem f8 {a : Nat} (ha : a < 2 ^ 64) : Nat.beq (doN 47 a 4607182418800017408) (canonN a) = true := by
  show Nat.beq (resN (Ieee.double.mul a 4607182418800017408)) (canonN a) = true
  rcases Rl.kinds ha with (rfl | rfl) | ⟨h, h0⟩ | (rfl | rfl) | h
  · decide +kernel
  · decide +kernel
  · rw [Rl.mul_one ha h h0]; exact beq_self _
  · decide +kernel
  · decide +kernel
  · unfold Ieee.Format.mul
    rw [(Rl.nan_sum h _).2.2.1, canon_nan h]
    exact beq_self _
theorem f9 {a : Nat} (ha : a < 2 ^ 64) : (Nat.beq (doN 45 a 0) (canonN a) == notQ (Nat.beq (canonN a) 9223372036854775808)) = true := by
  show (Nat.beq (resN (Ieee.double.add a 0)) (canonN a) == _) = true
  rcases Rl.kinds ha with (rfl | rfl) | ⟨h, h0⟩ | (rfl | rfl) | h
  · decide +kernel
  · decide +kernel
  · have e : Ieee.double.add a 0 = some a := by
      unfold Ieee.Format.add
      rw [show Ieee.double.read 0 = .number false 0 Ieee.double.leastPlace from by decide +kernel]
      exact Rl.sum_zero ha h h0 false
    rw [e]
    show (Nat.beq (canonN a) (canonN a) == _) = true
    have hn : Rl.nan a = false := by
      obtain ⟨s, m, i, e, _⟩ := Rl.fin_near ha h h0
      unfold Rl.nan; rw [e]; rfl
    rw [beq_self, canon_id hn]
    have : Nat.beq a 9223372036854775808 = false := by
      cases e : Nat.beq a 9223372036854775808 with
      | false => rfl
      | true => obtain rfl := Nat.eq_of_beq_eq_true e; exact absurd rfl h0
    rw [this]; rfl
  · decide +kernel
  · decide +kernel
  · unfold Ieee.Format.add
    rw [(Rl.nan_sum h _).1, canon_nan h]
    decide +kernel
theorem find4 : tabE.run 4 = S4 := by kernel_rfl
theorem enter4 (D : CallD) (m : Nat) (a : Int) (h : HP) : S4 D m [.int .u64 a] h .no = S4_26 D m a h := rfl
theorem runE (m : Int) (a : Nat) (ha : a < 2 ^ 64) : isTrue (SF tabE 1000 4 [.int .u64 (.ofNat a)] (gH m) .no) = true := by
  rw [SF_1000, find4, enter4]
  have hD : ∀ (op a b : Nat), 45 ≤ op → op ≤ 48 → ∀ h k, cal (SF tabE 999) 16 [vI (Int.ofNat op), AV.int .u64 (Int.ofNat a), AV.int .u64 (Int.ofNat b)] h k = k (AV.int .u64 (Int.ofNat (doN op a b))) h := fun op a b h1 h2 h k => by
    rcases (show op = 45 ∨ op = 46 ∨ op = 47 ∨ op = 48 by omega) with rfl | rfl | rfl | rfl <;> kernel_rfl
  rw [s4_26 (D := SF tabE 999) (fun h k => by kernel_rfl) (fun a b h k => by kernel_rfl) (fun a b h k => by kernel_rfl) (fun a b h k => by kernel_rfl) (fun a h k => by kernel_rfl) hD a (gH m)
    (f1 a) (f2 a) (f3 a) (f4 a) (f6 ha) (f7 ha) (f8 ha) (f9 ha) (by decide +kernel) (by decide +kernel) (by decide +kernel) (by decide +kernel) (by decide +kernel) (by decide +kernel) (by decide +kernel) (by decide +kernel) (by decide +kernel)]
  rfl
end
end Go.Proofs.YtbfdhoggchedjaaGreatDoor.Sx
