/- RealDoes: what the printed function answers. -/
import Derived.Test.YtbfdhoggchedjaaGreatDoorLC
import Derived.Test.YtbfdhoggchedjaaGreatDoorPr
set_option linter.unusedVariables false
set_option linter.unusedSimpArgs false
set_option linter.unusedSectionVars false
namespace Go.Proofs.YtbfdhoggchedjaaGreatDoor.Lg
open Go Go.Proofs.YtbfdhoggchedjaaGreatDoor.Ev Go.Proofs.YtbfdhoggchedjaaGreatDoor.Sx
noncomputable section
abbrev ord (a b : Nat) : Option Ordering := FloatKind.f64.format.order a b
def ltB (a b : Nat) : Bool := ord a b == some .lt
def eqB (a b : Nat) : Bool := ord a b == some .eq
def leB (a b : Nat) : Bool := ord a b == some .lt || ord a b == some .eq
def neB (a : Nat) : Bool := ord a a != some .eq
def NANC : Nat := 9221120237041090560
def canonN (a : Nat) : Nat := Bool.rec a NANC (neB a)
def resN (r : Option Nat) : Nat := Option.rec NANC canonN r
def doN (op a b : Nat) : Nat := Bool.rec (Bool.rec (Bool.rec (resN (FloatKind.f64.format.div a b)) (resN (FloatKind.f64.format.mul a b)) (Nat.beq op 47)) (resN (FloatKind.f64.format.sub a b)) (Nat.beq op 46)) (resN (FloatKind.f64.format.add a b)) (Nat.beq op 45)
theorem sf_bits (x : Nat) (h : HP) : SF tabS 19 32 [.flt .f64 x] h .no = some (.ret (.int .u64 (.ofNat (canonN x))) h, .no) := by
  have e : SF tabS 19 32 [.flt .f64 x] h .no = (Bool.rec (some (.ret (.int .u64 (.ofNat x)) h, .no)) (some (.ret (.int .u64 (.ofNat NANC)) h, .no)) (neB x) : Res2) := by kernel_rfl
  rw [e]; unfold canonN; cases neB x <;> rfl
theorem bits_fltR (r : Option Nat) (h : HP) (k : AV → HP → Res2) : cal (SF tabS 19) 32 [fltR .f64 r] h k = k (.int .u64 (.ofNat (resN r))) h := by
  cases r with
  | none =>
    have e : SF tabS 19 32 [fltR .f64 none] h .no = some (.ret (.int .u64 (.ofNat NANC)) h, .no) := by kernel_rfl
    exact cal_of e k
  | some x => exact cal_of (sf_bits x h) k
theorem asI_u (x : Int) (F : Int → Res2) : asI .u64 (AV.int .u64 x) F = F x := rfl
theorem find11 : tabS.run 11 = S11 := by kernel_rfl
theorem find13 : tabS.run 13 = S13 := by kernel_rfl
theorem SF_20 (t : ST) (f : Nat) (xs : List AV) (h : HP) (u : AMode) : SF t 20 f xs h u = t.run f (SF t 19) 19 xs h u := rfl
theorem enter11 (D : CallD) (m : Nat) (a b c : Int) (h : HP) : S11 D m [.int .i64 a, .int .u64 b, .int .u64 c] h .no = S11_0 D m a b c h := rfl
theorem enter13 (D : CallD) (m : Nat) (a b c : Int) (h : HP) : S13 D m [.int .i64 a, .int .u64 b, .int .u64 c] h .no = S13_1 D m a b c h := rfl
theorem bin_add (a b : Nat) (k : AV → Res2) : binC .add (.flt .f64 a) (.flt .f64 b) k = k (fltR .f64 (FloatKind.f64.format.add a b)) := by kernel_rfl
theorem bin_sub (a b : Nat) (k : AV → Res2) : binC .sub (.flt .f64 a) (.flt .f64 b) k = k (fltR .f64 (FloatKind.f64.format.sub a b)) := by kernel_rfl
theorem bin_mul (a b : Nat) (k : AV → Res2) : binC .mul (.flt .f64 a) (.flt .f64 b) k = k (fltR .f64 (FloatKind.f64.format.mul a b)) := by kernel_rfl
theorem bin_div (a b : Nat) (k : AV → Res2) : binC .quo (.flt .f64 a) (.flt .f64 b) k = k (fltR .f64 (FloatKind.f64.format.div a b)) := by kernel_rfl
theorem bin_eql (a b : Nat) (k : AV → Res2) : binC .eql (.flt .f64 a) (.flt .f64 b) k = k (.bool (eqB a b)) := by kernel_rfl
theorem bin_lss (a b : Nat) (k : AV → Res2) : binC .lss (.flt .f64 a) (.flt .f64 b) k = k (.bool (ltB a b)) := by kernel_rfl
theorem bin_leq (a b : Nat) (k : AV → Res2) : binC .leq (.flt .f64 a) (.flt .f64 b) k = k (.bool (leB a b)) := by kernel_rfl
theorem h31 (x : Nat) (h : HP) (k : AV → HP → Res2) : cal (SF tabS 19) 31 [.int .u64 (.ofNat x)] h k = k (.flt .f64 x) h := by kernel_rfl
theorem asB_b (b : Bool) (F : Bool → Res2) : asB (AV.bool b) F = F b := rfl
theorem sf_do {op : Nat} (h1 : 45 ≤ op) (h2 : op ≤ 48) (a b : Nat) (h : HP) : SF tabS 20 11 [.int .i64 (.ofNat op), .int .u64 (.ofNat a), .int .u64 (.ofNat b)] h .no = some (.ret (.tup [uv (doN op a b), iv 0]) h, .no) := by
  rw [SF_20, find11, enter11]
  unfold S11_0
  rw [h31, h31]
  simp only [eq_nat]
  rcases (show op = 45 ∨ op = 46 ∨ op = 47 ∨ op = 48 by omega) with rfl | rfl | rfl | rfl
  · rw [decide_eq_true rfl, br_t, bin_add, bits_fltR, asI_u]; rfl
  · rw [decide_eq_false (by decide), br_f, decide_eq_true rfl, br_t, bin_sub, bits_fltR, asI_u]; rfl
  · rw [decide_eq_false (by decide), br_f, decide_eq_false (by decide), br_f, decide_eq_true rfl, br_t, bin_mul, bits_fltR, asI_u]; rfl
  · rw [decide_eq_false (by decide), br_f, decide_eq_false (by decide), br_f, decide_eq_false (by decide), br_f, decide_eq_true rfl, br_t, bin_div, bits_fltR, asI_u]; rfl
theorem sf_do_no {op : Int} (ho : op < 45 ∨ 48 < op) (a b : Nat) (h : HP) : SF tabS 20 11 [.int .i64 op, .int .u64 (.ofNat a), .int .u64 (.ofNat b)] h .no = some (.ret (.tup [uv 0, iv 1]) h, .no) := by
  rw [SF_20, find11, enter11]
  unfold S11_0
  rw [h31, h31]
  simp only [eq_dec]
  rw [decide_eq_false (show ¬ op = Int.ofNat 45 by show ¬ op = (45 : Int); omega), br_f, decide_eq_false (show ¬ op = Int.ofNat 46 by show ¬ op = (46 : Int); omega), br_f, decide_eq_false (show ¬ op = Int.ofNat 47 by show ¬ op = (47 : Int); omega), br_f, decide_eq_false (show ¬ op = Int.ofNat 48 by show ¬ op = (48 : Int); omega), br_f]
def cpN (op a b : Nat) : Bool := if op = 51 then eqB a b else if op = 52 then ltB a b else leB a b
theorem s13_0 (D : CallD) (m : Nat) (c : Bool) (h : HP) : S13_0 D m c h = some (.ret (.tup [wv c.toNat, iv 0]) h, .no) := by cases c <;> rfl
theorem sf_cmp' {op : Nat} (h1 : 51 ≤ op) (h2 : op ≤ 53) (a b : Nat) (h : HP) : SF tabS 20 13 [.int .i64 (.ofNat op), .int .u64 (.ofNat a), .int .u64 (.ofNat b)] h .no = some (.ret (.tup [wv (cpN op a b).toNat, iv 0]) h, .no) := by
  rw [SF_20, find13, enter13]
  unfold S13_1
  rw [h31, h31]
  simp only [eq_nat]
  rcases (show op = 51 ∨ op = 52 ∨ op = 53 by omega) with rfl | rfl | rfl
  · rw [decide_eq_true rfl, br_t, bin_eql, asB_b, s13_0]; rfl
  · rw [decide_eq_false (by decide), br_f, decide_eq_true rfl, br_t, bin_lss, asB_b, s13_0]; rfl
  · rw [decide_eq_false (by decide), br_f, decide_eq_false (by decide), br_f, decide_eq_true rfl, br_t, bin_leq, asB_b, s13_0]; rfl
theorem sf_cmp_no {op : Int} (ho : op < 51 ∨ 53 < op) (a b : Nat) (h : HP) : SF tabS 20 13 [.int .i64 op, .int .u64 (.ofNat a), .int .u64 (.ofNat b)] h .no = some (.ret (.tup [wv 0, iv 1]) h, .no) := by
  rw [SF_20, find13, enter13]
  unfold S13_1
  rw [h31, h31]
  simp only [eq_dec]
  rw [decide_eq_false (show ¬ op = Int.ofNat 51 by show ¬ op = (51 : Int); omega), br_f, decide_eq_false (show ¬ op = Int.ofNat 52 by show ¬ op = (52 : Int); omega), br_f, decide_eq_false (show ¬ op = Int.ofNat 53 by show ¬ op = (53 : Int); omega), br_f]
  rfl
/- The functions, as they answer. -/
def ops (op : Int) (lo hi : Nat) : Bool := decide ((lo : Int) ≤ op) && decide (op ≤ (hi : Int))
def doA (op : Int) (a b : Nat) : AV := if ops op 45 48 = true then .tup [uv (doN op.toNat a b), iv 0] else .tup [uv 0, iv 1]
def doB (op : Int) (a b : Nat) : AV := if ops op 45 48 = true then .tup [uv (opW op.toNat a b), vB true] else .tup [uv 0, vB false]
def cmA (op : Int) (a b : Nat) : AV := if ops op 51 53 = true then .tup [wv (cpN op.toNat a b).toNat, iv 0] else .tup [wv 0, iv 1]
def cmB (op : Int) (a b : Nat) : AV := if ops op 51 53 = true then .tup [wv (cpW op.toNat a b).toNat, vB true] else .tup [wv 0, vB false]
def binP (F : Int → Nat → Nat → AV) (xs : List AV) (h : HP) : Option (AV × HP) :=
  match xs with
  | [.int .i64 op, .int .u64 (.ofNat a), .int .u64 (.ofNat b)] => bif Nat.ble a 18446744073709551615 && Nat.ble b 18446744073709551615 then some (F op a b, h) else none
  | _ => none
theorem ops_t {op : Int} {lo hi : Nat} (h : ops op lo hi = true) : ∃ n : Nat, op = .ofNat n ∧ lo ≤ n ∧ n ≤ hi := by
  unfold ops at h
  simp at h
  exact ⟨op.toNat, by show op = ((op.toNat : Nat) : Int); omega, by omega, by omega⟩
theorem ops_f {op : Int} {lo hi : Nat} (h : ¬ ops op lo hi = true) : op < lo ∨ (hi : Int) < op := by
  unfold ops at h
  simp at h
  omega
theorem binP_some {F : Int → Nat → Nat → AV} {xs : List AV} {h : HP} {x : AV × HP} (e : binP F xs h = some x) : ∃ op a b, xs = [.int .i64 op, uv a, uv b] ∧ a < 2 ^ 64 ∧ b < 2 ^ 64 ∧ x = (F op a b, h) := by
  unfold binP at e
  split at e
  · rename_i op a b
    obtain ⟨hl, e⟩ := bif_eq e
    rw [Bool.and_eq_true] at hl
    have h1 := Nat.le_of_ble_eq_true hl.1
    have h2 := Nat.le_of_ble_eq_true hl.2
    exact ⟨op, a, b, rfl, by omega, by omega, (Option.some.inj e).symm⟩
  · simp at e
theorem awake_ran (m : Int) : gc [] (SF tabS 900 10 [] (gH m) .no) = some (.bool true, []) := by kernel_rfl
def tabD : ST := .node 9 tabS (.node 10 (.pr 10 yesM.at) (.node 11 (.pr 11 (binP doA)) (.node 12 (.pr 12 (binP doB)) (.node 13 (.pr 13 (binP cmA)) (.node 14 (.pr 14 (binP cmB)) tabS)))))
theorem okD (m : Int) (lf : Ev.Loc) : letI := rhoV m lf rfl; ST.Ok Tryz.prog tabD := by
  letI := rhoV m lf rfl
  have wG : Wf (gH m) := fun b hb => Rho.gwf b (by rw [← HP.nxQ_eq]; exact hb)
  have pA : ∀ w0, PrOk Tryz.prog w0 10 yesM.at := fun w0 => pr_yes (n := 900) (by kernel_rfl) okS ⟨_, Tryz.func10, by kernel_rfl, by decide +kernel⟩ (awake_ran m) w0
  have p11 : ∀ w0, PrOk Tryz.prog w0 11 (binP doA) := fun w0 => pr_of (n := 20) (by kernel_rfl) okS ⟨_, Tryz.func11, by kernel_rfl, by decide +kernel⟩ (fun xs h r hr => by
    obtain ⟨op, a, b, rfl, ha, hb, rfl⟩ := binP_some hr
    show SF tabS 20 11 _ h .no = some (.ret (doA op a b) h, .no)
    unfold doA
    split
    · rename_i g
      obtain ⟨n, rfl, g1, g2⟩ := ops_t g
      exact sf_do g1 g2 a b h
    · rename_i g
      exact sf_do_no (ops_f g) a b h) w0
  have p13 : ∀ w0, PrOk Tryz.prog w0 13 (binP cmA) := fun w0 => pr_of (n := 20) (by kernel_rfl) okS ⟨_, Tryz.func13, by kernel_rfl, by decide +kernel⟩ (fun xs h r hr => by
    obtain ⟨op, a, b, rfl, ha, hb, rfl⟩ := binP_some hr
    show SF tabS 20 13 _ h .no = some (.ret (cmA op a b) h, .no)
    unfold cmA
    split
    · rename_i g
      obtain ⟨n, rfl, g1, g2⟩ := ops_t g
      exact sf_cmp' g1 g2 a b h
    · rename_i g
      exact sf_cmp_no (ops_f g) a b h) w0
  have p14 : ∀ w0, PrOk Tryz.prog w0 14 (binP cmB) := fun w0 => pr_of (n := 4 + 4) (by kernel_rfl) okS ⟨_, Tryz.func14, by kernel_rfl, by decide +kernel⟩ (fun xs h r hr => by
    obtain ⟨op, a, b, rfl, ha, hb, rfl⟩ := binP_some hr
    show SF tabS (4 + 4) 14 _ h .no = some (.ret (cmB op a b) h, .no)
    unfold cmB
    split
    · rename_i g
      obtain ⟨n, rfl, g1, g2⟩ := ops_t g
      exact sf_Cmp g1 g2 ha hb 4 h
    · rename_i g
      exact sf_Cmp_no (ops_f g) a b 7 h) w0
  have p12 : ∀ w0, PrOk Tryz.prog w0 12 (binP doB) := fun w0 => pr_ret (n := 30000 + 8) (by kernel_rfl) okS ⟨_, Tryz.func12, by kernel_rfl, by decide +kernel⟩ (fun xs h r hr => by
    obtain ⟨op, a, b, rfl, ha, hb, rfl⟩ := binP_some hr
    refine ⟨rfl, ?_, ?_, ?_⟩
    · show plain (doB op a b) = true
      unfold doB; split <;> rfl
    · show emb h (doB op a b) [] = some (doB op a b, h)
      unfold doB; split <;> rfl
    · show ∃ h2, SF tabS (30000 + 8) 12 [.int .i64 op, uv a, uv b] (gH m) .no = some (.ret (doB op a b) h2, .no)
      unfold doB
      split
      · rename_i g
        obtain ⟨n, rfl, g1, g2⟩ := ops_t g
        obtain ⟨h2, e, _, _⟩ := sf_Do wG g1 g2 ha hb 30000 (by omega)
        exact ⟨h2, e⟩
      · rename_i g
        exact ⟨_, sf_Do_no (ops_f g) a b 30007 _⟩) w0
  exact .node _ _ _ okS (.node _ _ _ (.pr _ _ pA) (.node _ _ _ (.pr _ _ p11) (.node _ _ _ (.pr _ _ p12) (.node _ _ _ (.pr _ _ p13) (.node _ _ _ (.pr _ _ p14) okS)))))
/- The plain law. -/
open Ieee in
theorem fine_sum {d e p : Datum} (h : d.sum e = some p) : (∃ s m i, p = .number s m i) ∨ ∃ s, p = .infinity s := by
  cases d <;> cases e <;> simp only [Datum.sum] at h
  all_goals first | (simp at h; done) | skip
  all_goals first | (obtain rfl := Option.some.inj h; first | exact .inl ⟨_, _, _, rfl⟩ | exact .inr ⟨_, rfl⟩) | skip
  all_goals split at h
  · obtain rfl := Option.some.inj h; exact .inr ⟨_, rfl⟩
  · simp at h
open Ieee in
theorem fine_quot {n : Nat} {d e p : Datum} (h : d.quotient n e = some p) : (∃ s m i, p = .number s m i) ∨ ∃ s, p = .infinity s := by
  cases d <;> cases e <;> simp only [Datum.quotient] at h
  all_goals first | (simp at h; done) | skip
  all_goals first | (obtain rfl := Option.some.inj h; first | exact .inl ⟨_, _, _, rfl⟩ | exact .inr ⟨_, rfl⟩) | skip
  split at h
  · split at h
    · simp at h
    · obtain rfl := Option.some.inj h; exact .inr ⟨_, rfl⟩
  · obtain rfl := Option.some.inj h; exact .inl ⟨_, _, _, rfl⟩
theorem canon_id {a : Nat} (h : Rl.nan a = false) : canonN a = a := by
  have : neB a = false := by
    unfold neB
    have := (Rl.eq_iff (a := a) (b := a) h h).2 ⟨rfl, rfl⟩
    have e : (ord a a == some Ordering.eq) = true := this
    show (!(ord a a == some .eq)) = false
    rw [e]; rfl
  unfold canonN; rw [this]
theorem res_wrD {r : Option Ieee.Datum} (h : ∀ p, r = some p → (∃ s m i, p = .number s m i) ∨ ∃ s, p = .infinity s) : resN (r.map Ieee.double.write) = wrD r := by
  cases r with
  | none => rfl
  | some p =>
    show canonN (Ieee.double.write p) = Ieee.double.write p
    obtain ⟨s, R, hR, e1, _⟩ := Rl.write_word (h p rfl)
    rw [e1]
    exact canon_id (Rl.word_nan s hR)
theorem do_same {op : Nat} (h1 : 45 ≤ op) (h2 : op ≤ 48) (a b : Nat) : doN op a b = opW op a b := by
  rcases (show op = 45 ∨ op = 46 ∨ op = 47 ∨ op = 48 by omega) with rfl | rfl | rfl | rfl
  · exact res_wrD fun p h => fine_sum h
  · exact res_wrD fun p h => fine_sum h
  · exact res_wrD fun p h => Rl.product_fine h
  · exact res_wrD fun p h => fine_quot h
theorem find3 : tabD.run 3 = S3 := by kernel_rfl
theorem enter3 (D : CallD) (m : Nat) (a b c : Int) (h : HP) : S3 D m [.int .i64 a, .int .u64 b, .int .u64 c] h .no = S3_0 D m a b c h := rfl
theorem ext0 (x : AV) (l : List AV) (F : AV → Res2) : extC (.tup (x :: l)) 0 F = F x := rfl
theorem ext1 (x y : AV) (l : List AV) (F : AV → Res2) : extC (.tup (x :: y :: l)) 1 F = F y := rfl
theorem asI_w (x : Int) (F : Int → Res2) : asI .u32 (AV.int .u32 x) F = F x := rfl
theorem beq_w (x : Nat) (k : AV → Option AV) : binCV .eql (vW (Int.ofNat x)) (vW (Int.ofNat x)) k = k (.bool true) := by
  have : binCV .eql (vW (Int.ofNat x)) (vW (Int.ofNat x)) k = k (.bool (Nat.beq x x)) := by kernel_rfl
  rw [this, show Nat.beq x x = true by rw [Nat.beq_eq]]
theorem prim_cal {t : ST} {n f : Nat} {xs : List AV} {h : HP} {v : AV} {p : List AV → HP → Option (AV × HP)} (e : SF t (n + 1) f xs h .no = obQ (p xs h) fun r => some (.ret r.1 r.2, .no)) (hp : p xs h = some (v, h)) (k : AV → HP → Res2) : cal (SF t (n + 1)) f xs h k = k v h := by
  refine cal_of ?_ k
  rw [e, hp]; rfl
theorem bin_ok {F : Int → Nat → Nat → AV} {op : Int} {a b : Nat} (ha : a < 2 ^ 64) (hb : b < 2 ^ 64) (h : HP) : binP F [.int .i64 op, uv a, uv b] h = some (F op a b, h) := by
  show (bif Nat.ble a 18446744073709551615 && Nat.ble b 18446744073709551615 then some (F op a b, h) else none) = _
  rw [show Nat.ble a 18446744073709551615 = true from by rw [Nat.ble_eq]; omega, show Nat.ble b 18446744073709551615 = true from by rw [Nat.ble_eq]; omega]
  rfl
theorem runD (m : Int) (op : Int) (a b : Nat) (ha : a < 2 ^ 64) (hb : b < 2 ^ 64) : isTrue (SF tabD (1000 + 1) 3 [.int .i64 op, .int .u64 (.ofNat a), .int .u64 (.ofNat b)] (gH m) .no) = true := by
  rw [SF_succ, find3, enter3]
  unfold S3_0
  have cA : ∀ h k, cal (SF tabD 1000) 10 [] h k = k (.bool true) h := fun h k => by kernel_rfl
  rw [cA, asB_b]
  simp only [Bool.not_true]
  rw [br_f]
  have c11 : ∀ h k, cal (SF tabD 1000) 11 [vI op, uv a, uv b] h k = k (doA op a b) h := fun h k => prim_cal (n := 999) (p := binP doA) (by kernel_rfl) (bin_ok ha hb h) k
  have c12 : ∀ h k, cal (SF tabD 1000) 12 [vI op, uv a, uv b] h k = k (doB op a b) h := fun h k => prim_cal (n := 999) (p := binP doB) (by kernel_rfl) (bin_ok ha hb h) k
  have c13 : ∀ h k, cal (SF tabD 1000) 13 [vI op, uv a, uv b] h k = k (cmA op a b) h := fun h k => prim_cal (n := 999) (p := binP cmA) (by kernel_rfl) (bin_ok ha hb h) k
  have c14 : ∀ h k, cal (SF tabD 1000) 14 [vI op, uv a, uv b] h k = k (cmB op a b) h := fun h k => prim_cal (n := 999) (p := binP cmB) (by kernel_rfl) (bin_ok ha hb h) k
  have same : ∀ n, eqQ (Int.ofNat n) (Int.ofNat n) = true := fun n => by rw [eq_nat, decide_eq_true rfl]
  rw [c11]
  by_cases g : ops op 45 48 = true
  · have e1 : doA op a b = .tup [uv (opW op.toNat a b), iv 0] := by
      obtain ⟨n, rfl, g1, g2⟩ := ops_t g
      unfold doA; rw [if_pos g]
      show AV.tup [uv (doN n a b), iv 0] = AV.tup [uv (opW n a b), iv 0]
      rw [do_same g1 g2]
    have e2 : doB op a b = .tup [uv (opW op.toNat a b), vB true] := by unfold doB; rw [if_pos g]
    have f : ¬ ops op 51 53 = true := fun f => by
      obtain ⟨n, rfl, g1, g2⟩ := ops_t g
      obtain ⟨k, hk, f1, f2⟩ := ops_t f
      have : n = k := Int.ofNat.inj hk
      omega
    have e3 : cmA op a b = .tup [wv 0, iv 1] := by unfold cmA; rw [if_neg f]
    have e4 : cmB op a b = .tup [wv 0, vB false] := by unfold cmB; rw [if_neg f]
    rw [e1, ext0, asI_u, ext1, asI_iv, c12, e2, ext0, asI_u, ext1, asB_v, c13, e3, ext0, asI_w, ext1, asI_iv, c14, e4, ext0, asI_w, ext1, asB_v]
    simp only [same]
    rfl
  · have e1 : doA op a b = .tup [uv 0, iv 1] := by unfold doA; rw [if_neg g]
    have e2 : doB op a b = .tup [uv 0, vB false] := by unfold doB; rw [if_neg g]
    rw [e1, ext0, asI_u, ext1, asI_iv, c12, e2, ext0, asI_u, ext1, asB_v, c13]
    by_cases f : ops op 51 53 = true
    · have e3 : cmA op a b = .tup [wv (cpW op.toNat a b).toNat, iv 0] := by
        unfold cmA; rw [if_pos f]; rfl
      have e4 : cmB op a b = .tup [wv (cpW op.toNat a b).toNat, vB true] := by unfold cmB; rw [if_pos f]
      rw [e3, ext0, asI_w, ext1, asI_iv, c14, e4, ext0, asI_w, ext1, asB_v]
      simp only [beq_w]
      rfl
    · have e3 : cmA op a b = .tup [wv 0, iv 1] := by unfold cmA; rw [if_neg f]
      have e4 : cmB op a b = .tup [wv 0, vB false] := by unfold cmB; rw [if_neg f]
      rw [e3, ext0, asI_w, ext1, asI_iv, c14, e4, ext0, asI_w, ext1, asB_v]
      rfl
end
end Go.Proofs.YtbfdhoggchedjaaGreatDoor.Lg
