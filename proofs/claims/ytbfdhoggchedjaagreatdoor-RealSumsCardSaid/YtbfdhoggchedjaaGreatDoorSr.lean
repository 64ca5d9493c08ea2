/- RealSums: what the printed function answers. -/
import Derived.Test.YtbfdhoggchedjaaGreatDoorEc
import Derived.Test.YtbfdhoggchedjaaGreatDoorSm
set_option linter.unusedVariables false
set_option linter.unusedSimpArgs false
set_option linter.unusedSectionVars false
namespace Go.Proofs.YtbfdhoggchedjaaGreatDoor.Sx
open Go Go.Proofs.YtbfdhoggchedjaaGreatDoor.Ev
noncomputable section
def ofN (x : Nat) : Nat := canonN (Ieee.double.nearest false x 0)
theorem fits_i32 {k : Nat} (h : k ≤ 2147483647) : wrapF .i32 (.ofNat k) = .ofNat k := by
  show (bif Nat.ble k 2147483647 then Int.ofNat k else _) = _
  rw [show Nat.ble k 2147483647 = true from by rw [Nat.ble_eq]; omega]
  rfl
theorem fits_i64 {k : Nat} (h : k ≤ 2147483647) : wrapF .i64 (.ofNat k) = .ofNat k := by
  show (bif Nat.ble k 9223372036854775807 then Int.ofNat k else _) = _
  rw [show Nat.ble k 9223372036854775807 = true from by rw [Nat.ble_eq]; omega]
  rfl
theorem fits_u32 {k : Nat} (h : k ≤ 2147483647) : wrapF .u32 (.ofNat k) = .ofNat k := by
  show (bif Nat.ble k 4294967295 then Int.ofNat k else _) = _
  rw [show Nat.ble k 4294967295 = true from by rw [Nat.ble_eq]; omega]
  rfl
theorem find19 : tabS.run 19 = S19 := by kernel_rfl
theorem enter19 (D : CallD) (m : Nat) (a : Int) (h : HP) : S19 D m [.int .u32 a] h .no = S19_0 D m a h := rfl
theorem find43 : tabS.run 43 = S43 := by kernel_rfl
theorem enter43 (D : CallD) (m : Nat) (a : Int) (h : HP) : S43 D m [.int .u32 a] h .no = S43_0 D m a h := rfl
theorem obI_i (x : Int) (F : Int → Res2) : obI .i32 (some (AV.int .i32 x)) F = F x := rfl
theorem asI_i (x : Int) (F : Int → Res2) : asI .i64 (AV.int .i64 x) F = F x := rfl
theorem asI_w (x : Int) (F : Int → Res2) : asI .u32 (AV.int .u32 x) F = F x := rfl
theorem conv_i (x : Nat) : convV (.ii .i32) (vW (Int.ofNat x)) = some (AV.int .i32 (wrapF .i32 (.ofNat x))) := by kernel_rfl
theorem sf_signed (x : Nat) (hx : x ≤ 2147483647) (h : HP) : SF tabS 19 43 [.int .u32 (.ofNat x)] h .no = some (.ret (.int .i64 (.ofNat x)) h, .no) := by
  rw [SF_19, find43, enter43]
  unfold S43_0
  rw [conv_i, fits_i32 hx, obI_i]
  simp only [fits_i64 hx]
  rfl
theorem near_of (x : Nat) : FloatKind.nearest .f64 (Int.ofNat x) = Ieee.double.nearest false x 0 := by kernel_rfl
theorem sf_of (x : Nat) (hx : x ≤ 2147483647) (h : HP) : SF tabS 20 19 [.int .u32 (.ofNat x)] h .no = some (.ret (.int .u64 (.ofNat (ofN x))) h, .no) := by
  rw [SF_20, find19, enter19]
  unfold S19_0
  have e : ∀ k, cal (SF tabS 19) 43 [vW (Int.ofNat x)] h k = k (.int .i64 (.ofNat x)) h := fun k => cal_ret (sf_signed x hx h) k
  rw [e, asI_i]
  simp only [near_of]
  have e2 : ∀ k, cal (SF tabS 19) 32 [.flt .f64 (Ieee.double.nearest false x 0)] h k = k (.int .u64 (.ofNat (ofN x))) h := fun k => cal_ret (sf_bits _ h) k
  rw [e2, asI_u]
def ofP (xs : List AV) (h : HP) : Option (AV × HP) :=
  match xs with
  | [.int .u32 (.ofNat x)] => bif Nat.ble x 2147483647 then some (.int .u64 (.ofNat (ofN x)), h) else none
  | _ => none
def tabQ : ST := .node 18 tabE (.node 19 (.pr 19 ofP) tabE)
theorem okQ (m : Int) (lf : Ev.Loc) : letI := rhoV m lf rfl; ST.Ok Tryz.prog tabQ := by
  letI := rhoV m lf rfl
  have pO : ∀ w0, PrOk Tryz.prog w0 19 ofP := fun w0 => pr_of (n := 20) (by kernel_rfl) okS ⟨_, Tryz.func19, by kernel_rfl, by decide +kernel⟩ (fun xs h r hr => by
    unfold ofP at hr
    split at hr
    · obtain ⟨hl, hr⟩ := bif_eq hr
      have := Nat.le_of_ble_eq_true hl
      obtain rfl := Option.some.inj hr; exact sf_of _ (by omega) _
    · simp at hr) w0
  exact .node _ _ _ (okE m lf) (.node _ _ _ (.pr _ _ pO) (okE m lf))
theorem bin_rem (v : Nat) (k : AV → Res2) : binC .rem (vW (Int.ofNat v)) (vW (Int.ofNat 1048576)) k = k (vW (Int.ofNat (v % 1048576))) := by kernel_rfl
theorem bin_addw (x y : Nat) (h : x + y ≤ 2147483647) (k : AV → Res2) : binC .add (vW (Int.ofNat x)) (vW (Int.ofNat y)) k = k (vW (Int.ofNat (x + y))) := by
  have e : binC .add (vW (Int.ofNat x)) (vW (Int.ofNat y)) k = k (vW (wrapF .u32 (.ofNat (x + y)))) := by kernel_rfl
  rw [e, fits_u32 h]
theorem bin_lssw (x y : Nat) (k : AV → Res2) : binC .lss (vW (Int.ofNat x)) (vW (Int.ofNat y)) k = k (.bool (Nat.ble (x + 1) y)) := by kernel_rfl
section
variable {D : CallD} (hA : ∀ h k, cal D 10 [] h k = k (.bool true) h)
  (hI2 : ∀ (a b : Nat) h k, cal D 17 [vI (Int.ofNat 52), AV.int .u64 (Int.ofNat a), AV.int .u64 (Int.ofNat b)] h k = k (.bool (ltB a b)) h)
  (hN : ∀ (a : Nat), a < 2 ^ 64 → ∀ h k, cal D 18 [AV.int .u64 (Int.ofNat a)] h k = k (AV.int .u64 (Int.ofNat (negN a))) h)
  (hD : ∀ (op a b : Nat), 45 ≤ op → op ≤ 48 → ∀ h k, cal D 16 [vI (Int.ofNat op), AV.int .u64 (Int.ofNat a), AV.int .u64 (Int.ofNat b)] h k = k (AV.int .u64 (Int.ofNat (doN op a b))) h)
  (hO : ∀ (x : Nat), x ≤ 2147483647 → ∀ h k, cal D 19 [vW (Int.ofNat x)] h k = k (AV.int .u64 (Int.ofNat (ofN x))) h)
  (m : Nat) (a b v w : Nat) (ha : a < 2 ^ 64) (hb : b < 2 ^ 64) (h : HP)
  (G1 : Nat.beq (doN 45 (ofN (v % 1048576)) (ofN (w % 1048576))) (ofN (v % 1048576 + w % 1048576)) = true)
  (G2 : (ltB (ofN (v % 1048576)) (ofN (w % 1048576)) == Nat.ble (v % 1048576 + 1) (w % 1048576)) = true)
  (H1 : Nat.beq (doN 45 a b) (doN 45 b a) = true) (H2 : Nat.beq (doN 47 a b) (doN 47 b a) = true)
  (H3 : Nat.beq (doN 46 a b) (doN 45 a (negN b)) = true) (H4 : Nat.beq (doN 47 (negN a) b) (negN (doN 47 a b)) = true) (H5 : doN 47 a b < 2 ^ 64)
theorem eq_nat (x y : Nat) : eqQ (Int.ofNat x) (Int.ofNat y) = Nat.beq x y := rfl
theorem not_t : notQ true = false := rfl
theorem asI_vw (x : Int) (F : Int → Res2) : asI .u32 (vW x) F = F x := rfl
 include hI2 hD hO G1 G2 in
theorem s6_0 : S6_0 D m (Int.ofNat v) (Int.ofNat w) h = some (.ret (.bool true) h, .no) := by
  have hv : v % 1048576 < 1048576 := Nat.mod_lt _ (by omega)
  have hw : w % 1048576 < 1048576 := Nat.mod_lt _ (by omega)
  unfold S6_0
  rw [bin_rem, asI_vw, bin_rem, asI_vw, hO _ (by omega), asI_u, hO _ (by omega), asI_u, hD 45 _ _ (by omega) (by omega), asI_u, bin_addw _ _ (by omega), asI_vw, hO _ (by omega), asI_u]
  simp only [eq_nat, G1, br_t]
  rw [hO _ (by omega), asI_u, hO _ (by omega), asI_u, hI2, asB_b, bin_lssw, asB_b]
  simp only [G2]
  rfl
 include hI2 hN hD hO G1 G2 H4 H5 ha in
theorem s6_4 : S6_4 D m (Int.ofNat a) (Int.ofNat b) (Int.ofNat v) (Int.ofNat w) false h = some (.ret (.bool true) h, .no) := by
  unfold S6_4
  rw [br_f, hN a ha, asI_u, hD 47 _ _ (by omega) (by omega), asI_u, hD 47 _ _ (by omega) (by omega), asI_u, hN _ H5, asI_u]
  simp only [eq_nat, H4, not_t]
  unfold S6_5
  rw [br_f]
  exact s6_0 hI2 hD hO m v w h G1 G2
 include hI2 hN hD hO G1 G2 H3 H4 H5 ha hb in
theorem s6_3 : S6_3 D m (Int.ofNat a) (Int.ofNat b) (Int.ofNat v) (Int.ofNat w) false h = some (.ret (.bool true) h, .no) := by
  unfold S6_3
  rw [br_f, hD 46 _ _ (by omega) (by omega), asI_u, hN b hb, asI_u, hD 45 _ _ (by omega) (by omega), asI_u]
  simp only [eq_nat, H3, not_t]
  exact s6_4 hI2 hN hD hO m a b v w ha h G1 G2 H4 H5
def h8S (m0 : Int) (v w : Nat) : HP := HP.newQ (gH m0) (.cells true [.int .u32 (.ofNat v), .int .u32 (.ofNat w)])
theorem s6_7a (m0 : Int) : S6_7 D m (Int.ofNat a) (Int.ofNat b) (AV.agg [.int .u32 (.ofNat v), .int .u32 (.ofNat w)]) (gH m0) = cal D 10 [] (h8S m0 v w) fun t13 h9 =>
 asB t13 fun t13a =>
 let t14 := !t13a
 br t14 (
 some (.ret (vB false) h9, .no)) (
 cal D 16 [(vI (Int.ofNat 45)), (AV.int .u64 (Int.ofNat a)), (AV.int .u64 (Int.ofNat b))] h9 fun t17 h17 =>
 asI .u64 t17 fun t17a =>
 cal D 16 [(vI (Int.ofNat 45)), (AV.int .u64 (Int.ofNat b)), (AV.int .u64 (Int.ofNat a))] h17 fun t20 h18 =>
 asI .u64 t20 fun t20a =>
 let t21 := notQ (eqQ t17a t20a)
 br t21 (
 S6_3 D m (Int.ofNat a) (Int.ofNat b) (Int.ofNat v) (Int.ofNat w) true h18) (
 cal D 16 [(vI (Int.ofNat 47)), (AV.int .u64 (Int.ofNat a)), (AV.int .u64 (Int.ofNat b))] h18 fun t25 h26 =>
 asI .u64 t25 fun t25a =>
 cal D 16 [(vI (Int.ofNat 47)), (AV.int .u64 (Int.ofNat b)), (AV.int .u64 (Int.ofNat a))] h26 fun t28 h27 =>
 asI .u64 t28 fun t28a =>
 let t29 := notQ (eqQ t25a t28a)
 S6_3 D m (Int.ofNat a) (Int.ofNat b) (Int.ofNat v) (Int.ofNat w) t29 h27)) := by kernel_rfl
 include hA hI2 hN hD hO G1 G2 H1 H2 H3 H4 H5 ha hb in
theorem s6_7 (m0 : Int) : S6_7 D m (Int.ofNat a) (Int.ofNat b) (AV.agg [.int .u32 (.ofNat v), .int .u32 (.ofNat w)]) (gH m0) = some (.ret (.bool true) (h8S m0 v w), .no) := by
  rw [s6_7a, hA, asB_b]
  simp only [Bool.not_true, br_f]
  rw [hD 45 _ _ (by omega) (by omega), asI_u, hD 45 _ _ (by omega) (by omega), asI_u]
  simp only [eq_nat, H1, not_t, br_f]
  rw [hD 47 _ _ (by omega) (by omega), asI_u, hD 47 _ _ (by omega) (by omega), asI_u]
  simp only [eq_nat, H2, not_t]
  exact s6_3 hI2 hN hD hO m a b v w ha hb (h8S m0 v w) G1 G2 H3 H4 H5
end
theorem ofN_id {x : Nat} (h : x < 2 ^ 52) : ofN x = Ieee.double.nearest false x 0 := canon_id (Rl.nan_small h)
theorem g2 {x y : Nat} (hx : x < 1048576) (hy : y < 1048576) : (ltB (ofN x) (ofN y) == Nat.ble (x + 1) y) = true := by
  rw [ofN_id (by omega), ofN_id (by omega)]
  show (Rl.lt _ _ == _) = true
  rw [Rl.lt_small (by omega) (by omega), beq_iff_eq, Bool.eq_iff_iff, decide_eq_true_iff, Nat.ble_eq]
  rfl
theorem fin_small {x : Nat} (h0 : x ≠ 0) (h : x < 2 ^ 52) : Ieee.double.nearest false x 0 < 2 ^ 64 ∧ Ieee.double.nearest false x 0 % 2 ^ 63 < Ieee.double.infRung ∧ Ieee.double.nearest false x 0 % 2 ^ 63 ≠ 0 := by
  have hl := Rl.small_log h0 h
  obtain ⟨g1, g2⟩ := Rl.sig_log h0 h
  have g3 := (Nat.log2_eq_iff g2).1 g1
  have hi : Ieee.double.infRung = 2047 * 2 ^ 52 := by decide
  rw [Rl.near_small h0 h]
  obtain ⟨w1, w2, w3⟩ := Rl.word_lt false (R := (x.log2 + 1022) * 2 ^ 52 + Rl.sig x) (by omega)
  rw [w2]
  exact ⟨w1, by omega, by omega⟩
theorem g1 {x y : Nat} (hx : x < 1048576) (hy : y < 1048576) : Nat.beq (doN 45 (ofN x) (ofN y)) (ofN (x + y)) = true := by
  show Nat.beq (resN (Ieee.double.add (ofN x) (ofN y))) (ofN (x + y)) = true
  have z : ofN 0 = 0 := by decide +kernel
  have key : Ieee.double.add (ofN x) (ofN y) = some (Ieee.double.nearest false (x + y) 0) := by
    by_cases h1 : x = 0
    · subst h1
      rw [z, Nat.zero_add]
      by_cases h2 : y = 0
      · subst h2; decide +kernel
      · obtain ⟨f1, f2, f3⟩ := fin_small h2 (show y < 2 ^ 52 by omega)
        rw [ofN_id (by omega)]
        unfold Ieee.Format.add
        rw [Rl.sum_comm, show Ieee.double.read 0 = .number false 0 Ieee.double.leastPlace from by decide +kernel]
        exact Rl.sum_zero f1 f2 f3 false
    · by_cases h2 : y = 0
      · subst h2
        obtain ⟨f1, f2, f3⟩ := fin_small h1 (show x < 2 ^ 52 by omega)
        rw [z, Nat.add_zero, ofN_id (by omega)]
        unfold Ieee.Format.add
        rw [show Ieee.double.read 0 = .number false 0 Ieee.double.leastPlace from by decide +kernel]
        exact Rl.sum_zero f1 f2 f3 false
      · rw [ofN_id (by omega), ofN_id (by omega)]
        exact Rl.sum_small h1 h2 (by omega)
  rw [key]
  exact beq_self _
theorem h1 (a b : Nat) : Nat.beq (doN 45 a b) (doN 45 b a) = true := by
  show Nat.beq (resN (((Ieee.double.read a).sum (Ieee.double.read b)).map Ieee.double.write)) (resN (((Ieee.double.read b).sum (Ieee.double.read a)).map Ieee.double.write)) = true
  rw [Rl.sum_comm]; exact beq_self _
theorem h2 (a b : Nat) : Nat.beq (doN 47 a b) (doN 47 b a) = true := by
  show Nat.beq (resN (((Ieee.double.read a).product (Ieee.double.read b)).map Ieee.double.write)) (resN (((Ieee.double.read b).product (Ieee.double.read a)).map Ieee.double.write)) = true
  rw [Rl.product_comm]; exact beq_self _
theorem neg_nan {a : Nat} (ha : a < 2 ^ 64) (h : Rl.nan a = true) : negN a = NANC := canon_nan (by rw [Rl.nan_opp (sign_read ha)]; exact h)
theorem neg_num {a : Nat} (ha : a < 2 ^ 64) (h : Rl.nan a = false) : negN a = signN a (flipN a) := canon_id (by rw [Rl.nan_opp (sign_read ha)]; exact h)
theorem h3 (a b : Nat) (hb : b < 2 ^ 64) : Nat.beq (doN 46 a b) (doN 45 a (negN b)) = true := by
  show Nat.beq (resN (((Ieee.double.read a).sum (Ieee.double.read b).opposite).map Ieee.double.write)) (resN (((Ieee.double.read a).sum (Ieee.double.read (negN b))).map Ieee.double.write)) = true
  cases h : Rl.nan b with
  | true => rw [Rl.nan_sub h, neg_nan hb h, (Rl.nan_sum nanc _).2.1]; exact beq_self _
  | false => rw [neg_num hb h, sign_read hb]; exact beq_self _
theorem neg_word (s : Bool) {R : Nat} (h : R ≤ Ieee.double.infRung) : negN (Ieee.double.word s R) = Ieee.double.word (!s) R := by
  obtain ⟨w1, w2, w3⟩ := Rl.word_lt s h
  rw [neg_num w1 (Rl.word_nan s h)]
  have hb := tb (Ieee.double.word s R) w1
  have h63 := top _ _ ((hb 63).trans (if_pos rfl))
  refine Rl.word_of (sign_lt _ _) ?_ ?_
  · refine Eq.trans ?_ w2
    apply Nat.eq_of_testBit_eq
    intro i
    rw [Nat.testBit_mod_two_pow, Nat.testBit_mod_two_pow]
    by_cases hi : i < 63
    · refine congrArg (decide (i < 63) && ·) ((hb i).trans ?_)
      rw [if_neg (by omega)]
    · simp [hi]
  · exact (h63.trans (by rw [w3]))
theorem h45 (a b : Nat) (ha : a < 2 ^ 64) : Nat.beq (doN 47 (negN a) b) (negN (doN 47 a b)) = true ∧ doN 47 a b < 2 ^ 64 := by
  have nn : negN NANC = NANC := by decide +kernel
  have nl : NANC < 2 ^ 64 := by decide
  show Nat.beq (resN (((Ieee.double.read (negN a)).product (Ieee.double.read b)).map Ieee.double.write)) (negN (resN (((Ieee.double.read a).product (Ieee.double.read b)).map Ieee.double.write))) = true ∧ resN (((Ieee.double.read a).product (Ieee.double.read b)).map Ieee.double.write) < 2 ^ 64
  cases h : Rl.nan a with
  | true =>
    rw [neg_nan ha h, (Rl.nan_sum nanc _).2.2.1, (Rl.nan_sum h _).2.2.1]
    exact ⟨by show Nat.beq NANC (negN NANC) = true; rw [nn]; exact beq_self _, nl⟩
  | false =>
    rw [neg_num ha h, sign_read ha, Rl.product_opp]
    cases e : (Ieee.double.read a).product (Ieee.double.read b) with
    | none => exact ⟨by show Nat.beq NANC (negN NANC) = true; rw [nn]; exact beq_self _, nl⟩
    | some p =>
      obtain ⟨s, R, hR, e1, e2⟩ := Rl.write_word (Rl.product_fine e)
      show Nat.beq (canonN (Ieee.double.write p.opposite)) (negN (canonN (Ieee.double.write p))) = true ∧ canonN (Ieee.double.write p) < 2 ^ 64
      rw [e1, e2, canon_id (Rl.word_nan _ hR), canon_id (Rl.word_nan _ hR), neg_word s hR]
      exact ⟨beq_self _, (Rl.word_lt s hR).1⟩
theorem find6 : tabQ.run 6 = S6 := by kernel_rfl
theorem enter6 (D : CallD) (m : Nat) (a b : Int) (c : AV) (h : HP) : S6 D m [.int .u64 a, .int .u64 b, c] h .no = S6_7 D m a b c h := rfl
theorem runQ (m : Int) (a b v w : Nat) (ha : a < 2 ^ 64) (hb : b < 2 ^ 64) : isTrue (SF tabQ 1000 6 [.int .u64 (.ofNat a), .int .u64 (.ofNat b), .agg [.int .u32 (.ofNat v), .int .u32 (.ofNat w)]] (gH m) .no) = true := by
  rw [SF_1000, find6, enter6]
  have hD : ∀ (op a b : Nat), 45 ≤ op → op ≤ 48 → ∀ h k, cal (SF tabQ 999) 16 [vI (Int.ofNat op), AV.int .u64 (Int.ofNat a), AV.int .u64 (Int.ofNat b)] h k = k (AV.int .u64 (Int.ofNat (doN op a b))) h := fun op a b h1 h2 h k => by
    rcases (show op = 45 ∨ op = 46 ∨ op = 47 ∨ op = 48 by omega) with rfl | rfl | rfl | rfl <;> kernel_rfl
  have hN : ∀ (a : Nat), a < 2 ^ 64 → ∀ h k, cal (SF tabQ 999) 18 [AV.int .u64 (Int.ofNat a)] h k = k (AV.int .u64 (Int.ofNat (negN a))) h := fun a ha h k => by
    have e : SF tabQ 999 18 [AV.int .u64 (Int.ofNat a)] h .no = obQ (bif Nat.ble a 18446744073709551615 then some ((AV.int .u64 (.ofNat (negN a))), h) else none) fun r => some (.ret r.1 r.2, .no) := by kernel_rfl
    have e : SF tabQ 999 18 [AV.int .u64 (Int.ofNat a)] h .no = some (.ret (.int .u64 (.ofNat (negN a))) h, .no) := by
      rw [e, show Nat.ble a 18446744073709551615 = true from by rw [Nat.ble_eq]; omega]
      rfl
    exact cal_ret e k
  have hO : ∀ (x : Nat), x ≤ 2147483647 → ∀ h k, cal (SF tabQ 999) 19 [vW (Int.ofNat x)] h k = k (AV.int .u64 (Int.ofNat (ofN x))) h := fun x hx h k => by
    have e : SF tabQ 999 19 [vW (Int.ofNat x)] h .no = obQ (bif Nat.ble x 2147483647 then some ((AV.int .u64 (.ofNat (ofN x))), h) else none) fun r => some (.ret r.1 r.2, .no) := by kernel_rfl
    have e : SF tabQ 999 19 [vW (Int.ofNat x)] h .no = some (.ret (.int .u64 (.ofNat (ofN x))) h, .no) := by
      rw [e, show Nat.ble x 2147483647 = true from by rw [Nat.ble_eq]; omega]
      rfl
    exact cal_ret e k
  rw [s6_7 (D := SF tabQ 999) (fun h k => by kernel_rfl) (fun a b h k => by kernel_rfl) hN hD hO 999 a b v w ha hb (g1 (Nat.mod_lt _ (by omega)) (Nat.mod_lt _ (by omega))) (g2 (Nat.mod_lt _ (by omega)) (Nat.mod_lt _ (by omega))) (h1 a b) (h2 a b) (h3 a b hb) (h45 a b ha).1 (h45 a b ha).2]
  rfl
end
end Go.Proofs.YtbfdhoggchedjaaGreatDoor.Sx
