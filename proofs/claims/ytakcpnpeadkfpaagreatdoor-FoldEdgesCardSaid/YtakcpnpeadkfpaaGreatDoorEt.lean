/- FoldEdges: what the printed function answers. -/
import Derived.Test.YtakcpnpeadkfpaaGreatDoorGu
import Derived.Test.YtakcpnpeadkfpaaGreatDoorEd
import Derived.Test.YtakcpnpeadkfpaaGreatDoorPr
set_option linter.unusedVariables false
set_option linter.unusedSimpArgs false
set_option linter.unusedSectionVars false
namespace Go.Proofs.YtakcpnpeadkfpaaGreatDoor.Fg
open Go Go.Proofs.YtakcpnpeadkfpaaGreatDoor.Ev Go.Proofs.YtakcpnpeadkfpaaGreatDoor.Sx
noncomputable section
abbrev uv (n : Nat) : AV := AV.int .u64 (Int.ofNat n)
abbrev wv (n : Nat) : AV := AV.int .u32 (Int.ofNat n)
abbrev iv (n : Nat) : AV := AV.int .i64 (Int.ofNat n)
abbrev cX (a : Nat) : AV := AV.agg [iv 2, wv 0, uv a, .str [], iv 0]
abbrev ord (a b : Nat) : Option Ordering := FloatKind.f64.format.order a b
def ltB (a b : Nat) : Bool := ord a b == some .lt
def eqB (a b : Nat) : Bool := ord a b == some .eq
def leB (a b : Nat) : Bool := ord a b == some .lt || ord a b == some .eq
def neB (a : Nat) : Bool := ord a a != some .eq
def NANC : Nat := 9221120237041090560
def canonN (a : Nat) : Nat := Bool.rec a NANC (neB a)
def resN (r : Option Nat) : Nat := Option.rec NANC canonN r
def subN (a b : Nat) : Nat := resN (FloatKind.f64.format.sub a b)
theorem cal_of {D : CallD} {f : Nat} {xs : List AV} {h h' : HP} {v : AV} (e : D f xs h .no = some (.ret v h', .no)) (k : AV → HP → Res2) : cal D f xs h k = k v h' := by
  unfold cal calC; rw [e]; rfl
theorem calC_of {D : CallD} {f : Nat} {xs : List AV} {h h' : HP} {v : AV} (e : D f xs h .no = some (.ret v h', .no)) (k : AV → HP → Res2) (kp : Chain → HP → Res2) : calC D f xs h k kp = k v h' := by
  unfold calC; rw [e]; rfl
theorem br_t (x y : Res2) : br true x y = x := rfl
theorem br_f (x y : Res2) : br false x y = y := rfl
theorem br_tt {c : Bool} (h : c = true) (x y : Res2) : br c x y = x := by subst h; rfl
theorem br_ff {c : Bool} (h : c = false) (x y : Res2) : br c x y = y := by subst h; rfl
theorem asI_w (x : Int) (F : Int → Res2) : asI .u32 (AV.int .u32 x) F = F x := rfl
theorem asI_u (x : Int) (F : Int → Res2) : asI .u64 (AV.int .u64 x) F = F x := rfl
theorem asI_i (x : Int) (F : Int → Res2) : asI .i64 (AV.int .i64 x) F = F x := rfl
theorem asB_b (b : Bool) (F : Bool → Res2) : asB (AV.bool b) F = F b := rfl
theorem h28 (x : Nat) (h : HP) (k : AV → HP → Res2) : cal (SF tabS 19) 28 [uv x] h k = k (.flt .f64 x) h := by kernel_rfl
theorem sf_bits (x : Nat) (h : HP) : SF tabS 19 27 [.flt .f64 x] h .no = some (.ret (uv (canonN x)) h, .no) := by
  have e : SF tabS 19 27 [.flt .f64 x] h .no = (Bool.rec (some (.ret (uv x) h, .no)) (some (.ret (uv NANC) h, .no)) (neB x) : Res2) := by kernel_rfl
  rw [e]; unfold canonN; cases neB x <;> rfl
theorem find12 : tabS.run 12 = S12 := by kernel_rfl
theorem find35 : tabS.run 35 = S35 := by kernel_rfl
theorem find36 : tabS.run 36 = S36 := by kernel_rfl
theorem SF_20 (t : ST) (f : Nat) (xs : List AV) (h : HP) (u : AMode) : SF t 20 f xs h u = t.run f (SF t 19) 19 xs h u := rfl
theorem sf_canon (a : Nat) (h : HP) : SF tabS 20 12 [uv a] h .no = some (.ret (uv (canonN a)) h, .no) := by
  rw [SF_20, find12]
  show S12_0 (SF tabS 19) 19 (Int.ofNat a) h = _
  unfold S12_0
  rw [h28, cal_of (sf_bits a h), asI_u]
theorem bits_fltR (r : Option Nat) (h : HP) (k : AV → HP → Res2) : cal (SF tabS 19) 27 [fltR .f64 r] h k = k (uv (resN r)) h := by
  cases r with
  | none =>
    have e : SF tabS 19 27 [fltR .f64 none] h .no = some (.ret (uv NANC) h, .no) := by kernel_rfl
    exact cal_of e k
  | some x => exact cal_of (sf_bits x h) k
theorem bin_sub (a b : Nat) (k : AV → Res2) : binC .sub (.flt .f64 a) (.flt .f64 b) k = k (fltR .f64 (FloatKind.f64.format.sub a b)) := by kernel_rfl
theorem sf_sub (a b : Nat) (h : HP) : SF tabS 20 35 [iv 46, uv a, uv b] h .no = some (.ret (.tup [uv (subN a b), iv 0]) h, .no) := by
  rw [SF_20, find35]
  show S35_0 (SF tabS 19) 19 (Int.ofNat 46) (Int.ofNat a) (Int.ofNat b) h = _
  unfold S35_0
  rw [h28, h28]
  refine (br_ff (show eqQ (Int.ofNat 46) (Int.ofNat 45) = false by kernel_rfl) _ _).trans ?_
  refine (br_tt (show eqQ (Int.ofNat 46) (Int.ofNat 46) = true by kernel_rfl) _ _).trans ?_
  rw [bin_sub, bits_fltR, asI_u]
  rfl
def cpN (op a b : Nat) : Bool := Bool.rec (Bool.rec (leB a b) (ltB a b) (Nat.beq op 52)) (eqB a b) (Nat.beq op 51)
theorem bin_eql (a b : Nat) (k : AV → Res2) : binC .eql (.flt .f64 a) (.flt .f64 b) k = k (.bool (eqB a b)) := by kernel_rfl
theorem bin_lss (a b : Nat) (k : AV → Res2) : binC .lss (.flt .f64 a) (.flt .f64 b) k = k (.bool (ltB a b)) := by kernel_rfl
theorem bin_leq (a b : Nat) (k : AV → Res2) : binC .leq (.flt .f64 a) (.flt .f64 b) k = k (.bool (leB a b)) := by kernel_rfl
theorem s36_0 (D : CallD) (m : Nat) (c : Bool) (h : HP) : S36_0 D m c h = some (.ret (.tup [wv c.toNat, iv 0]) h, .no) := by cases c <;> rfl
theorem sf_cmp {op : Nat} (h1 : 51 ≤ op) (h2 : op ≤ 53) (a b : Nat) (h : HP) : SF tabS 20 36 [iv op, uv a, uv b] h .no = some (.ret (.tup [wv (cpN op a b).toNat, iv 0]) h, .no) := by
  rw [SF_20, find36]
  show S36_1 (SF tabS 19) 19 (Int.ofNat op) (Int.ofNat a) (Int.ofNat b) h = _
  unfold S36_1
  rw [h28, h28]
  rcases (show op = 51 ∨ op = 52 ∨ op = 53 by omega) with rfl | rfl | rfl
  · refine (br_tt (by kernel_rfl) _ _).trans ?_
    rw [bin_eql, asB_b, s36_0]; rfl
  · refine (br_ff (by kernel_rfl) _ _).trans ?_
    refine (br_tt (by kernel_rfl) _ _).trans ?_
    rw [bin_lss, asB_b, s36_0]; rfl
  · refine (br_ff (by kernel_rfl) _ _).trans ?_
    refine (br_ff (by kernel_rfl) _ _).trans ?_
    refine (br_tt (by kernel_rfl) _ _).trans ?_
    rw [bin_leq, asB_b, s36_0]; rfl
/- Functions with known answers. -/
def canonP (xs : List AV) (h : HP) : Option (AV × HP) := match xs with | [.int .u64 (.ofNat a)] => some (uv (canonN a), h) | _ => none
def cmpP (xs : List AV) (h : HP) : Option (AV × HP) := match xs with
  | [.int .i64 (.ofNat op), .int .u64 (.ofNat a), .int .u64 (.ofNat b)] => bif Nat.ble 51 op && Nat.ble op 53 then some (.tup [wv (cpN op a b).toNat, iv 0], h) else none
  | _ => none
def doP (xs : List AV) (h : HP) : Option (AV × HP) := match xs with
  | [.int .i64 (.ofNat op), .int .u64 (.ofNat a), .int .u64 (.ofNat b)] => bif Nat.beq op 46 then some (.tup [uv (subN a b), iv 0], h) else none
  | _ => none
def bW (b : Bool) : Nat := Bool.rec 0 1 b
def truP (xs : List AV) (h : HP) : Option (AV × HP) := match xs with | [.bool b] => some (.agg [iv 1, wv (bW b), uv 0, .str [], iv 0], h) | _ => none
theorem tru_ran (m : Int) (b : Bool) : gc [] (SF tabS 20 21 [.bool b] (gH m) .no) = some (.agg [iv 1, wv (bW b), uv 0, .str [], iv 0], []) := by cases b <;> kernel_rfl
mutual
theorem ren_no : ∀ (a : AV) {v : AV}, ren (kIx [] .h) a = some v → v = a
  | .ptr b o, v, e => by simp [ren, kIx] at e
  | .slice b o n k, v, e => by simp [ren, kIx] at e
  | .map b, v, e => by simp [ren, kIx] at e
  | .fn f a c, v, e => by
    simp only [ren] at e
    split at e
    · rename_i x y hx hy
      obtain rfl := Option.some.inj e
      rw [rens_no a hx, rens_no c hy]
    · simp at e
  | .iface t a, v, e => by
    simp only [ren] at e
    split at e
    · rename_i x hx
      obtain rfl := Option.some.inj e
      rw [ren_no a hx]
    · simp at e
  | .agg vs, v, e => by
    simp only [ren] at e
    split at e
    · rename_i x hx
      obtain rfl := Option.some.inj e
      rw [rens_no vs hx]
    · simp at e
  | .tup vs, v, e => by
    simp only [ren] at e
    split at e
    · rename_i x hx
      obtain rfl := Option.some.inj e
      rw [rens_no vs hx]
    · simp at e
  | .bool b, v, e => (Option.some.inj e).symm
  | .int k n, v, e => (Option.some.inj e).symm
  | .flt k n, v, e => (Option.some.inj e).symm
  | .nan k, v, e => (Option.some.inj e).symm
  | .str s, v, e => (Option.some.inj e).symm
  | .nilp, v, e => (Option.some.inj e).symm
  | .nils, v, e => (Option.some.inj e).symm
  | .nilm, v, e => (Option.some.inj e).symm
  | .nilf, v, e => (Option.some.inj e).symm
  | .nili, v, e => (Option.some.inj e).symm
theorem rens_no : ∀ (l : List AV) {v : List AV}, rens (kIx [] .h) l = some v → v = l
  | [], v, e => (Option.some.inj e).symm
  | a :: l, v, e => by
    simp only [rens] at e
    split at e
    · rename_i x y hx hy
      obtain rfl := Option.some.inj e
      rw [ren_no a hx, rens_no l hy]
    · simp at e
end
theorem ret_of_gc {r : Res2} {v : AV} (e : gc [] r = some (v, [])) : ∃ h2, r = some (.ret v h2, .no) := by
  unfold gc at e
  split at e
  · rename_i v0 h2
    split at e
    · rename_i x y hx hy
      have e := Option.some.inj e
      obtain rfl := (Prod.mk.inj e).1
      rw [ren_no v0 hx]
      exact ⟨h2, rfl⟩
    · simp at e
  · simp at e
def tabT : ST := .node 20 tabF (.node 21 (.pr 21 truP) (.node 35 (.pr 35 doP) (.node 36 (.pr 36 cmpP) tabF)))
/- The law's own function of two constants. -/
def opL (c : Nat) : List Nat := if c = 0 then [61, 61] else if c = 1 then [33, 61] else if c = 2 then [60] else if c = 3 then [62] else if c = 4 then [60, 61] else [62, 61]
def bV (c a b : Nat) : Bool := if c = 0 then eqB a b else if c = 1 then !eqB a b else if c = 2 then ltB a b else if c = 3 then ltB b a else if c = 4 then leB a b else leB b a
theorem bw1 (c : Bool) : bW ((Nat.beq c.toNat 1 == false) != true) = bW c := by cases c <;> rfl
theorem bw2 (c : Bool) : bW ((Nat.beq c.toNat 1 == true) != true) = bW (!c) := by cases c <;> rfl
theorem r13_0 (m : Int) (a b : Nat) : gc [] (SF tabT 900 13 [.str [61, 61], cX a, cX b] (gH m) .no) = some (wv (bW ((Nat.beq (cpN 51 a b).toNat 1 == false) != true)), []) := by kernel_rfl
theorem r13_1 (m : Int) (a b : Nat) : gc [] (SF tabT 900 13 [.str [33, 61], cX a, cX b] (gH m) .no) = some (wv (bW ((Nat.beq (cpN 51 a b).toNat 1 == true) != true)), []) := by kernel_rfl
theorem r13_2 (m : Int) (a b : Nat) : gc [] (SF tabT 900 13 [.str [60], cX a, cX b] (gH m) .no) = some (wv (bW ((Nat.beq (cpN 52 a b).toNat 1 == false) != true)), []) := by kernel_rfl
theorem r13_3 (m : Int) (a b : Nat) : gc [] (SF tabT 900 13 [.str [62], cX a, cX b] (gH m) .no) = some (wv (bW ((Nat.beq (cpN 52 b a).toNat 1 == false) != true)), []) := by kernel_rfl
theorem r13_4 (m : Int) (a b : Nat) : gc [] (SF tabT 900 13 [.str [60, 61], cX a, cX b] (gH m) .no) = some (wv (bW ((Nat.beq (cpN 53 a b).toNat 1 == false) != true)), []) := by kernel_rfl
theorem r13_5 (m : Int) (a b : Nat) : gc [] (SF tabT 900 13 [.str [62, 61], cX a, cX b] (gH m) .no) = some (wv (bW ((Nat.beq (cpN 53 b a).toNat 1 == false) != true)), []) := by kernel_rfl
theorem r7 (m : Int) (a b : Nat) : gc [] (SF tabT 900 7 [.str [45], cX a, cX b] (gH m) .no) = some (.tup [.agg [iv 2, wv 0, uv (subN a b), .str [], iv 0], iv 0], []) := by kernel_rfl
theorem run13 (m : Int) {c : Nat} (hc : c < 6) (a b : Nat) : ∃ h2, SF tabT 900 13 [.str (opL c), cX a, cX b] (gH m) .no = some (.ret (wv (bW (bV c a b))) h2, .no) := by
  rcases (show c = 0 ∨ c = 1 ∨ c = 2 ∨ c = 3 ∨ c = 4 ∨ c = 5 by omega) with rfl | rfl | rfl | rfl | rfl | rfl
  · have := r13_0 m a b; rw [bw1] at this; exact ret_of_gc this
  · have := r13_1 m a b; rw [bw2] at this; exact ret_of_gc this
  · have := r13_2 m a b; rw [bw1] at this; exact ret_of_gc this
  · have := r13_3 m a b; rw [bw1] at this; exact ret_of_gc this
  · have := r13_4 m a b; rw [bw1] at this; exact ret_of_gc this
  · have := r13_5 m a b; rw [bw1] at this; exact ret_of_gc this
def unX (p : AV) : Option Nat := match p with
  | .agg [.int .i64 (.ofNat t), .int .u32 (.ofNat w), .int .u64 (.ofNat a), .str [], .int .i64 (.ofNat z)] => bif Nat.beq t 2 && (Nat.beq w 0 && Nat.beq z 0) then some a else none
  | _ => none
theorem unX_some {p : AV} {a : Nat} (h : unX p = some a) : p = cX a := by
  unfold unX at h
  split at h
  · rename_i t w a' z
    obtain ⟨hc, h⟩ := bif_eq h
    rw [Bool.and_eq_true, Bool.and_eq_true] at hc
    obtain rfl := Nat.eq_of_beq_eq_true hc.1
    obtain rfl := Nat.eq_of_beq_eq_true hc.2.1
    obtain rfl := Nat.eq_of_beq_eq_true hc.2.2
    obtain rfl := Option.some.inj h
    rfl
  · simp at h
def cod (s : List Nat) : Option Nat := bif eqL s [61, 61] then some 0 else bif eqL s [33, 61] then some 1 else bif eqL s [60] then some 2 else bif eqL s [62] then some 3 else bif eqL s [60, 61] then some 4 else bif eqL s [62, 61] then some 5 else none
theorem cod_some {s : List Nat} {c : Nat} (h : cod s = some c) : c < 6 ∧ s = opL c := by
  unfold cod at h
  simp only [eqL_eq] at h
  by_cases h0 : s = [61, 61]
  · subst h0; simp at h; subst h; exact ⟨by decide, rfl⟩
  by_cases h1 : s = [33, 61]
  · subst h1; simp at h; subst h; exact ⟨by decide, rfl⟩
  by_cases h2 : s = [60]
  · subst h2; simp at h; subst h; exact ⟨by decide, rfl⟩
  by_cases h3 : s = [62]
  · subst h3; simp at h; subst h; exact ⟨by decide, rfl⟩
  by_cases h4 : s = [60, 61]
  · subst h4; simp at h; subst h; exact ⟨by decide, rfl⟩
  by_cases h5 : s = [62, 61]
  · subst h5; simp at h; subst h; exact ⟨by decide, rfl⟩
  simp [h0, h1, h2, h3, h4, h5] at h
def bitP (xs : List AV) (h : HP) : Option (AV × HP) := match xs with
  | [.str s, p, q] => match cod s, unX p, unX q with | some c, some a, some b => some (wv (bW (bV c a b)), h) | _, _, _ => none
  | _ => none
def minP (xs : List AV) (h : HP) : Option (AV × HP) := match xs with
  | [.str s, p, q] => match unX p, unX q with | some a, some b => bif eqL s [45] then some (.tup [.agg [iv 2, wv 0, uv (subN a b), .str [], iv 0], iv 0], h) else none | _, _ => none
  | _ => none
def tabB : ST := .node 6 tabA (.node 7 (.pr 7 minP) (.node 12 (.pr 12 canonP) (.node 13 (.pr 13 bitP) tabA)))
theorem okT (m : Int) (lf : Ev.Loc) : letI := rhoV m lf rfl; ST.Ok Tryz.prog tabT := by
  letI := rhoV m lf rfl
  have p21 : ∀ w0, PrOk Tryz.prog w0 21 truP := fun w0 => pr_ret (n := 20) (by kernel_rfl) okS ⟨_, Tryz.func21, by kernel_rfl, by decide +kernel⟩ (fun xs h r hr => by
    unfold truP at hr
    split at hr
    · obtain rfl := Option.some.inj hr
      exact ⟨rfl, rfl, rfl, ret_of_gc (tru_ran m _)⟩
    · simp at hr) w0
  have p35 : ∀ w0, PrOk Tryz.prog w0 35 doP := fun w0 => pr_of (n := 20) (by kernel_rfl) okS ⟨_, Tryz.func35, by kernel_rfl, by decide +kernel⟩ (fun xs h r hr => by
    unfold doP at hr
    split at hr
    · obtain ⟨hl, hr⟩ := bif_eq hr
      obtain rfl := Nat.eq_of_beq_eq_true hl
      obtain rfl := Option.some.inj hr; exact sf_sub _ _ _
    · simp at hr) w0
  have p36 : ∀ w0, PrOk Tryz.prog w0 36 cmpP := fun w0 => pr_of (n := 20) (by kernel_rfl) okS ⟨_, Tryz.func36, by kernel_rfl, by decide +kernel⟩ (fun xs h r hr => by
    unfold cmpP at hr
    split at hr
    · obtain ⟨hl, hr⟩ := bif_eq hr
      rw [Bool.and_eq_true] at hl
      obtain rfl := Option.some.inj hr; exact sf_cmp (Nat.le_of_ble_eq_true hl.1) (Nat.le_of_ble_eq_true hl.2) _ _ _
    · simp at hr) w0
  exact .node _ _ _ (okF m lf) (.node _ _ _ (.pr _ _ p21) (.node _ _ _ (.pr _ _ p35) (.node _ _ _ (.pr _ _ p36) (okF m lf))))
theorem okB (m : Int) (lf : Ev.Loc) : letI := rhoV m lf rfl; ST.Ok Tryz.prog tabB := by
  letI := rhoV m lf rfl
  have p12 : ∀ w0, PrOk Tryz.prog w0 12 canonP := fun w0 => pr_of (n := 20) (by kernel_rfl) okS ⟨_, Tryz.func12, by kernel_rfl, by decide +kernel⟩ (fun xs h r hr => by
    unfold canonP at hr
    split at hr
    · obtain rfl := Option.some.inj hr; exact sf_canon _ _
    · simp at hr) w0
  have p13 : ∀ w0, PrOk Tryz.prog w0 13 bitP := fun w0 => pr_ret (n := 900) (by kernel_rfl) (okT m lf) ⟨_, Tryz.func13, by kernel_rfl, by decide +kernel⟩ (fun xs h r hr => by
    unfold bitP at hr
    split at hr
    · rename_i s p q
      split at hr
      · rename_i c a b h1 h2 h3
        obtain ⟨hc, rfl⟩ := cod_some h1
        obtain rfl := unX_some h2
        obtain rfl := unX_some h3
        obtain rfl := Option.some.inj hr
        exact ⟨rfl, rfl, rfl, run13 m hc a b⟩
      · simp at hr
    · simp at hr) w0
  have p7 : ∀ w0, PrOk Tryz.prog w0 7 minP := fun w0 => pr_ret (n := 900) (by kernel_rfl) (okT m lf) ⟨_, Tryz.func7, by kernel_rfl, by decide +kernel⟩ (fun xs h r hr => by
    unfold minP at hr
    split at hr
    · rename_i s p q
      split at hr
      · rename_i a b h2 h3
        obtain ⟨hl, hr⟩ := bif_eq hr
        rw [eqL_eq, decide_eq_true_iff] at hl
        subst hl
        obtain rfl := unX_some h2
        obtain rfl := unX_some h3
        obtain rfl := Option.some.inj hr
        exact ⟨rfl, rfl, rfl, ret_of_gc (r7 m a b)⟩
      · simp at hr
    · simp at hr) w0
  exact .node _ _ _ (okA m lf) (.node _ _ _ (.pr _ _ p7) (.node _ _ _ (.pr _ _ p12) (.node _ _ _ (.pr _ _ p13) (okA m lf))))
end
end Go.Proofs.YtakcpnpeadkfpaaGreatDoor.Fg
