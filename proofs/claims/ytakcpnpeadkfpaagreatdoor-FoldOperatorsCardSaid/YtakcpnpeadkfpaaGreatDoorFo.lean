/- FoldOperators: operators of two words. -/
import Derived.Test.YtakcpnpeadkfpaaGreatDoorDr
import Derived.Test.YtakcpnpeadkfpaaGreatDoorWd
import Derived.Test.YtakcpnpeadkfpaaGreatDoorGu
set_option linter.unusedVariables false
set_option linter.unusedSimpArgs false
set_option linter.unusedSectionVars false
namespace Go.Proofs.YtakcpnpeadkfpaaGreatDoor.Lg
open Go Go.Proofs.YtakcpnpeadkfpaaGreatDoor.Ev Go.Proofs.YtakcpnpeadkfpaaGreatDoor.Sx
noncomputable section
mutual
theorem ren_no : ∀ (a : AV) {v : AV}, ren (kIx [] .h) a = some v → v = a
 | .ptr b o, v, e => by simp [ren, kIx] at e
 | .slice b o n k, v, e => by simp [ren, kIx] at e
 | .map b, v, e => by simp [ren, kIx] at e
 | .fn f a c, v, e => by
  simp only [ren] at e
  split at e
  ·rename_i x y hx hy
   obtain rfl := Option.some.inj e
   rw [rens_no a hx, rens_no c hy]
  ·simp at e
 | .iface t a, v, e => by
  simp only [ren] at e
  split at e
  ·rename_i x hx
   obtain rfl := Option.some.inj e
   rw [ren_no a hx]
  ·simp at e
 | .agg vs, v, e => by
  simp only [ren] at e
  split at e
  ·rename_i x hx
   obtain rfl := Option.some.inj e
   rw [rens_no vs hx]
  ·simp at e
 | .tup vs, v, e => by
  simp only [ren] at e
  split at e
  ·rename_i x hx
   obtain rfl := Option.some.inj e
   rw [rens_no vs hx]
  ·simp at e
 | .bool b, v, e => (Option.some.inj e).symm
 | .int k n, v, e => (Option.some.inj e).symm
 | .flt k n, v, e => (Option.some.inj e).symm
 | .nan k, v, e => (Option.some.inj e).symm
 | .str s, v, e => (Option.some.inj e).symm
 | .nilp, v, e => (Option.some.inj e).symm
 | .nils, v, e => (Option.some.inj e).symm
 | .nilm, v, e => (Option.some.inj e).symm
 | .nilf, v, e => (Option.some.inj e).symm
 | .nili, v, e => (Option.some.inj e).symm
theorem rens_no : ∀ (l : List AV) {v : List AV}, rens (kIx [] .h) l = some v → v = l
 | [], v, e => (Option.some.inj e).symm
 | a :: l, v, e => by
  simp only [rens] at e
  split at e
  ·rename_i x y hx hy
   obtain rfl := Option.some.inj e
   rw [ren_no a hx, rens_no l hy]
  ·simp at e
end
theorem ret_of_gc {r : Res2} {v : AV} (e : gc [] r = some (v, [])) : ∃ h2, r = some (.ret v h2, .no) := by
 unfold gc at e
 split at e
 ·rename_i v0 h2
  split at e
  ·rename_i x y hx hy
   have e := Option.some.inj e
   obtain rfl := (Prod.mk.inj e).1
   rw [ren_no v0 hx]
   exact ⟨h2, rfl⟩
  ·simp at e
 ·simp at e
def bW (b : Bool) : Nat := Bool.rec 0 1 b
theorem wr_bd (x : Int) : ∃ n, n ≤ 4294967295 ∧ wrapF .u32 x = Int.ofNat n := by
 letI := rhoV 0 ⟨0, 0, 0⟩ rfl
 rw [wu32]
 refine ⟨(x % 4294967296).toNat, by omega, ?_⟩
 show _ = (((x % 4294967296).toNat : Nat) : Int); omega
def opsL : List Nat := [1, 2, 3, 6, 8, 9, 10, 11, 14, 16]
theorem do_bd (k a b : Nat) (hk : k ∈ opsL) (ha : a < 4294967296) (hb : b < 4294967296) : ∃ n, n ≤ 4294967295 ∧ doW k a b = Int.ofNat n := by
 letI := rhoV 0 ⟨0, 0, 0⟩ rfl
 simp only [opsL, List.mem_cons, List.not_mem_nil, or_false] at hk
 rcases hk with rfl | rfl | rfl | rfl | rfl | rfl | rfl | rfl | rfl | rfl
 ·rw [← c1 ha hb, wrQ_eq]; exact wr_bd _
 ·rw [← c2 ha hb, wrQ_eq]; exact wr_bd _
 ·rw [← c3 ha, ← wrapF_eq]; exact wr_bd _
 ·rw [← cb 1 6 (by omega) ha hb]; exact wr_bd _
 ·rw [← c8 ha]; exact wr_bd _
 ·rw [← cb 2 9 (by omega) ha hb]; exact wr_bd _
 ·rw [← cb 3 10 (by omega) ha hb]; exact wr_bd _
 ·rw [← c11 ha hb]; exact wr_bd _
 ·by_cases h0 : b = 0
  ·subst h0; exact ⟨4294967295, by omega, (c0 a).1⟩
  ·rw [← c14 ha hb h0]; exact wr_bd _
 ·by_cases h0 : b = 0
  ·subst h0; exact ⟨a, by omega, (c0 a).2⟩
  ·rw [← c16 ha hb h0]; exact wr_bd _
def dwN (k a b : Nat) : Nat := (doW k a b).toNat
theorem dw_is {k a b : Nat} (hk : k ∈ opsL) (ha : a < 4294967296) (hb : b < 4294967296) : doW k a b = Int.ofNat (dwN k a b) := by
 obtain ⟨n, _, e⟩ := do_bd k a b hk ha hb
 unfold dwN; rw [e]; rfl
def memO (k : Nat) : Bool := Nat.beq k 1 || (Nat.beq k 2 || (Nat.beq k 3 || (Nat.beq k 6 || (Nat.beq k 8 || (Nat.beq k 9 || (Nat.beq k 10 || (Nat.beq k 11 || (Nat.beq k 14 || Nat.beq k 16))))))))
theorem memO_mem {k : Nat} (h : memO k = true) : k ∈ opsL := by
 unfold memO at h
 simp only [Bool.or_eq_true, Nat.beq_eq] at h
 unfold opsL
 simp only [List.mem_cons, List.not_mem_nil, or_false]
 exact h
def sgW (a : Nat) : Int := sgn (Int.ofNat a)
theorem sg_prog {a : Nat} (ha : a < 4294967296) : wrapF .i64 (wrapF .i32 (Int.ofNat a)) = sgW a := by
 letI := rhoV 0 ⟨0, 0, 0⟩ rfl
 unfold sgW
 have h := sgn_eq a ha
 rw [← sgn_i32 a ha, wi64]
 ·rw [h]; split <;> omega
 ·rw [h]; split <;> omega
theorem sg_zero {a : Nat} (ha : a < 4294967296) : notQ (eqQ (sgW a) (Int.ofNat 0)) = !decide (a = 0) := by
 letI := rhoV 0 ⟨0, 0, 0⟩ rfl
 unfold sgW
 have h := sgn_eq a ha
 rw [not_dec, eq_dec, h]
 congr 1
 refine decide_eq_decide.2 ?_
 show (_ : Int) = 0 ↔ _
 split <;> omega
theorem pr_of32 [Rho] {P : Program} {t : ST} (hP : P.follows .mixedOrders = true) (ht : ST.Ok P t) {n k : Nat} {p : List AV → HP → Option (AV × HP)} (hc : Callable P k) (hp : ∀ xs h r, (∀ n : Nat, AV.int .u32 (.ofNat n) ∈ xs → n ≤ 4294967295) → p xs h = some r → SF t n k xs h .no = some (.ret r.1 r.2, .no)) (w0 : World) : PrOk P w0 k p :=
 ⟨hc, fun xs v φ h w vs hv r hvs => calls_ok hP (ST.xok w0 ht) (ST.tab_ok ht) (SF_ok ht n _ _ _ _ _ (hp xs h v hvs.le32 hv)) r hvs⟩
/- Functions with known answers. -/
def wdP (xs : List AV) (h : HP) : Option (AV × HP) := match xs with
 | [.int .i64 (.ofNat op), .int .u32 (.ofNat a), .int .u32 (.ofNat b)] => bif memO op then some (.tup [wv (dwN op a b), iv 0], h) else none
 | _ => none
def rdP (xs : List AV) (h : HP) : Option (AV × HP) := match xs with
 | [.int .i64 (.ofNat op), .int .u32 (.ofNat a), .int .u32 (.ofNat b)] => bif memO op then some (.tup [wv (dwN op a b), vB (doB op a b)], h) else none
 | _ => none
def sgP (xs : List AV) (h : HP) : Option (AV × HP) := match xs with | [.int .u32 (.ofNat a)] => some (vI (sgW a), h) | _ => none
def truP (xs : List AV) (h : HP) : Option (AV × HP) := match xs with | [.bool b] => some (.agg [iv 1, wv (bW b), uv 0, .str [], iv 0], h) | _ => none
theorem tru_ran (m : Int) (b : Bool) : gc [] (SF tabS 20 21 [.bool b] (gH m) .no) = some (.agg [iv 1, wv (bW b), uv 0, .str [], iv 0], []) := by cases b <;> kernel_rfl
theorem tru2_ran (m : Int) (b : Bool) : gc [] (SF tabS 20 24 [.bool b] (gH m) .no) = some (.agg [iv 1, wv (bW b), uv 0, .str [], iv 0], []) := by cases b <;> kernel_rfl
theorem sf_sgP {a : Nat} (ha : a < 4294967296) (h : HP) : SF tabS 20 34 [.int .u32 (.ofNat a)] h .no = some (.ret (vI (sgW a)) h, .no) := by
 have e : SF tabS 20 34 [.int .u32 (.ofNat a)] h .no = obI .i32 (convV (.ii .i32) (vW (Int.ofNat a))) fun t4 => some (.ret (vI (wrapF .i64 t4)) h, .no) := by kernel_rfl
 have e2 : ∀ F : Int → Res2, obI .i32 (convV (.ii .i32) (vW (Int.ofNat a))) F = F (wrapF .i32 (Int.ofNat a)) := fun F => by kernel_rfl
 rw [e, e2, sg_prog ha]
theorem sf_sgR {a : Nat} (ha : a < 4294967296) (h : HP) : SF tabS 20 37 [.int .u32 (.ofNat a)] h .no = some (.ret (vI (sgW a)) h, .no) := by
 letI := rhoV 0 ⟨0, 0, 0⟩ rfl
 have e : SF tabS 20 37 [.int .u32 (.ofNat a)] h .no = S37 (SF tabS 19) 19 [vW (Int.ofNat a)] h .no := by kernel_rfl
 rw [e]
 exact sg_ok _ _ _ (tk_nat a) h
def opn (s : List Nat) : Nat := if s = [43] then 1 else if s = [45] then 2 else if s = [42] then 11 else if s = [47] then 14 else if s = [37] then 16 else if s = [60, 60] then 3 else if s = [62, 62] then 8 else if s = [38] then 10 else if s = [94] then 6 else if s = [124] then 9 else 0
def hpOf (r : Res2) : HP := match r with | some (.ret _ h, _) => h | _ => ⟨.h, .leaf⟩
theorem fm (s k : LN) (v : AV) (es : List (AV × AV)) : findM .str (vS s) ((vS k, v) :: es) = if s = k then some (some v) else findM .str (vS s) es := by
 show (ob (some (eqL s k)) fun b => bif b then some (some v) else findM .str (vS s) es) = _
 rw [eqL_eq]
 by_cases h : s = k
 ·rw [if_pos h, decide_eq_true h]; rfl
 ·rw [if_neg h, decide_eq_false h]; rfl
theorem find_ops (s : LN) : (ob (findM .str (vS s) [(vS ([43] : LN), kI 1), (vS ([45] : LN), kI 2), (vS ([42] : LN), kI 11), (vS ([47] : LN), kI 14), (vS ([37] : LN), kI 16), (vS ([60, 60] : LN), kI 3), (vS ([62, 62] : LN), kI 8), (vS ([38] : LN), kI 10), (vS ([94] : LN), kI 6), (vS ([124] : LN), kI 9)]) fun r => some (lookR false (kI 0) r)) = some (iv (opn s)) := by
 unfold opn
 rw [fm]
 by_cases h0 : s = [43]
 ·rw [if_pos h0, if_pos h0]; rfl
 rw [if_neg h0, if_neg h0]
 rw [fm]
 by_cases h1 : s = [45]
 ·rw [if_pos h1, if_pos h1]; rfl
 rw [if_neg h1, if_neg h1]
 rw [fm]
 by_cases h2 : s = [42]
 ·rw [if_pos h2, if_pos h2]; rfl
 rw [if_neg h2, if_neg h2]
 rw [fm]
 by_cases h3 : s = [47]
 ·rw [if_pos h3, if_pos h3]; rfl
 rw [if_neg h3, if_neg h3]
 rw [fm]
 by_cases h4 : s = [37]
 ·rw [if_pos h4, if_pos h4]; rfl
 rw [if_neg h4, if_neg h4]
 rw [fm]
 by_cases h5 : s = [60, 60]
 ·rw [if_pos h5, if_pos h5]; rfl
 rw [if_neg h5, if_neg h5]
 rw [fm]
 by_cases h6 : s = [62, 62]
 ·rw [if_pos h6, if_pos h6]; rfl
 rw [if_neg h6, if_neg h6]
 rw [fm]
 by_cases h7 : s = [38]
 ·rw [if_pos h7, if_pos h7]; rfl
 rw [if_neg h7, if_neg h7]
 rw [fm]
 by_cases h8 : s = [94]
 ·rw [if_pos h8, if_pos h8]; rfl
 rw [if_neg h8, if_neg h8]
 rw [fm]
 by_cases h9 : s = [124]
 ·rw [if_pos h9, if_pos h9]; rfl
 rw [if_neg h9, if_neg h9]
 rfl
theorem s33 (m : Int) (s : LN) : ∃ h2, SF tabS 20 33 [.str s] (gH m) .no = some (.ret (iv (opn s)) h2, .no) := by
 have e : SF tabS 20 33 [.str s] (gH m) .no = obI .i64 (ob (findM .str (vS s) [(vS ([43] : LN), kI 1), (vS ([45] : LN), kI 2), (vS ([42] : LN), kI 11), (vS ([47] : LN), kI 14), (vS ([37] : LN), kI 16), (vS ([60, 60] : LN), kI 3), (vS ([62, 62] : LN), kI 8), (vS ([38] : LN), kI 10), (vS ([94] : LN), kI 6), (vS ([124] : LN), kI 9)]) fun r => some (lookR false (kI 0) r)) fun t6 => some (.ret (vI t6) (hpOf (SF tabS 20 33 [.str [43]] (gH m) .no)), .no) := by kernel_rfl
 rw [e, find_ops]
 exact ⟨_, rfl⟩
def opsP (xs : List AV) (h : HP) : Option (AV × HP) := match xs with | [.str s] => some (iv (opn s), h) | _ => none
def tabW : ST := .node 10 tabS (.node 11 (.pr 11 wdP) (.node 20 tabS (.node 21 (.pr 21 truP) (.node 23 tabS (.node 24 (.pr 24 truP) (.node 32 tabS (.node 33 (.pr 33 opsP) (.node 34 (.pr 34 sgP) (.node 36 tabS (.node 37 (.pr 37 sgP) (.node 42 tabS (.node 43 (.pr 43 rdP) tabS))))))))))))
theorem okW (m : Int) (lf : Ev.Loc) : letI := rhoV m lf rfl; ST.Ok Tryz.prog tabW := by
 letI := rhoV m lf rfl
 have p11 : ∀ w0, PrOk Tryz.prog w0 11 wdP := fun w0 => pr_of32 (n := 60) (by kernel_rfl) okS ⟨_, Tryz.func11, by kernel_rfl, by decide +kernel⟩ (fun xs h r hle hr => by
  unfold wdP at hr
  split at hr
  ·rename_i op a b
   obtain ⟨hl, hr⟩ := bif_eq hr
   have h1 := hle a (by simp)
   have h2 := hle b (by simp)
   obtain rfl := Option.some.inj hr
   have := wd_ok op a b (memO_mem hl) (by omega) (by omega) h
   rw [dw_is (memO_mem hl) (by omega) (by omega)] at this
   exact this
  ·simp at hr) w0
 have p43 : ∀ w0, PrOk Tryz.prog w0 43 rdP := fun w0 => pr_of32 (n := 60) (by kernel_rfl) okS ⟨_, Tryz.func43, by kernel_rfl, by decide +kernel⟩ (fun xs h r hle hr => by
  unfold rdP at hr
  split at hr
  ·rename_i op a b
   obtain ⟨hl, hr⟩ := bif_eq hr
   have h1 := hle a (by simp)
   have h2 := hle b (by simp)
   obtain rfl := Option.some.inj hr
   have : SF tabS 60 43 [vI (Int.ofNat op), vW (Int.ofNat a), vW (Int.ofNat b)] h .no = some (.ret (.tup [vW (doW op a b), vB (doB op a b)]) h, .no) := do_pr _ _ h rfl
   rw [dw_is (memO_mem hl) (by omega) (by omega)] at this
   exact this
  ·simp at hr) w0
 have p34 : ∀ w0, PrOk Tryz.prog w0 34 sgP := fun w0 => pr_of32 (n := 20) (by kernel_rfl) okS ⟨_, Tryz.func34, by kernel_rfl, by decide +kernel⟩ (fun xs h r hle hr => by
  unfold sgP at hr
  split at hr
  ·rename_i a
   have h1 := hle a (by simp)
   obtain rfl := Option.some.inj hr
   exact sf_sgP (by omega) h
  ·simp at hr) w0
 have p37 : ∀ w0, PrOk Tryz.prog w0 37 sgP := fun w0 => pr_of32 (n := 20) (by kernel_rfl) okS ⟨_, Tryz.func37, by kernel_rfl, by decide +kernel⟩ (fun xs h r hle hr => by
  unfold sgP at hr
  split at hr
  ·rename_i a
   have h1 := hle a (by simp)
   obtain rfl := Option.some.inj hr
   exact sf_sgR (by omega) h
  ·simp at hr) w0
 have p21 : ∀ w0, PrOk Tryz.prog w0 21 truP := fun w0 => pr_ret (n := 20) (by kernel_rfl) okS ⟨_, Tryz.func21, by kernel_rfl, by decide +kernel⟩ (fun xs h r hr => by
  unfold truP at hr
  split at hr
  ·obtain rfl := Option.some.inj hr
   exact ⟨rfl, rfl, rfl, ret_of_gc (tru_ran m _)⟩
  ·simp at hr) w0
 have p24 : ∀ w0, PrOk Tryz.prog w0 24 truP := fun w0 => pr_ret (n := 20) (by kernel_rfl) okS ⟨_, Tryz.func24, by kernel_rfl, by decide +kernel⟩ (fun xs h r hr => by
  unfold truP at hr
  split at hr
  ·obtain rfl := Option.some.inj hr
   exact ⟨rfl, rfl, rfl, ret_of_gc (tru2_ran m _)⟩
  ·simp at hr) w0
 have p33 : ∀ w0, PrOk Tryz.prog w0 33 opsP := fun w0 => pr_ret (n := 20) (by kernel_rfl) okS ⟨_, Tryz.func33, by kernel_rfl, by decide +kernel⟩ (fun xs h r hr => by
  unfold opsP at hr
  split at hr
  ·obtain rfl := Option.some.inj hr
   exact ⟨rfl, rfl, rfl, s33 m _⟩
  ·simp at hr) w0
 exact .node _ _ _ okS (.node _ _ _ (.pr _ _ p11) (.node _ _ _ okS (.node _ _ _ (.pr _ _ p21) (.node _ _ _ okS (.node _ _ _ (.pr _ _ p24) (.node _ _ _ okS (.node _ _ _ (.pr _ _ p33) (.node _ _ _ (.pr _ _ p34) (.node _ _ _ okS (.node _ _ _ (.pr _ _ p37) (.node _ _ _ okS (.node _ _ _ (.pr _ _ p43) okS))))))))))))
/- The operators of two words. -/
def wK (s : List Nat) : Bool := if s = [43] then true else if s = [45] then true else if s = [42] then true else if s = [47] then true else if s = [37] then true else if s = [60, 60] then true else if s = [62, 62] then true else if s = [38] then true else if s = [94] then true else if s = [124] then true else if s = [61, 61] then true else if s = [33, 61] then true else if s = [60] then true else if s = [60, 61] then true else if s = [62] then true else if s = [62, 61] then true else if s = [38, 38] then true else if s = [124, 124] then true else false
def wV (s : List Nat) (a b : Nat) : Nat := if s = [43] then dwN 1 a b else if s = [45] then dwN 2 a b else if s = [42] then dwN 11 a b else if s = [47] then dwN 14 a b else if s = [37] then dwN 16 a b else if s = [60, 60] then dwN 3 a b else if s = [62, 62] then dwN 8 a b else if s = [38] then dwN 10 a b else if s = [94] then dwN 6 a b else if s = [124] then dwN 9 a b else if s = [61, 61] then bW (eqQ (sgW a) (sgW b)) else if s = [33, 61] then bW (notQ (eqQ (sgW a) (sgW b))) else if s = [60] then bW (ltQ (sgW a) (sgW b)) else if s = [60, 61] then bW (leQ (sgW a) (sgW b)) else if s = [62] then bW (ltQ (sgW b) (sgW a)) else if s = [62, 61] then bW (leQ (sgW b) (sgW a)) else if s = [38, 38] then bW ((notQ (eqQ (sgW a) (Int.ofNat 0)) && notQ (eqQ (sgW b) (Int.ofNat 0)))) else if s = [124, 124] then bW ((notQ (eqQ (sgW a) (Int.ofNat 0)) || notQ (eqQ (sgW b) (Int.ofNat 0)))) else 0
abbrev cW (s : List Nat) (a b : Nat) : AV := .agg [iv (bW (wK s)), wv (wV s a b), uv 0, .str [], iv 0]
def wE (s : List Nat) : Nat := Bool.rec 15 0 (wK s)
end
end Go.Proofs.YtakcpnpeadkfpaaGreatDoor.Lg
