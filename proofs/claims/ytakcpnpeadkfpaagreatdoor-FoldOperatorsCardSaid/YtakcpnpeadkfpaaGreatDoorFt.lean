/- FoldOperators: the law's printed function. -/
import Derived.Test.YtakcpnpeadkfpaaGreatDoorFs
set_option linter.unusedVariables false
set_option linter.unusedSimpArgs false
set_option linter.unusedSectionVars false
namespace Go.Proofs.YtakcpnpeadkfpaaGreatDoor.Lg
open Go Go.Proofs.YtakcpnpeadkfpaaGreatDoor.Ev Go.Proofs.YtakcpnpeadkfpaaGreatDoor.Sx
noncomputable section
def eB (b : Bool) : Nat := Bool.rec 15 0 b
theorem cc {n : Nat} {t : AV} {h : HP} {v : AV} (e : cellsV n t h = some v) (k : AV → Res2) : cellsC n t h k = k v := by rw [cellsC_eq, e]; rfl
theorem ccV {n : Nat} {t : AV} {h : HP} {v : AV} (e : cellsV n t h = some v) (k : AV → Option AV) : cellsCV n t h k = k v := by rw [cellsCV_eq, e]; rfl
abbrev Kc (t w b : Nat) : AV := .agg [iv t, wv w, uv b, .str [], iv 0]
theorem eqs_same (t w b : Nat) : evP (.eqs 5 [(0, .int), (1, .int), (2, .int), (3, .str), (4, .int)] false (.c (Kc t w b)) (.c (Kc t w b))) .leaf = some (.bool true) := by
  have e : evP (.eqs 5 [(0, .int), (1, .int), (2, .int), (3, .str), (4, .int)] false (.c (Kc t w b)) (.c (Kc t w b))) .leaf = ob (bif Nat.beq t t then (bif Nat.beq w w then (bif Nat.beq b b then some true else some false) else some false) else some false) fun c => some (AV.bool (c != false)) := by kernel_rfl
  rw [e, show Nat.beq t t = true by rw [Nat.beq_eq], show Nat.beq w w = true by rw [Nat.beq_eq], show Nat.beq b b = true by rw [Nat.beq_eq]]
  rfl
theorem obB_some' {X : Option AV} {c : Bool} (e : X = some (.bool c)) (F : Bool → Res2) : obB X F = F c := by subst e; rfl
theorem obBV_some' {X : Option AV} {c : Bool} (e : X = some (.bool c)) (F : Bool → Option AV) : obBV X F = F c := by subst e; rfl
theorem brV_tt {X Y : Option AV} {c : Bool} (e : X = some (.bool c)) (F : Bool → Res2) : obB (brV true X Y) F = F c := by subst e; rfl
theorem ext0 (x : AV) (l : List AV) (F : AV → Res2) : extC (.tup (x :: l)) 0 F = F x := rfl
theorem ext1 (x y : AV) (l : List AV) (F : AV → Res2) : extC (.tup (x :: y :: l)) 1 F = F y := rfl
abbrev Z5 : List AV := [(kI 0), (.int .u32 (.ofNat 0)), (.int .u64 (.ofNat 0)), (.str []), (kI 0)]
abbrev Lc (t w b : Nat) : List AV := [iv t, wv w, uv b, .str [], iv 0]
abbrev LA (t : Int) (w b : Nat) (n : LN) (o : Int) : List AV := [vI t, wv w, uv b, .str n, vI o]
section
variable {D : CallD} (hA : ∀ h k, cal D 6 [] h k = k (.bool true) h) (n : Nat) (m : Int) (s : LN) (t1 t2 : Int) (w1 w2 b1 b2 : Nat) (n1 n2 : LN) (o1 o2 : Int) (kt kw kb jt jw jb : Nat) (ok is : Bool)
  (c7 : ∀ h k, cal D 7 [.str s, cA t1 w1 b1 n1 o1, cA t2 w2 b2 n2 o2] h k = k (.tup [Kc kt kw kb, iv (eB ok)]) h)
  (c8 : ∀ h k, cal D 8 [.str s, cA t1 w1 b1 n1 o1, cA t2 w2 b2 n2 o2] h k = k (.tup [Kc kt kw kb, vB ok]) h)
  (c9 : ∀ h k, cal D 9 [.str s, cA t1 w1 b1 n1 o1] h k = k (.tup [Kc jt jw jb, iv (eB is)]) h)
  (c10 : ∀ h k, cal D 10 [.str s, cA t1 w1 b1 n1 o1] h k = k (.tup [Kc jt jw jb, vB is]) h)
 include hA c7 c8 c9 c10 in
theorem law3 : ∃ h2, S3_0 D n s (cA t1 w1 b1 n1 o1) (cA t2 w2 b2 n2 o2) (gH m) = some (.ret (.bool true) h2, .no) := by
  unfold S3_0
  refine ex_tr (hA _ _) ?_
  refine ex_tr (asB_b _ _) ?_
  refine ex_tr (or_B _ _ _) ?_
  cases hl : ltQ (Int.ofNat 20) (Int.ofNat (lenL s)) with
  | true =>
    refine ex_tr (br_tt (by rfl) _ _) ?_
    refine ex_tr (hA _ _) ?_
    refine ex_tr (asB_b _ _) ?_
    exact ⟨_, rfl⟩
  | false =>
    refine ex_tr (br_ff (by rfl) _ _) ?_
    refine ex_tr (cc (v := cA t1 w1 b1 n1 o1) (by kernel_rfl) _) ?_
    refine ex_tr (cc (v := cA t2 w2 b2 n2 o2) (by kernel_rfl) _) ?_
    refine ex_tr (c7 _ _) ?_
    refine ex_tr (ext0 _ _ _) ?_
    refine ex_tr (ext1 _ _ _ _) ?_
    refine ex_tr (asI_iv _ _) ?_
    have st : ∀ (H : HP) (t w b : Nat) (k : HP → Res2), (∀ k, stsC 5 (AV.ptr (HP.nxQ H) 0) (Kc t w b) (HP.newQ H (.cells true Z5)) k = k (HP.newQ H (.cells true (Lc t w b)))) → stsC 5 (AV.ptr (HP.nxQ H) 0) (Kc t w b) (HP.newQ H (.cells true Z5)) k = k (HP.newQ H (.cells true (Lc t w b))) := fun H t w b k e => e k
    refine ex_tr (st _ _ _ _ _ (fun k => by kernel_rfl)) ?_
    refine ex_tr (cc (v := cA t1 w1 b1 n1 o1) (by kernel_rfl) _) ?_
    refine ex_tr (cc (v := cA t2 w2 b2 n2 o2) (by kernel_rfl) _) ?_
    refine ex_tr (c8 _ _) ?_
    refine ex_tr (ext0 _ _ _) ?_
    refine ex_tr (ext1 _ _ _ _) ?_
    refine ex_tr (asB_b _ _) ?_
    refine ex_tr (st _ _ _ _ _ (fun k => by kernel_rfl)) ?_
    refine ex_tr (cc (v := cA t1 w1 b1 n1 o1) (by kernel_rfl) _) ?_
    refine ex_tr (c9 _ _) ?_
    refine ex_tr (ext0 _ _ _) ?_
    refine ex_tr (ext1 _ _ _ _) ?_
    refine ex_tr (asI_iv _ _) ?_
    refine ex_tr (st _ _ _ _ _ (fun k => by kernel_rfl)) ?_
    refine ex_tr (cc (v := cA t1 w1 b1 n1 o1) (by kernel_rfl) _) ?_
    refine ex_tr (c10 _ _) ?_
    refine ex_tr (ext0 _ _ _) ?_
    refine ex_tr (ext1 _ _ _ _) ?_
    refine ex_tr (asB_b _ _) ?_
    refine ex_tr (st _ _ _ _ _ (fun k => by kernel_rfl)) ?_
    refine ex_tr (cc (v := Kc kt kw kb) (by kernel_rfl) _) ?_
    refine ex_tr (cc (v := Kc kt kw kb) (by kernel_rfl) _) ?_
    refine ex_tr (obB_some' (eqs_same kt kw kb) _) ?_
    refine ex_tr (brV_tt (c := true) (by cases ok <;> kernel_rfl) _) ?_
    refine ex_tr (brV_tt (c := true) ((ccV (v := Kc jt jw jb) (by kernel_rfl) _).trans ((ccV (v := Kc jt jw jb) (by kernel_rfl) _).trans (obBV_some' (eqs_same jt jw jb) _))) _) ?_
    cases ok <;> cases is <;> exact ⟨_, rfl⟩
end
def b7 (s : LN) (t1 : Int) (w1 b1 : Nat) (t2 : Int) (w2 b2 : Nat) : AV := if t1 = 1 ∧ t2 = 1 then .tup [cW s w1 w2, iv (wE s)] else if t1 = 2 ∧ t2 = 2 then .tup [cR s b1 b2, iv (rE s)] else .tup [zC, iv 15]
def b8 (s : LN) (t1 : Int) (w1 b1 : Nat) (t2 : Int) (w2 b2 : Nat) : AV := if t1 = 1 ∧ t2 = 1 then .tup [cW s w1 w2, vB (wK s)] else if t1 = 2 ∧ t2 = 2 then .tup [cR s b1 b2, vB (rK s)] else .tup [zC, vB false]
def u9 (s : LN) (t : Int) (w b : Nat) : AV := if s = [45] ∧ t = 2 then .tup [Kc 2 0 (ngN b), iv 0] else if s = [45] ∧ t = 1 then .tup [cW [45] 0 w, iv (wE [45])] else if s = [33] ∧ t = 1 then .tup [Kc 1 (bW (Nat.beq w 0)) 0, iv 0] else if s = [126] ∧ t = 1 then .tup [cW [94] w 4294967295, iv (wE [94])] else .tup [zC, iv 15]
def u10 (s : LN) (t : Int) (w b : Nat) : AV := if s = [45] ∧ t = 2 then .tup [Kc 2 0 (ngN b), vB true] else if s = [45] ∧ t = 1 then .tup [Kc 1 (dwN 2 0 w) 0, vB true] else if s = [33] ∧ t = 1 then .tup [Kc 1 (bW (Nat.beq w 0)) 0, vB true] else if s = [126] ∧ t = 1 then .tup [.agg [iv 1, vW (wrapF .u32 (Int.ofNat 4294967295 - Int.ofNat w)), uv 0, .str [], iv 0], vB true] else .tup [zC, vB false]
theorem bin_ex (s : LN) (t1 : Int) (w1 b1 : Nat) (t2 : Int) (w2 b2 : Nat) : ∃ kt kw kb ok, b7 s t1 w1 b1 t2 w2 b2 = .tup [Kc kt kw kb, iv (eB ok)] ∧ b8 s t1 w1 b1 t2 w2 b2 = .tup [Kc kt kw kb, vB ok] := by
  unfold b7 b8
  by_cases h1 : t1 = 1 ∧ t2 = 1
  · rw [if_pos h1, if_pos h1]; exact ⟨_, _, _, wK s, rfl, rfl⟩
  · rw [if_neg h1, if_neg h1]
    by_cases h2 : t1 = 2 ∧ t2 = 2
    · rw [if_pos h2, if_pos h2]; exact ⟨_, _, _, rK s, rfl, rfl⟩
    · rw [if_neg h2, if_neg h2]; exact ⟨_, _, _, false, rfl, rfl⟩
theorem xor_all {w : Nat} (hw : w < 4294967296) : w ^^^ 4294967295 = 4294967295 - w := by
  have h1 : (BitVec.ofNat 32 w ^^^ BitVec.allOnes 32).toNat = (~~~ BitVec.ofNat 32 w).toNat := by rw [BitVec.xor_allOnes]
  rw [BitVec.toNat_xor, BitVec.toNat_not, BitVec.toNat_allOnes, BitVec.toNat_ofNat, Nat.mod_eq_of_lt hw] at h1
  have e : (2 ^ 32 - 1 : Nat) = 4294967295 := by decide
  rw [e] at h1
  omega
theorem tilde {w : Nat} (hw : w < 4294967296) : dwN 6 w 4294967295 = 4294967295 - w ∧ wrapF .u32 (Int.ofNat 4294967295 - Int.ofNat w) = Int.ofNat (4294967295 - w) := by
  letI := rhoV 0 ⟨0, 0, 0⟩ rfl
  have wn : ∀ k : Nat, k ≤ 4294967295 → wrapF .u32 (Int.ofNat k) = Int.ofNat k := fun k hk => by
    show (bif Nat.ble k 4294967295 then Int.ofNat k else _) = _
    rw [show Nat.ble k 4294967295 = true from by rw [Nat.ble_eq]; exact hk]; rfl
  constructor
  · unfold dwN
    rw [← cb 1 6 (by omega) hw (by decide)]
    have : opN 1 w 4294967295 = 4294967295 - w := xor_all hw
    rw [this, wn _ (by omega)]
    rfl
  · rw [sub_nat (by omega), wn _ (by omega)]
theorem un_ex (s : LN) (t : Int) {w : Nat} (hw : w < 4294967296) (b : Nat) : ∃ jt jw jb is, u9 s t w b = .tup [Kc jt jw jb, iv (eB is)] ∧ u10 s t w b = .tup [Kc jt jw jb, vB is] := by
  unfold u9 u10
  by_cases h1 : s = [45] ∧ t = 2
  · rw [if_pos h1, if_pos h1]; exact ⟨_, _, _, true, rfl, rfl⟩
  · rw [if_neg h1, if_neg h1]
    by_cases h2 : s = [45] ∧ t = 1
    · rw [if_pos h2, if_pos h2]
      have e : (AV.tup [cW [45] 0 w, iv (wE [45])]) = .tup [Kc 1 (dwN 2 0 w) 0, iv (eB true)] := by kernel_rfl
      exact ⟨_, _, _, true, e, rfl⟩
    · rw [if_neg h2, if_neg h2]
      by_cases h3 : s = [33] ∧ t = 1
      · rw [if_pos h3, if_pos h3]; exact ⟨_, _, _, true, rfl, rfl⟩
      · rw [if_neg h3, if_neg h3]
        by_cases h4 : s = [126] ∧ t = 1
        · rw [if_pos h4, if_pos h4]
          have e : (AV.tup [cW [94] w 4294967295, iv (wE [94])]) = .tup [Kc 1 (dwN 6 w 4294967295) 0, iv (eB true)] := by kernel_rfl
          obtain ⟨x1, x2⟩ := tilde hw
          rw [e, x1, x2]
          exact ⟨_, _, _, true, rfl, rfl⟩
        · rw [if_neg h4, if_neg h4]; exact ⟨_, _, _, false, rfl, rfl⟩
def bnP (F : LN → Int → Nat → Nat → Int → Nat → Nat → AV) (xs : List AV) (h : HP) : Option (AV × HP) := match xs with
  | [.str s, .agg [.int .i64 t1, .int .u32 (.ofNat w1), .int .u64 (.ofNat b1), .str n1, .int .i64 o1], .agg [.int .i64 t2, .int .u32 (.ofNat w2), .int .u64 (.ofNat b2), .str n2, .int .i64 o2]] =>
    bif Nat.ble b1 18446744073709551615 && Nat.ble b2 18446744073709551615 then some (F s t1 w1 b1 t2 w2 b2, h) else none
  | _ => none
def unP (F : LN → Int → Nat → Nat → AV) (xs : List AV) (h : HP) : Option (AV × HP) := match xs with
  | [.str s, .agg [.int .i64 t, .int .u32 (.ofNat w), .int .u64 (.ofNat b), .str n, .int .i64 o]] => bif Nat.ble b 18446744073709551615 then some (F s t w b, h) else none
  | _ => none
theorem bnP_ok {F : LN → Int → Nat → Nat → Int → Nat → Nat → AV} {s : LN} {t1 t2 o1 o2 : Int} {w1 w2 b1 b2 : Nat} {n1 n2 : LN} (h1 : b1 < 2 ^ 64) (h2 : b2 < 2 ^ 64) (h : HP) : bnP F [.str s, cA t1 w1 b1 n1 o1, cA t2 w2 b2 n2 o2] h = some (F s t1 w1 b1 t2 w2 b2, h) := by
  show (bif Nat.ble b1 18446744073709551615 && Nat.ble b2 18446744073709551615 then some (F s t1 w1 b1 t2 w2 b2, h) else none) = _
  rw [show Nat.ble b1 18446744073709551615 = true from by rw [Nat.ble_eq]; omega, show Nat.ble b2 18446744073709551615 = true from by rw [Nat.ble_eq]; omega]
  rfl
theorem unP_ok {F : LN → Int → Nat → Nat → AV} {s : LN} {t o : Int} {w b : Nat} {n : LN} (h1 : b < 2 ^ 64) (h : HP) : unP F [.str s, cA t w b n o] h = some (F s t w b, h) := by
  show (bif Nat.ble b 18446744073709551615 then some (F s t w b, h) else none) = _
  rw [show Nat.ble b 18446744073709551615 = true from by rw [Nat.ble_eq]; omega]
  rfl
def tabL : ST := .node 6 tabA (.node 7 (.pr 7 (bnP b7)) (.node 8 (.pr 8 (bnP b8)) (.node 9 (.pr 9 (unP u9)) (.node 10 (.pr 10 (unP u10)) tabA))))
theorem bn_pr (m : Int) (lf : Ev.Loc) {f : Nat} (hc : Callable Tryz.prog f) {F : LN → Int → Nat → Nat → Int → Nat → Nat → AV} (hp : ∀ s t1 w1 b1 t2 w2 b2, plain (F s t1 w1 b1 t2 w2 b2) = true ∧ ∀ h, emb h (F s t1 w1 b1 t2 w2 b2) [] = some (F s t1 w1 b1 t2 w2 b2, h))
    (hr : ∀ s t1 w1 b1 n1 o1 t2 w2 b2 n2 o2, b1 < 2 ^ 64 → b2 < 2 ^ 64 → ∃ h2, SF tabQ 900 f [.str s, cA t1 w1 b1 n1 o1, cA t2 w2 b2 n2 o2] (gH m) .no = some (.ret (F s t1 w1 b1 t2 w2 b2) h2, .no)) : letI := rhoV m lf rfl; ∀ w0, PrOk Tryz.prog w0 f (bnP F) := by
  letI := rhoV m lf rfl
  exact fun w0 => pr_ret (n := 900) (by kernel_rfl) (okQ m lf) hc (fun xs h r e => by
    unfold bnP at e
    split at e
    · obtain ⟨hl, e⟩ := bif_eq e
      rw [Bool.and_eq_true] at hl
      have h1 := Nat.le_of_ble_eq_true hl.1
      have h2 := Nat.le_of_ble_eq_true hl.2
      obtain rfl := Option.some.inj e
      exact ⟨rfl, (hp _ _ _ _ _ _ _).1, (hp _ _ _ _ _ _ _).2 h, hr _ _ _ _ _ _ _ _ _ _ _ (by omega) (by omega)⟩
    · simp at e) w0
theorem un_pr (m : Int) (lf : Ev.Loc) {f : Nat} (hc : Callable Tryz.prog f) {F : LN → Int → Nat → Nat → AV} (hp : ∀ s t w b, plain (F s t w b) = true ∧ ∀ h, emb h (F s t w b) [] = some (F s t w b, h))
    (hr : ∀ s t w b n o, b < 2 ^ 64 → ∃ h2, SF tabQ 900 f [.str s, cA t w b n o] (gH m) .no = some (.ret (F s t w b) h2, .no)) : letI := rhoV m lf rfl; ∀ w0, PrOk Tryz.prog w0 f (unP F) := by
  letI := rhoV m lf rfl
  exact fun w0 => pr_ret (n := 900) (by kernel_rfl) (okQ m lf) hc (fun xs h r e => by
    unfold unP at e
    split at e
    · obtain ⟨hl, e⟩ := bif_eq e
      have h1 := Nat.le_of_ble_eq_true hl
      obtain rfl := Option.some.inj e
      exact ⟨rfl, (hp _ _ _ _).1, (hp _ _ _ _).2 h, hr _ _ _ _ _ _ (by omega)⟩
    · simp at e) w0
theorem pe (x : AV) (h : plain x = true) (he : ∀ h, emb h x [] = some (x, h)) : plain x = true ∧ ∀ h, emb h x [] = some (x, h) := ⟨h, he⟩
theorem okL (m : Int) (lf : Ev.Loc) : letI := rhoV m lf rfl; ST.Ok Tryz.prog tabL := by
  letI := rhoV m lf rfl
  have p7 := bn_pr m lf (f := 7) (F := b7) ⟨_, Tryz.func7, by kernel_rfl, by decide +kernel⟩ (fun s t1 w1 b1 t2 w2 b2 => by unfold b7; split <;> (try split) <;> exact ⟨rfl, fun _ => rfl⟩) (fun s t1 w1 b1 n1 o1 t2 w2 b2 n2 o2 x1 x2 => by
    unfold b7
    split
    · rename_i g; obtain ⟨rfl, rfl⟩ := g; exact ret_of_gc (k7_1 m s w1 w2 b1 b2 n1 n2 o1 o2)
    · rename_i g
      split
      · rename_i g2; obtain ⟨rfl, rfl⟩ := g2; exact ret_of_gc (k7_2 m s w1 w2 b1 b2 n1 n2 o1 o2)
      · rename_i g2; exact k7_0 m s t1 t2 w1 w2 b1 b2 n1 n2 o1 o2 g g2)
  have p8 := bn_pr m lf (f := 8) (F := b8) ⟨_, Tryz.func8, by kernel_rfl, by decide +kernel⟩ (fun s t1 w1 b1 t2 w2 b2 => by unfold b8; split <;> (try split) <;> exact ⟨rfl, fun _ => rfl⟩) (fun s t1 w1 b1 n1 o1 t2 w2 b2 n2 o2 x1 x2 => by
    unfold b8
    split
    · rename_i g; obtain ⟨rfl, rfl⟩ := g; exact ret_of_gc (k8_1 m s w1 w2 b1 b2 n1 n2 o1 o2)
    · rename_i g
      split
      · rename_i g2; obtain ⟨rfl, rfl⟩ := g2; exact k8_2 m s w1 w2 b1 b2 n1 n2 o1 o2 x1 x2
      · rename_i g2; exact k8_0 m s t1 t2 w1 w2 b1 b2 n1 n2 o1 o2 g g2)
  have p9 := un_pr m lf (f := 9) (F := u9) ⟨_, Tryz.func9, by kernel_rfl, by decide +kernel⟩ (fun s t w b => by unfold u9; split <;> (try split) <;> (try split) <;> (try split) <;> exact ⟨rfl, fun _ => rfl⟩) (fun s t w b n o x1 => by
    unfold u9
    by_cases g1 : s = [45] ∧ t = 2
    · rw [if_pos g1]; obtain ⟨rfl, rfl⟩ := g1; exact k9_1 m w b n o x1
    rw [if_neg g1]
    by_cases g2 : s = [45] ∧ t = 1
    · rw [if_pos g2]; obtain ⟨rfl, rfl⟩ := g2; exact ret_of_gc (k9_2 m w b n o)
    rw [if_neg g2]
    by_cases g3 : s = [33] ∧ t = 1
    · rw [if_pos g3]; obtain ⟨rfl, rfl⟩ := g3; exact ret_of_gc (k9_3 m w b n o)
    rw [if_neg g3]
    by_cases g4 : s = [126] ∧ t = 1
    · rw [if_pos g4]; obtain ⟨rfl, rfl⟩ := g4; exact ret_of_gc (k9_4 m w b n o)
    rw [if_neg g4]
    exact k9_0 m s t w b n o g1 g2 g3 g4)
  have p10 := un_pr m lf (f := 10) (F := u10) ⟨_, Tryz.func10, by kernel_rfl, by decide +kernel⟩ (fun s t w b => by unfold u10; split <;> (try split) <;> (try split) <;> (try split) <;> exact ⟨rfl, fun _ => rfl⟩) (fun s t w b n o x1 => by
    unfold u10
    by_cases g1 : s = [45] ∧ t = 2
    · rw [if_pos g1]; obtain ⟨rfl, rfl⟩ := g1; exact k10_1 m w b n o x1
    rw [if_neg g1]
    by_cases g2 : s = [45] ∧ t = 1
    · rw [if_pos g2]; obtain ⟨rfl, rfl⟩ := g2; exact ret_of_gc (k10_2 m w b n o)
    rw [if_neg g2]
    by_cases g3 : s = [33] ∧ t = 1
    · rw [if_pos g3]; obtain ⟨rfl, rfl⟩ := g3; exact ret_of_gc (k10_3 m w b n o)
    rw [if_neg g3]
    by_cases g4 : s = [126] ∧ t = 1
    · rw [if_pos g4]; obtain ⟨rfl, rfl⟩ := g4; exact ret_of_gc (k10_4 m w b n o)
    rw [if_neg g4]
    exact k10_0 m s t w b n o g1 g2 g3 g4)
  exact .node _ _ _ (okA m lf) (.node _ _ _ (.pr _ _ p7) (.node _ _ _ (.pr _ _ p8) (.node _ _ _ (.pr _ _ p9) (.node _ _ _ (.pr _ _ p10) (okA m lf)))))
theorem find3 : tabL.run 3 = S3 := by kernel_rfl
theorem enter3 (D : CallD) (m : Nat) (s : LN) (a b : AV) (h : HP) : S3 D m [.str s, a, b] h .no = S3_0 D m s a b h := rfl
theorem runL (m : Int) (s : LN) (t1 t2 : Int) (w1 w2 b1 b2 : Nat) (n1 n2 : LN) (o1 o2 : Int) (hw : w1 < 4294967296) (h1 : b1 < 2 ^ 64) (h2 : b2 < 2 ^ 64) : isTrue (SF tabL (1000 + 1) 3 [.str s, cA t1 w1 b1 n1 o1, cA t2 w2 b2 n2 o2] (gH m) .no) = true := by
  rw [SF_succ, find3, enter3]
  obtain ⟨kt, kw, kb, ok, e7, e8⟩ := bin_ex s t1 w1 b1 t2 w2 b2
  obtain ⟨jt, jw, jb, is, e9, e10⟩ := un_ex s t1 hw b1
  obtain ⟨h', e⟩ := law3 (D := SF tabL 1000) (fun h k => by kernel_rfl) 1000 m s t1 t2 w1 w2 b1 b2 n1 n2 o1 o2 kt kw kb jt jw jb ok is
    (fun h k => by rw [← e7]; exact prim_cal (n := 999) (p := bnP b7) (by kernel_rfl) (bnP_ok h1 h2 h) k)
    (fun h k => by rw [← e8]; exact prim_cal (n := 999) (p := bnP b8) (by kernel_rfl) (bnP_ok h1 h2 h) k)
    (fun h k => by rw [← e9]; exact prim_cal (n := 999) (p := unP u9) (by kernel_rfl) (unP_ok h1 h) k)
    (fun h k => by rw [← e10]; exact prim_cal (n := 999) (p := unP u10) (by kernel_rfl) (unP_ok h1 h) k)
  rw [e]
  rfl
end
end Go.Proofs.YtakcpnpeadkfpaaGreatDoor.Lg
