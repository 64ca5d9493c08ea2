/- FoldOperators: operators of two reals. -/
import Derived.Test.YtakcpnpeadkfpaaGreatDoorFp
set_option linter.unusedVariables false
set_option linter.unusedSimpArgs false
set_option linter.unusedSectionVars false
namespace Go.Proofs.YtakcpnpeadkfpaaGreatDoor.Lg
open Go Go.Proofs.YtakcpnpeadkfpaaGreatDoor.Ev Go.Proofs.YtakcpnpeadkfpaaGreatDoor.Sx
noncomputable section
def doQ (xs : List AV) (h : HP) : Option (AV × HP) := match xs with
 | [.int .i64 (.ofNat op), .int .u64 (.ofNat a), .int .u64 (.ofNat b)] => bif Nat.ble 45 op && Nat.ble op 48 then some (.tup [uv (doN op a b), iv 0], h) else none
 | _ => none
def cpQ (xs : List AV) (h : HP) : Option (AV × HP) := match xs with
 | [.int .i64 (.ofNat op), .int .u64 (.ofNat a), .int .u64 (.ofNat b)] => bif Nat.ble 51 op && Nat.ble op 53 then some (.tup [wv (bW (cpN op a b)), iv 0], h) else bif Nat.beq op 0 then some (.tup [wv 0, iv 1], h) else none
 | _ => none
def b3P (lo hi : Nat) (F : Nat → Nat → Nat → AV) (xs : List AV) (h : HP) : Option (AV × HP) := match xs with
 | [.int .i64 (.ofNat op), .int .u64 (.ofNat a), .int .u64 (.ofNat b)] => bif (Nat.ble lo op && Nat.ble op hi) && (Nat.ble a 18446744073709551615 && Nat.ble b 18446744073709551615) then some (F op a b, h) else none
 | _ => none
theorem b3_some {lo hi : Nat} {F : Nat → Nat → Nat → AV} {xs : List AV} {h : HP} {x : AV × HP} (e : b3P lo hi F xs h = some x) : ∃ op a b, xs = [iv op, uv a, uv b] ∧ lo ≤ op ∧ op ≤ hi ∧ a < 2 ^ 64 ∧ b < 2 ^ 64 ∧ x = (F op a b, h) := by
 unfold b3P at e
 split at e
 ·rename_i op a b
  obtain ⟨hl, e⟩ := bif_eq e
  rw [Bool.and_eq_true, Bool.and_eq_true, Bool.and_eq_true] at hl
  have h1 := Nat.le_of_ble_eq_true hl.1.1
  have h2 := Nat.le_of_ble_eq_true hl.1.2
  have h3 := Nat.le_of_ble_eq_true hl.2.1
  have h4 := Nat.le_of_ble_eq_true hl.2.2
  exact ⟨op, a, b, rfl, h1, h2, by omega, by omega, (Option.some.inj e).symm⟩
 ·simp at e
theorem b3_ok {lo hi : Nat} {F : Nat → Nat → Nat → AV} {op a b : Nat} (h1 : lo ≤ op) (h2 : op ≤ hi) (ha : a < 2 ^ 64) (hb : b < 2 ^ 64) (h : HP) : b3P lo hi F [iv op, uv a, uv b] h = some (F op a b, h) := by
 show (bif (Nat.ble lo op && Nat.ble op hi) && (Nat.ble a 18446744073709551615 && Nat.ble b 18446744073709551615) then some (F op a b, h) else none) = _
 rw [show Nat.ble lo op = true from by rw [Nat.ble_eq]; exact h1, show Nat.ble op hi = true from by rw [Nat.ble_eq]; exact h2, show Nat.ble a 18446744073709551615 = true from by rw [Nat.ble_eq]; omega, show Nat.ble b 18446744073709551615 = true from by rw [Nat.ble_eq]; omega]
 rfl
theorem prim_cal {t : ST} {n f : Nat} {xs : List AV} {h : HP} {v : AV} {p : List AV → HP → Option (AV × HP)} (e : SF t (n + 1) f xs h .no = obQ (p xs h) fun r => some (.ret r.1 r.2, .no)) (hp : p xs h = some (v, h)) (k : AV → HP → Res2) : cal (SF t (n + 1)) f xs h k = k v h := by
 refine cal_of ?_ k
 rw [e, hp]; rfl
theorem bw_nat (c : Bool) : bW c = c.toNat := by cases c <;> rfl
def rdoF (op a b : Nat) : AV := .tup [uv (doN op a b), vB true]
def rcpF (op a b : Nat) : AV := .tup [wv (bW (cpN op a b)), vB true]
def tabY : ST := .node 34 tabW (.node 35 (.pr 35 doQ) (.node 36 (.pr 36 cpQ) (.node 59 tabW (.node 60 (.pr 60 (b3P 45 48 rdoF)) (.node 61 (.pr 61 (b3P 51 53 rcpF)) tabW)))))
theorem okY (m : Int) (lf : Ev.Loc) : letI := rhoV m lf rfl; ST.Ok Tryz.prog tabY := by
 letI := rhoV m lf rfl
 have wG : Wf (gH m) := fun b hb => Rho.gwf b (by rw [← HP.nxQ_eq]; exact hb)
 have p35 : ∀ w0, PrOk Tryz.prog w0 35 doQ := fun w0 => pr_of (n := 20) (by kernel_rfl) okS ⟨_, Tryz.func35, by kernel_rfl, by decide +kernel⟩ (fun xs h r hr => by
  unfold doQ at hr
  split at hr
  ·obtain ⟨hl, hr⟩ := bif_eq hr
   rw [Bool.and_eq_true] at hl
   obtain rfl := Option.some.inj hr
   exact sf_do (Nat.le_of_ble_eq_true hl.1) (Nat.le_of_ble_eq_true hl.2) _ _ h
  ·simp at hr) w0
 have p36 : ∀ w0, PrOk Tryz.prog w0 36 cpQ := fun w0 => pr_of (n := 20) (by kernel_rfl) okS ⟨_, Tryz.func36, by kernel_rfl, by decide +kernel⟩ (fun xs h r hr => by
  unfold cpQ at hr
  split at hr
  ·rename_i op a b
   cases hl : (Nat.ble 51 op && Nat.ble op 53) with
   | true =>
    rw [hl] at hr
    rw [Bool.and_eq_true] at hl
    obtain rfl := Option.some.inj hr
    rw [bw_nat]
    exact sf_cmp' (Nat.le_of_ble_eq_true hl.1) (Nat.le_of_ble_eq_true hl.2) _ _ h
   | false =>
    rw [hl] at hr
    obtain ⟨h0, hr⟩ := bif_eq (show (bif Nat.beq op 0 then some (AV.tup [wv 0, iv 1], h) else none) = some r from hr)
    obtain rfl := Nat.eq_of_beq_eq_true h0
    obtain rfl := Option.some.inj hr
    exact sf_cmp_no (.inl (by decide)) _ _ h
  ·simp at hr) w0
 have p60 : ∀ w0, PrOk Tryz.prog w0 60 (b3P 45 48 rdoF) := fun w0 => pr_ret (n := 30000 + 8) (by kernel_rfl) okS ⟨_, Tryz.func60, by kernel_rfl, by decide +kernel⟩ (fun xs h r hr => by
  obtain ⟨op, a, b, rfl, h1, h2, ha, hb, rfl⟩ := b3_some hr
  refine ⟨rfl, rfl, rfl, ?_⟩
  obtain ⟨h', e, _, _⟩ := sf_Do wG h1 h2 ha hb 30000 (by omega)
  refine ⟨h', e.trans ?_⟩
  show some (Fin.ret (AV.tup [uv (opW op a b), vB true]) h', AMode.no) = some (Fin.ret (AV.tup [uv (doN op a b), vB true]) h', AMode.no)
  rw [do_same h1 h2]) w0
 have p61 : ∀ w0, PrOk Tryz.prog w0 61 (b3P 51 53 rcpF) := fun w0 => pr_of (n := 4 + 4) (by kernel_rfl) okS ⟨_, Tryz.func61, by kernel_rfl, by decide +kernel⟩ (fun xs h r hr => by
  obtain ⟨op, a, b, rfl, h1, h2, ha, hb, rfl⟩ := b3_some hr
  have := sf_Cmp h1 h2 ha hb 4 h
  rw [this]
  show some (Fin.ret (AV.tup [wv (cpW op a b).toNat, vB true]) h, AMode.no) = some (Fin.ret (AV.tup [wv (bW (cpN op a b)), vB true]) h, AMode.no)
  rw [bw_nat, cmp_same]) w0
 exact .node _ _ _ (okW m lf) (.node _ _ _ (.pr _ _ p35) (.node _ _ _ (.pr _ _ p36) (.node _ _ _ (okW m lf) (.node _ _ _ (.pr _ _ p60) (.node _ _ _ (.pr _ _ p61) (okW m lf))))))
theorem find38 : tabY.run 38 = S38 := by kernel_rfl
theorem find39 : tabY.run 39 = S39 := by kernel_rfl
theorem enter38 (D : CallD) (m : Nat) (op a b : Nat) (h : HP) : S38 D m [iv op, uv a, uv b] h .no = S38_0 D m (Int.ofNat op) (Int.ofNat a) (Int.ofNat b) h := rfl
theorem enter39 (D : CallD) (m : Nat) (op a b : Nat) (h : HP) : S39 D m [iv op, uv a, uv b] h .no = S39_0 D m (Int.ofNat op) (Int.ofNat a) (Int.ofNat b) h := rfl
def rd38 (op a b : Nat) : AV := .agg [iv 2, wv 0, uv (doN op a b), .str [], iv 0]
def rd39 (op a b : Nat) : AV := .agg [iv 1, wv (bW (cpN op a b)), uv 0, .str [], iv 0]
theorem w38 (m : Int) {op a b : Nat} (h1 : 45 ≤ op) (h2 : op ≤ 48) (ha : a < 2 ^ 64) (hb : b < 2 ^ 64) : ∃ h2, SF tabY 900 38 [iv op, uv a, uv b] (gH m) .no = some (.ret (rd38 op a b) h2, .no) := by
 rw [SF_900, find38, enter38]
 unfold S38_0
 refine ex_tr (prim_cal (n := 898) (p := b3P 45 48 rdoF) (by kernel_rfl) (b3_ok h1 h2 ha hb _) _) ?_
 exact ret_of_gc (by kernel_rfl)
theorem w39 (m : Int) {op a b : Nat} (h1 : 51 ≤ op) (h2 : op ≤ 53) (ha : a < 2 ^ 64) (hb : b < 2 ^ 64) : ∃ h2, SF tabY 900 39 [iv op, uv a, uv b] (gH m) .no = some (.ret (rd39 op a b) h2, .no) := by
 rw [SF_900, find39, enter39]
 unfold S39_0
 refine ex_tr (prim_cal (n := 898) (p := b3P 51 53 rcpF) (by kernel_rfl) (b3_ok h1 h2 ha hb _) _) ?_
 exact ret_of_gc (by kernel_rfl)
def tabZ : ST := .node 37 tabY (.node 38 (.pr 38 (b3P 45 48 rd38)) (.node 39 (.pr 39 (b3P 51 53 rd39)) tabY))
theorem okZ (m : Int) (lf : Ev.Loc) : letI := rhoV m lf rfl; ST.Ok Tryz.prog tabZ := by
 letI := rhoV m lf rfl
 have p38 : ∀ w0, PrOk Tryz.prog w0 38 (b3P 45 48 rd38) := fun w0 => pr_ret (n := 900) (by kernel_rfl) (okY m lf) ⟨_, Tryz.func38, by kernel_rfl, by decide +kernel⟩ (fun xs h r hr => by
  obtain ⟨op, a, b, rfl, h1, h2, ha, hb, rfl⟩ := b3_some hr
  exact ⟨rfl, rfl, rfl, w38 m h1 h2 ha hb⟩) w0
 have p39 : ∀ w0, PrOk Tryz.prog w0 39 (b3P 51 53 rd39) := fun w0 => pr_ret (n := 900) (by kernel_rfl) (okY m lf) ⟨_, Tryz.func39, by kernel_rfl, by decide +kernel⟩ (fun xs h r hr => by
  obtain ⟨op, a, b, rfl, h1, h2, ha, hb, rfl⟩ := b3_some hr
  exact ⟨rfl, rfl, rfl, w39 m h1 h2 ha hb⟩) w0
 exact .node _ _ _ (okY m lf) (.node _ _ _ (.pr _ _ p38) (.node _ _ _ (.pr _ _ p39) (okY m lf)))
/- What the operators of two reals answer. -/
def rK (s : List Nat) : Bool := if s = [43] then true else if s = [45] then true else if s = [42] then true else if s = [47] then true else if s = [61, 61] then true else if s = [33, 61] then true else if s = [60] then true else if s = [60, 61] then true else if s = [62] then true else if s = [62, 61] then true else false
def rT (s : List Nat) : Nat := if s = [43] then 2 else if s = [45] then 2 else if s = [42] then 2 else if s = [47] then 2 else if s = [61, 61] then 1 else if s = [33, 61] then 1 else if s = [60] then 1 else if s = [60, 61] then 1 else if s = [62] then 1 else if s = [62, 61] then 1 else 0
def rW (s : List Nat) (a b : Nat) : Nat := if s = [61, 61] then bW (cpN 51 a b) else if s = [33, 61] then bW (!cpN 51 a b) else if s = [60] then bW (cpN 52 a b) else if s = [60, 61] then bW (cpN 53 a b) else if s = [62] then bW (cpN 52 b a) else if s = [62, 61] then bW (cpN 53 b a) else 0
def rB (s : List Nat) (a b : Nat) : Nat := if s = [43] then doN 45 a b else if s = [45] then doN 46 a b else if s = [42] then doN 47 a b else if s = [47] then doN 48 a b else 0
abbrev cR (s : List Nat) (a b : Nat) : AV := .agg [iv (rT s), wv (rW s a b), uv (rB s a b), .str [], iv 0]
def rE (s : List Nat) : Nat := Bool.rec 15 0 (rK s)
theorem bz1 (c : Bool) : bW ((Nat.beq (bW c) 1 == false) != true) = bW c := by cases c <;> rfl
theorem bz2 (c : Bool) : bW ((Nat.beq (bW c) 1 == true) != true) = bW (!c) := by cases c <;> rfl
theorem bz3 (c : Bool) : bW (Nat.beq (bW c) 0) = bW (!c) := by cases c <;> rfl
theorem find17 : tabZ.run 17 = S17 := by kernel_rfl
theorem find19 : tabZ.run 19 = S19 := by kernel_rfl
theorem enter17 (D : CallD) (m : Nat) (s : LN) (a b : Nat) (h : HP) : S17 D m [.str s, uv a, uv b] h .no = S17_2 D m s (Int.ofNat a) (Int.ofNat b) h := rfl
theorem enter19 (D : CallD) (m : Nat) (s : LN) (a b : Nat) (h : HP) : S19 D m [.str s, uv a, uv b] h .no = S19_0 D m s (Int.ofNat a) (Int.ofNat b) h := rfl
def effR (q : EO) (H : HP) : AV × HP := match evE q .leaf H with | some r => r | none => (.nilp, H)
theorem eff_r (q : EO) (H : HP) (e : (evE q .leaf H).isSome = true) (f : AV → HP → Res2) : eff q H f = f (effR q H).1 (effR q H).2 := by
 unfold eff effR
 cases h : evE q .leaf H with
 | none => rw [h] at e; exact Bool.noConfusion e
 | some r => rfl
theorem lk {q : LO} {H : HP} {s : LN} {es : List (AV × AV)} (e : evL q .leaf H = ob (findM .str (vS s) es) fun r => some (lookR false (kI 0) r)) (hn : findM .str (vS s) es = some none) (F : Int → Res2) : obI .i64 (evL q .leaf H) F = F (Int.ofNat 0) := by
 rw [e, hn]; rfl
theorem k17_0 (m : Int) (a b : Nat) : gc [] (SF tabZ 900 17 [.str [43], uv a, uv b] (gH m) .no) = some (.tup [.agg [iv 2, wv 0, uv (doN 45 a b), .str [], iv 0], iv 0], []) := by kernel_rfl
theorem k17_1 (m : Int) (a b : Nat) : gc [] (SF tabZ 900 17 [.str [45], uv a, uv b] (gH m) .no) = some (.tup [.agg [iv 2, wv 0, uv (doN 46 a b), .str [], iv 0], iv 0], []) := by kernel_rfl
theorem k17_2 (m : Int) (a b : Nat) : gc [] (SF tabZ 900 17 [.str [42], uv a, uv b] (gH m) .no) = some (.tup [.agg [iv 2, wv 0, uv (doN 47 a b), .str [], iv 0], iv 0], []) := by kernel_rfl
theorem k17_3 (m : Int) (a b : Nat) : gc [] (SF tabZ 900 17 [.str [47], uv a, uv b] (gH m) .no) = some (.tup [.agg [iv 2, wv 0, uv (doN 48 a b), .str [], iv 0], iv 0], []) := by kernel_rfl
theorem k17_4 (m : Int) (a b : Nat) : gc [] (SF tabZ 900 17 [.str [61, 61], uv a, uv b] (gH m) .no) = some (.tup [.agg [iv 1, wv (bW ((Nat.beq (bW (cpN 51 a b)) 1 == false) != true)), uv 0, .str [], iv 0], iv 0], []) := by kernel_rfl
theorem k17_5 (m : Int) (a b : Nat) : gc [] (SF tabZ 900 17 [.str [33, 61], uv a, uv b] (gH m) .no) = some (.tup [.agg [iv 1, wv (bW ((Nat.beq (bW (cpN 51 a b)) 1 == true) != true)), uv 0, .str [], iv 0], iv 0], []) := by kernel_rfl
theorem k17_6 (m : Int) (a b : Nat) : gc [] (SF tabZ 900 17 [.str [60], uv a, uv b] (gH m) .no) = some (.tup [.agg [iv 1, wv (bW ((Nat.beq (bW (cpN 52 a b)) 1 == false) != true)), uv 0, .str [], iv 0], iv 0], []) := by kernel_rfl
theorem k17_7 (m : Int) (a b : Nat) : gc [] (SF tabZ 900 17 [.str [60, 61], uv a, uv b] (gH m) .no) = some (.tup [.agg [iv 1, wv (bW ((Nat.beq (bW (cpN 53 a b)) 1 == false) != true)), uv 0, .str [], iv 0], iv 0], []) := by kernel_rfl
theorem k17_8 (m : Int) (a b : Nat) : gc [] (SF tabZ 900 17 [.str [62], uv a, uv b] (gH m) .no) = some (.tup [.agg [iv 1, wv (bW ((Nat.beq (bW (cpN 52 b a)) 1 == false) != true)), uv 0, .str [], iv 0], iv 0], []) := by kernel_rfl
theorem k17_9 (m : Int) (a b : Nat) : gc [] (SF tabZ 900 17 [.str [62, 61], uv a, uv b] (gH m) .no) = some (.tup [.agg [iv 1, wv (bW ((Nat.beq (bW (cpN 53 b a)) 1 == false) != true)), uv 0, .str [], iv 0], iv 0], []) := by kernel_rfl
theorem w17 (m : Int) (a b : Nat) (s : LN) : ∃ h2, SF tabZ 900 17 [.str s, uv a, uv b] (gH m) .no = some (.ret (.tup [cR s a b, iv (rE s)]) h2, .no) := by
 by_cases h0 : s = [43]
 ·subst h0
  have eK : cR [43] a b = .agg [iv 2, wv 0, uv (doN 45 a b), .str [], iv 0] := by kernel_rfl
  have eE : rE [43] = 0 := by kernel_rfl
  have k := k17_0 m a b
  rw [eK, eE]; exact ret_of_gc k
 by_cases h1 : s = [45]
 ·subst h1
  have eK : cR [45] a b = .agg [iv 2, wv 0, uv (doN 46 a b), .str [], iv 0] := by kernel_rfl
  have eE : rE [45] = 0 := by kernel_rfl
  have k := k17_1 m a b
  rw [eK, eE]; exact ret_of_gc k
 by_cases h2 : s = [42]
 ·subst h2
  have eK : cR [42] a b = .agg [iv 2, wv 0, uv (doN 47 a b), .str [], iv 0] := by kernel_rfl
  have eE : rE [42] = 0 := by kernel_rfl
  have k := k17_2 m a b
  rw [eK, eE]; exact ret_of_gc k
 by_cases h3 : s = [47]
 ·subst h3
  have eK : cR [47] a b = .agg [iv 2, wv 0, uv (doN 48 a b), .str [], iv 0] := by kernel_rfl
  have eE : rE [47] = 0 := by kernel_rfl
  have k := k17_3 m a b
  rw [eK, eE]; exact ret_of_gc k
 by_cases h4 : s = [61, 61]
 ·subst h4
  have eK : cR [61, 61] a b = .agg [iv 1, wv (bW (cpN 51 a b)), uv 0, .str [], iv 0] := by kernel_rfl
  have eE : rE [61, 61] = 0 := by kernel_rfl
  have k := k17_4 m a b
  rw [bz1] at k
  rw [eK, eE]; exact ret_of_gc k
 by_cases h5 : s = [33, 61]
 ·subst h5
  have eK : cR [33, 61] a b = .agg [iv 1, wv (bW (!cpN 51 a b)), uv 0, .str [], iv 0] := by kernel_rfl
  have eE : rE [33, 61] = 0 := by kernel_rfl
  have k := k17_5 m a b
  rw [bz2] at k
  rw [eK, eE]; exact ret_of_gc k
 by_cases h6 : s = [60]
 ·subst h6
  have eK : cR [60] a b = .agg [iv 1, wv (bW (cpN 52 a b)), uv 0, .str [], iv 0] := by kernel_rfl
  have eE : rE [60] = 0 := by kernel_rfl
  have k := k17_6 m a b
  rw [bz1] at k
  rw [eK, eE]; exact ret_of_gc k
 by_cases h7 : s = [60, 61]
 ·subst h7
  have eK : cR [60, 61] a b = .agg [iv 1, wv (bW (cpN 53 a b)), uv 0, .str [], iv 0] := by kernel_rfl
  have eE : rE [60, 61] = 0 := by kernel_rfl
  have k := k17_7 m a b
  rw [bz1] at k
  rw [eK, eE]; exact ret_of_gc k
 by_cases h8 : s = [62]
 ·subst h8
  have eK : cR [62] a b = .agg [iv 1, wv (bW (cpN 52 b a)), uv 0, .str [], iv 0] := by kernel_rfl
  have eE : rE [62] = 0 := by kernel_rfl
  have k := k17_8 m a b
  rw [bz1] at k
  rw [eK, eE]; exact ret_of_gc k
 by_cases h9 : s = [62, 61]
 ·subst h9
  have eK : cR [62, 61] a b = .agg [iv 1, wv (bW (cpN 53 b a)), uv 0, .str [], iv 0] := by kernel_rfl
  have eE : rE [62, 61] = 0 := by kernel_rfl
  have k := k17_9 m a b
  rw [bz1] at k
  rw [eK, eE]; exact ret_of_gc k
 have hK : rK s = false := by unfold rK; rw [if_neg h0, if_neg h1, if_neg h2, if_neg h3, if_neg h4, if_neg h5, if_neg h6, if_neg h7, if_neg h8, if_neg h9]
 have hT : rT s = 0 := by unfold rT; rw [if_neg h0, if_neg h1, if_neg h2, if_neg h3, if_neg h4, if_neg h5, if_neg h6, if_neg h7, if_neg h8, if_neg h9]
 have hW : rW s a b = 0 := by unfold rW; rw [if_neg h4, if_neg h5, if_neg h6, if_neg h7, if_neg h8, if_neg h9]
 have hB : rB s a b = 0 := by unfold rB; rw [if_neg h0, if_neg h1, if_neg h2, if_neg h3]
 have eK : cR s a b = .agg [iv 0, wv 0, uv 0, .str [], iv 0] := by
  show AV.agg [iv (rT s), wv (rW s a b), uv (rB s a b), .str [], iv 0] = _
  rw [hT, hW, hB]
 have hE : rE s = 15 := by unfold rE; rw [hK]
 rw [eK, hE, SF_900, find17, enter17]
 unfold S17_2
 refine ex_tr (eff_r _ _ (by kernel_rfl) _) ?_
 refine ex_tr (eff_r _ _ (by kernel_rfl) _) ?_
 refine ex_tr (eff_r _ _ (by kernel_rfl) _) ?_
 refine ex_tr (eff_r _ _ (by kernel_rfl) _) ?_
 refine ex_tr (lk (s := s) (es := [(vS ([43] : LN), kI 45), (vS ([45] : LN), kI 46), (vS ([42] : LN), kI 47), (vS ([47] : LN), kI 48)]) (by kernel_rfl) (by rw [fm, if_neg h0, fm, if_neg h1, fm, if_neg h2, fm, if_neg h3]; rfl) _) ?_
 refine ex_tr (br_ff (by kernel_rfl) _ _) ?_
 refine ex_tr (br_ff (eqL_no h8) _ _) ?_
 unfold S17_1
 refine ex_tr (br_ff (eqL_no h9) _ _) ?_
 unfold S17_0
 refine ex_tr (eff_r _ _ (by kernel_rfl) _) ?_
 refine ex_tr (eff_r _ _ (by kernel_rfl) _) ?_
 refine ex_tr (eff_r _ _ (by kernel_rfl) _) ?_
 refine ex_tr (eff_r _ _ (by kernel_rfl) _) ?_
 refine ex_tr (eff_r _ _ (by kernel_rfl) _) ?_
 refine ex_tr (eff_r _ _ (by kernel_rfl) _) ?_
 refine ex_tr (lk (s := s) (es := [(vS ([61, 61] : LN), kI 51), (vS ([33, 61] : LN), kI 51), (vS ([60] : LN), kI 52), (vS ([62] : LN), kI 52), (vS ([60, 61] : LN), kI 53), (vS ([62, 61] : LN), kI 53)]) (by kernel_rfl) (by rw [fm, if_neg h4, fm, if_neg h5, fm, if_neg h6, fm, if_neg h8, fm, if_neg h7, fm, if_neg h9]; rfl) _) ?_
 exact ret_of_gc (by kernel_rfl)
theorem w19 (m : Int) {a b : Nat} (ha : a < 2 ^ 64) (hb : b < 2 ^ 64) (s : LN) : ∃ h2, SF tabZ 900 19 [.str s, uv a, uv b] (gH m) .no = some (.ret (.tup [cR s a b, vB (rK s)]) h2, .no) := by
 by_cases h0 : s = [43]
 ·subst h0
  have eK : cR [43] a b = .agg [iv 2, wv 0, uv (doN 45 a b), .str [], iv 0] := by kernel_rfl
  have eE : rK [43] = true := by kernel_rfl
  rw [eK, eE, SF_900, find19, enter19]
  unfold S19_0
  refine ex_tr (br_tt (by kernel_rfl) _ _) ?_
  refine ex_tr (prim_cal (n := 898) (p := b3P 45 48 rd38) (by kernel_rfl) (b3_ok (by decide) (by decide) ha hb _) _) ?_
  exact ret_of_gc (by kernel_rfl)
 by_cases h1 : s = [45]
 ·subst h1
  have eK : cR [45] a b = .agg [iv 2, wv 0, uv (doN 46 a b), .str [], iv 0] := by kernel_rfl
  have eE : rK [45] = true := by kernel_rfl
  rw [eK, eE, SF_900, find19, enter19]
  unfold S19_0
  refine ex_tr (br_ff (by kernel_rfl) _ _) ?_
  refine ex_tr (br_tt (by kernel_rfl) _ _) ?_
  refine ex_tr (prim_cal (n := 898) (p := b3P 45 48 rd38) (by kernel_rfl) (b3_ok (by decide) (by decide) ha hb _) _) ?_
  exact ret_of_gc (by kernel_rfl)
 by_cases h2 : s = [42]
 ·subst h2
  have eK : cR [42] a b = .agg [iv 2, wv 0, uv (doN 47 a b), .str [], iv 0] := by kernel_rfl
  have eE : rK [42] = true := by kernel_rfl
  rw [eK, eE, SF_900, find19, enter19]
  unfold S19_0
  refine ex_tr (br_ff (by kernel_rfl) _ _) ?_
  refine ex_tr (br_ff (by kernel_rfl) _ _) ?_
  refine ex_tr (br_tt (by kernel_rfl) _ _) ?_
  refine ex_tr (prim_cal (n := 898) (p := b3P 45 48 rd38) (by kernel_rfl) (b3_ok (by decide) (by decide) ha hb _) _) ?_
  exact ret_of_gc (by kernel_rfl)
 by_cases h3 : s = [47]
 ·subst h3
  have eK : cR [47] a b = .agg [iv 2, wv 0, uv (doN 48 a b), .str [], iv 0] := by kernel_rfl
  have eE : rK [47] = true := by kernel_rfl
  rw [eK, eE, SF_900, find19, enter19]
  unfold S19_0
  refine ex_tr (br_ff (by kernel_rfl) _ _) ?_
  refine ex_tr (br_ff (by kernel_rfl) _ _) ?_
  refine ex_tr (br_ff (by kernel_rfl) _ _) ?_
  refine ex_tr (br_tt (by kernel_rfl) _ _) ?_
  refine ex_tr (prim_cal (n := 898) (p := b3P 45 48 rd38) (by kernel_rfl) (b3_ok (by decide) (by decide) ha hb _) _) ?_
  exact ret_of_gc (by kernel_rfl)
 by_cases h4 : s = [61, 61]
 ·subst h4
  have eK : cR [61, 61] a b = .agg [iv 1, wv (bW (cpN 51 a b)), uv 0, .str [], iv 0] := by kernel_rfl
  have eE : rK [61, 61] = true := by kernel_rfl
  rw [eK, eE, SF_900, find19, enter19]
  unfold S19_0
  refine ex_tr (br_ff (by kernel_rfl) _ _) ?_
  refine ex_tr (br_ff (by kernel_rfl) _ _) ?_
  refine ex_tr (br_ff (by kernel_rfl) _ _) ?_
  refine ex_tr (br_ff (by kernel_rfl) _ _) ?_
  refine ex_tr (br_tt (by kernel_rfl) _ _) ?_
  refine ex_tr (prim_cal (n := 898) (p := b3P 51 53 rd39) (by kernel_rfl) (b3_ok (by decide) (by decide) ha hb _) _) ?_
  exact ret_of_gc (by kernel_rfl)
 by_cases h5 : s = [33, 61]
 ·subst h5
  have eK : cR [33, 61] a b = .agg [iv 1, wv (bW (!cpN 51 a b)), uv 0, .str [], iv 0] := by kernel_rfl
  have eE : rK [33, 61] = true := by kernel_rfl
  rw [eK, eE, SF_900, find19, enter19]
  unfold S19_0
  refine ex_tr (br_ff (by kernel_rfl) _ _) ?_
  refine ex_tr (br_ff (by kernel_rfl) _ _) ?_
  refine ex_tr (br_ff (by kernel_rfl) _ _) ?_
  refine ex_tr (br_ff (by kernel_rfl) _ _) ?_
  refine ex_tr (br_ff (by kernel_rfl) _ _) ?_
  refine ex_tr (br_tt (by kernel_rfl) _ _) ?_
  refine ex_tr (prim_cal (n := 898) (p := b3P 51 53 rd39) (by kernel_rfl) (b3_ok (by decide) (by decide) ha hb _) _) ?_
  rw [← bz3]
  exact ret_of_gc (by kernel_rfl)
 by_cases h6 : s = [60]
 ·subst h6
  have eK : cR [60] a b = .agg [iv 1, wv (bW (cpN 52 a b)), uv 0, .str [], iv 0] := by kernel_rfl
  have eE : rK [60] = true := by kernel_rfl
  rw [eK, eE, SF_900, find19, enter19]
  unfold S19_0
  refine ex_tr (br_ff (by kernel_rfl) _ _) ?_
  refine ex_tr (br_ff (by kernel_rfl) _ _) ?_
  refine ex_tr (br_ff (by kernel_rfl) _ _) ?_
  refine ex_tr (br_ff (by kernel_rfl) _ _) ?_
  refine ex_tr (br_ff (by kernel_rfl) _ _) ?_
  refine ex_tr (br_ff (by kernel_rfl) _ _) ?_
  refine ex_tr (br_tt (by kernel_rfl) _ _) ?_
  refine ex_tr (prim_cal (n := 898) (p := b3P 51 53 rd39) (by kernel_rfl) (b3_ok (by decide) (by decide) ha hb _) _) ?_
  exact ret_of_gc (by kernel_rfl)
 by_cases h7 : s = [60, 61]
 ·subst h7
  have eK : cR [60, 61] a b = .agg [iv 1, wv (bW (cpN 53 a b)), uv 0, .str [], iv 0] := by kernel_rfl
  have eE : rK [60, 61] = true := by kernel_rfl
  rw [eK, eE, SF_900, find19, enter19]
  unfold S19_0
  refine ex_tr (br_ff (by kernel_rfl) _ _) ?_
  refine ex_tr (br_ff (by kernel_rfl) _ _) ?_
  refine ex_tr (br_ff (by kernel_rfl) _ _) ?_
  refine ex_tr (br_ff (by kernel_rfl) _ _) ?_
  refine ex_tr (br_ff (by kernel_rfl) _ _) ?_
  refine ex_tr (br_ff (by kernel_rfl) _ _) ?_
  refine ex_tr (br_ff (by kernel_rfl) _ _) ?_
  refine ex_tr (br_tt (by kernel_rfl) _ _) ?_
  refine ex_tr (prim_cal (n := 898) (p := b3P 51 53 rd39) (by kernel_rfl) (b3_ok (by decide) (by decide) ha hb _) _) ?_
  exact ret_of_gc (by kernel_rfl)
 by_cases h8 : s = [62]
 ·subst h8
  have eK : cR [62] a b = .agg [iv 1, wv (bW (cpN 52 b a)), uv 0, .str [], iv 0] := by kernel_rfl
  have eE : rK [62] = true := by kernel_rfl
  rw [eK, eE, SF_900, find19, enter19]
  unfold S19_0
  refine ex_tr (br_ff (by kernel_rfl) _ _) ?_
  refine ex_tr (br_ff (by kernel_rfl) _ _) ?_
  refine ex_tr (br_ff (by kernel_rfl) _ _) ?_
  refine ex_tr (br_ff (by kernel_rfl) _ _) ?_
  refine ex_tr (br_ff (by kernel_rfl) _ _) ?_
  refine ex_tr (br_ff (by kernel_rfl) _ _) ?_
  refine ex_tr (br_ff (by kernel_rfl) _ _) ?_
  refine ex_tr (br_ff (by kernel_rfl) _ _) ?_
  refine ex_tr (br_tt (by kernel_rfl) _ _) ?_
  refine ex_tr (prim_cal (n := 898) (p := b3P 51 53 rd39) (by kernel_rfl) (b3_ok (by decide) (by decide) hb ha _) _) ?_
  exact ret_of_gc (by kernel_rfl)
 by_cases h9 : s = [62, 61]
 ·subst h9
  have eK : cR [62, 61] a b = .agg [iv 1, wv (bW (cpN 53 b a)), uv 0, .str [], iv 0] := by kernel_rfl
  have eE : rK [62, 61] = true := by kernel_rfl
  rw [eK, eE, SF_900, find19, enter19]
  unfold S19_0
  refine ex_tr (br_ff (by kernel_rfl) _ _) ?_
  refine ex_tr (br_ff (by kernel_rfl) _ _) ?_
  refine ex_tr (br_ff (by kernel_rfl) _ _) ?_
  refine ex_tr (br_ff (by kernel_rfl) _ _) ?_
  refine ex_tr (br_ff (by kernel_rfl) _ _) ?_
  refine ex_tr (br_ff (by kernel_rfl) _ _) ?_
  refine ex_tr (br_ff (by kernel_rfl) _ _) ?_
  refine ex_tr (br_ff (by kernel_rfl) _ _) ?_
  refine ex_tr (br_ff (by kernel_rfl) _ _) ?_
  refine ex_tr (br_tt (by kernel_rfl) _ _) ?_
  refine ex_tr (prim_cal (n := 898) (p := b3P 51 53 rd39) (by kernel_rfl) (b3_ok (by decide) (by decide) hb ha _) _) ?_
  exact ret_of_gc (by kernel_rfl)
 have hK : rK s = false := by unfold rK; rw [if_neg h0, if_neg h1, if_neg h2, if_neg h3, if_neg h4, if_neg h5, if_neg h6, if_neg h7, if_neg h8, if_neg h9]
 have hT : rT s = 0 := by unfold rT; rw [if_neg h0, if_neg h1, if_neg h2, if_neg h3, if_neg h4, if_neg h5, if_neg h6, if_neg h7, if_neg h8, if_neg h9]
 have hW : rW s a b = 0 := by unfold rW; rw [if_neg h4, if_neg h5, if_neg h6, if_neg h7, if_neg h8, if_neg h9]
 have hB : rB s a b = 0 := by unfold rB; rw [if_neg h0, if_neg h1, if_neg h2, if_neg h3]
 have eK : cR s a b = .agg [iv 0, wv 0, uv 0, .str [], iv 0] := by
  show AV.agg [iv (rT s), wv (rW s a b), uv (rB s a b), .str [], iv 0] = _
  rw [hT, hW, hB]
 rw [eK, hK, SF_900, find19, enter19]
 unfold S19_0
 refine ex_tr (br_ff (eqL_no h0) _ _) ?_
 refine ex_tr (br_ff (eqL_no h1) _ _) ?_
 refine ex_tr (br_ff (eqL_no h2) _ _) ?_
 refine ex_tr (br_ff (eqL_no h3) _ _) ?_
 refine ex_tr (br_ff (eqL_no h4) _ _) ?_
 refine ex_tr (br_ff (eqL_no h5) _ _) ?_
 refine ex_tr (br_ff (eqL_no h6) _ _) ?_
 refine ex_tr (br_ff (eqL_no h7) _ _) ?_
 refine ex_tr (br_ff (eqL_no h8) _ _) ?_
 refine ex_tr (br_ff (eqL_no h9) _ _) ?_
 exact ret_of_gc (by kernel_rfl)
end
end Go.Proofs.YtakcpnpeadkfpaaGreatDoor.Lg
