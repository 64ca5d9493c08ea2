/- What the document's word operations answer: always a word, and memory is left alone. -/
import Derived.Test.YtakcpnpeadkfpaaGreatDoorSt
set_option linter.unusedVariables false
set_option linter.unusedSimpArgs false
namespace Go.Proofs.YtakcpnpeadkfpaaGreatDoor.Sx
open Go Go.Proofs.YtakcpnpeadkfpaaGreatDoor.Ev
set_option linter.unusedSectionVars false
noncomputable section
variable [Rho]
/- Words that are numbers. -/
theorem tk_nat (n : Nat) : tokF .u32 (Int.ofNat n) = false := rfl
theorem tk_of {n : Int} (h : 0 ≤ n) : tokF .u32 n = false := by obtain ⟨m, rfl⟩ := Int.eq_ofNat_of_zero_le h; rfl
theorem tk_nn {n : Int} (h : tokF .u32 n = false) : 0 ≤ n := by
 cases n with
 | ofNat n => show (0 : Int) ≤ (n : Int); omega
 | negSucc n => exact Bool.noConfusion (show true = false from h)
theorem tk_kw (n : Int) : tokF .u32 (IntKind.u32.wrap n) = false := tk_of (((InR.wrap .u32 n).1 rfl).1)
theorem tk_wrap (n : Int) : tokF .u32 (wrapF .u32 n) = false := by rw [wrapF_eq]; exact tk_kw n
theorem tk_wrQ (n : Int) : tokF .u32 (wrQ .u32 n) = false := by rw [wrQ_eq]; exact tk_wrap n
theorem tk_tmod {n : Int} (h : tokF .u32 n = false) (m : Nat) : tokF .u32 (Int.tmod n (Int.ofNat m)) = false := by
 obtain ⟨k, rfl⟩ := Int.eq_ofNat_of_zero_le (tk_nn h); rfl
theorem tk_fdiv {n : Int} (h : tokF .u32 n = false) (s : Nat) : tokF .u32 (n.fdiv (2 ^ s)) = false := by
 obtain ⟨k, rfl⟩ := Int.eq_ofNat_of_zero_le (tk_nn h)
 have e2 : (2 : Int) ^ s = ((2 ^ s : Nat) : Int) := by simp
 rw [e2, ← Int.ofNat_fdiv]; rfl
theorem convV_u {k : IntKind} {n : Int} (h : tokF .u32 n = false) : convV (.ii k) (vW n) = some (.int k (wrapF k n)) := by
 show (bif tokF .u32 n then none else some (AV.int k (wrapF k n))) = _; rw [h]; rfl
theorem intBin_u {op : BinOp} {a b : Int} (ha : tokF .u32 a = false) (hb : tokF .u32 b = false) : intBin op .u32 a b = intB op .u32 a b := by unfold intBin; rw [ha, hb]; rfl
theorem shr_u {a : Int} {n : Nat} (ha : tokF .u32 a = false) : shiftF .shr .u32 a (Int.ofNat n) = some (.int .u32 (a.fdiv (2 ^ (min n 32)))) := by unfold shiftF; rw [ha]; rfl
theorem shl_u {a : Int} {n : Nat} (ha : tokF .u32 a = false) : shiftF .shl .u32 a (Int.ofNat n) = some (.int .u32 (IntKind.u32.wrap (a * 2 ^ (min n 32)))) := by unfold shiftF; rw [ha]; rfl
section
variable {a b : Int} {f : AV → Res2}
theorem bc_add (ha : tokF .u32 a = false) (hb : tokF .u32 b = false) : binC .add (vW a) (vW b) f = f (vW (wrQ .u32 (addQ a b))) := by
 rw [binC_eq]; show ob (intBin .add .u32 a b) f = _; rw [intBin_u ha hb, wrQ_eq, addQ_eq]; rfl
theorem bc_sub (ha : tokF .u32 a = false) (hb : tokF .u32 b = false) : binC .sub (vW a) (vW b) f = f (vW (wrQ .u32 (a - b))) := by
 rw [binC_eq]; show ob (intBin .sub .u32 a b) f = _; rw [intBin_u ha hb, wrQ_eq]; rfl
theorem bc_quo (ha : tokF .u32 a = false) (hb : tokF .u32 b = false) (h0 : eqF b 0 = false) : binC .quo (vW a) (vW b) f = f (vW (wrapF .u32 (a.tdiv b))) := by
 rw [binC_eq]; show ob (intBin .quo .u32 a b) f = _; rw [intBin_u ha hb]; show ob (bif eqF b 0 then none else some (AV.int .u32 (wrapF .u32 (a.tdiv b)))) f = _; rw [h0]; rfl
theorem bc_rem (ha : tokF .u32 a = false) (hb : tokF .u32 b = false) (h0 : eqF b 0 = false) : binC .rem (vW a) (vW b) f = f (vW (a.tmod b)) := by
 rw [binC_eq]; show ob (intBin .rem .u32 a b) f = _; rw [intBin_u ha hb]; show ob (bif eqF b 0 then none else some (AV.int .u32 (a.tmod b))) f = _; rw [h0]; rfl
theorem bc_eql (ha : tokF .u32 a = false) (hb : tokF .u32 b = false) : binC .eql (vW a) (vW b) f = f (vB (eqQ a b)) := by
 rw [binC_eq]; show ob (intBin .eql .u32 a b) f = _; rw [intBin_u ha hb, eqQ_eq]; rfl
end
section
variable {a b : Int} {f : AV → Option AV}
theorem bv_add (ha : tokF .u32 a = false) (hb : tokF .u32 b = false) : binCV .add (vW a) (vW b) f = f (vW (wrQ .u32 (addQ a b))) := by
 rw [binCV_eq]; show ob (intBin .add .u32 a b) f = _; rw [intBin_u ha hb, wrQ_eq, addQ_eq]; rfl
theorem bv_eql (ha : tokF .u32 a = false) (hb : tokF .u32 b = false) : binCV .eql (vW a) (vW b) f = f (vB (eqQ a b)) := by
 rw [binCV_eq]; show ob (intBin .eql .u32 a b) f = _; rw [intBin_u ha hb, eqQ_eq]; rfl
theorem bv_neq (ha : tokF .u32 a = false) (hb : tokF .u32 b = false) : binCV .neq (vW a) (vW b) f = f (vB (notQ (eqQ a b))) := by
 rw [binCV_eq]; show ob (intBin .neq .u32 a b) f = _; rw [intBin_u ha hb, notQ_eq, eqQ_eq]; rfl
theorem bv_lss (ha : tokF .u32 a = false) (hb : tokF .u32 b = false) : binCV .lss (vW a) (vW b) f = f (vB (ltQ a b)) := by
 rw [binCV_eq]; show ob (intBin .lss .u32 a b) f = _; rw [intBin_u ha hb, ltQ_eq]; rfl
theorem bv_gtr (ha : tokF .u32 a = false) (hb : tokF .u32 b = false) : binCV .gtr (vW a) (vW b) f = f (vB (ltQ b a)) := by
 rw [binCV_eq]; show ob (intBin .gtr .u32 a b) f = _; rw [intBin_u ha hb, ltQ_eq]; rfl
end
theorem asIV_vW (n : Int) (f : Int → Option AV) : asIV .u32 (vW n) f = f n := id rfl
theorem asBV_vB (b : Bool) (f : Bool → Option AV) : asBV (vB b) f = f b := id rfl
theorem cal_of {D : CallD} {f : Nat} {args : List AV} {h : HP} {kr : AV → HP → Res2} {v : AV} (hd : D f args h .no = some (.ret v h, .no)) : cal D f args h kr = kr v h := by
 unfold cal calC; rw [hd]; rfl
theorem asI_vI (n : Int) (f : Int → Res2) : asI .i64 (vI n) f = f n := id rfl
theorem asI_vW (n : Int) (f : Int → Res2) : asI .u32 (vW n) f = f n := id rfl
theorem asB_vB (b : Bool) (f : Bool → Res2) : asB (vB b) f = f b := id rfl
theorem obI_i (n : Int) (f : Int → Res2) : obI .i64 (some (.int .i64 n)) f = f n := id rfl
theorem obI_w (n : Int) (f : Int → Res2) : obI .u32 (some (.int .u32 n)) f = f n := id rfl
theorem quo_k {k : IntKind} {x y : Int} (hk : notW k = true) (hy : eqF y 0 = false) : intBin .quo k x y = some (.int k (wrapF k (x.tdiv y))) := by
 unfold intBin; rw [tokF_no' hk, tokF_no' hk]
 show (bif eqF y 0 then none else some (AV.int k (wrapF k (x.tdiv y)))) = _; rw [hy]; rfl
theorem rem_k {k : IntKind} {x y : Int} (hk : notW k = true) (hy : eqF y 0 = false) : intBin .rem k x y = some (.int k (x.tmod y)) := by
 unfold intBin; rw [tokF_no' hk, tokF_no' hk]
 show (bif eqF y 0 then none else some (AV.int k (x.tmod y))) = _; rw [hy]; rfl
theorem quo_some {x y : Int} (hy : eqF y 0 = false) : intBin .quo .i64 x y = some (.int .i64 (wrapF .i64 (x.tdiv y))) := quo_k (by decide) hy
theorem rem_some {x y : Int} (hy : eqF y 0 = false) : intBin .rem .i64 x y = some (.int .i64 (x.tmod y)) := rem_k (by decide) hy
theorem cvN (k : IntKind) (n : Nat) : convV (.ii k) (vW (Int.ofNat n)) = some (.int k (wrapF k (Int.ofNat n))) := id rfl
theorem pow_ne (k : Nat) : eqF (Int.ofNat (2 ^ k)) 0 = false := by
 rw [eqF_eq, beq_eq_false_iff_ne]; intro h
 have h2 : 2 ^ k = 0 := Int.ofNat.inj h
 have := Nat.two_pow_pos k; omega
theorem wrQ_nat {k : IntKind} {n : Nat} (h : n ≤ maxN k) : wrQ k (Int.ofNat n) = Int.ofNat n := by
 rw [wrQ_eq]; show (bif Nat.ble n (maxN k) then Int.ofNat n else _) = _
 rw [show Nat.ble n (maxN k) = true from by rw [Nat.ble_eq]; exact h]; rfl
theorem wrapF_nat {k : IntKind} {n : Nat} (h : n ≤ maxN k) : wrapF k (Int.ofNat n) = Int.ofNat n := by rw [← wrQ_eq]; exact wrQ_nat h
theorem ltQ_nat (a b : Nat) : ltQ (Int.ofNat a) (Int.ofNat b) = decide (a < b) := by
 show Nat.ble (a + 1) b = _
 rw [Bool.eq_iff_iff, Nat.ble_eq]; simp; omega
/- Signed, Of, floor, upper. -/
def sgn (a : Int) : Int := Bool.rec (wrapF .i64 a) (wrQ .i64 (wrapF .i64 a - Int.ofNat 4294967296)) (leQ (Int.ofNat 2147483648) (wrapF .i64 a))
theorem sg_ok (D : CallD) (m : Nat) (a : Int) (ha : tokF .u32 a = false) (h : HP) : S37 D m [vW a] h .no = some (.ret (vI (sgn a)) h, .no) := by
 show S37_0 D m a h = _
 unfold S37_0 sgn; rw [convV_u ha]; simp only [obI_i]
 cases leQ (Int.ofNat 2147483648) (wrapF .i64 a) <;> rfl
def ofw (x : Int) : Int := wrapF .u32 (Bool.rec (Int.tmod x (Int.ofNat 4294967296)) (wrQ .i64 (addQ (Int.tmod x (Int.ofNat 4294967296)) (Int.ofNat 4294967296))) (ltQ (Int.tmod x (Int.ofNat 4294967296)) (Int.ofNat 0)))
theorem of_ok (D : CallD) (m : Nat) (x : Int) (h : HP) : S62 D m [vI x] h .no = some (.ret (vW (ofw x)) h, .no) := by
 show S62_1 D m x h = _
 unfold S62_1 ofw; dsimp only
 cases ltQ (Int.tmod x (Int.ofNat 4294967296)) (Int.ofNat 0) <;> rfl
def flr (x y : Int) : Int := Bool.rec (wrapF .i64 (x.tdiv y)) (wrQ .i64 (wrapF .i64 (x.tdiv y) - Int.ofNat 1)) (ltQ (x.tmod y) (Int.ofNat 0))
theorem fl_ok (D : CallD) (m : Nat) (x y : Int) (hy : eqF y 0 = false) (h : HP) : S65 D m [vI x, vI y] h .no = some (.ret (vI (flr x y)) h, .no) := by
 show S65_1 D m x y h = _
 unfold S65_1 flr
 simp only [quo_some hy, rem_some hy, obI_i]
 cases ltQ (x.tmod y) (Int.ofNat 0) <;> rfl
theorem up_ok (a b : Nat) : ∃ v, ∀ (D : CallD) (m : Nat) (h : HP), S66 D m [vW (Int.ofNat a), vW (Int.ofNat b)] h .no = some (.ret (vW v) h, .no) := by
 refine ⟨?_, fun D m h => ?_⟩
 rotate_left
 ·show S66_0 D m (Int.ofNat a) (Int.ofNat b) h = _
  unfold S66_0
  have h0 : eqF (Int.ofNat 65536) 0 = false := rfl
  rw [bc_quo (tk_nat a) (tk_nat _) h0]; simp only [asI_vW]
  rw [convV_u (tk_wrap _)]; simp only [obI_i]
  rw [bc_rem (tk_nat a) (tk_nat _) h0]; simp only [asI_vW]
  rw [convV_u (tk_tmod (tk_nat a) _)]; simp only [obI_i]
  rw [bc_quo (tk_nat b) (tk_nat _) h0]; simp only [asI_vW]
  rw [convV_u (tk_wrap _)]; simp only [obI_i]
  rw [bc_rem (tk_nat b) (tk_nat _) h0]; simp only [asI_vW]
  rw [convV_u (tk_tmod (tk_nat b) _)]; simp only [obI_i]
  rfl
/- power -/
theorem pw_loop (D : CallD) (m n : Nat) (hn : n ≤ 62) (h : HP) : ∀ (k i : Nat), i + k = n → ∀ q, k < q → nrec (fun _ _ _ _ => none) (fun _ g => S63_1b D m g) q (Int.ofNat n) (Int.ofNat (2 ^ i)) (Int.ofNat i) h = some (.ret (vI (Int.ofNat (2 ^ n))) h, .no)
 | 0, i, hi, q + 1, hq => by
  show S63_1b D m (nrec (fun _ _ _ _ => none) (fun _ g => S63_1b D m g) q) (Int.ofNat n) (Int.ofNat (2 ^ i)) (Int.ofNat i) h = _
  unfold S63_1b; dsimp only
  rw [ltQ_nat, show decide (i < n) = false from by simp; omega]
  have : i = n := by omega
  subst this; rfl
 | k + 1, i, hi, q + 1, hq => by
  show S63_1b D m (nrec (fun _ _ _ _ => none) (fun _ g => S63_1b D m g) q) (Int.ofNat n) (Int.ofNat (2 ^ i)) (Int.ofNat i) h = _
  unfold S63_1b; dsimp only
  rw [ltQ_nat, show decide (i < n) = true from by simp; omega]
  have hp : 2 ^ (i + 1) ≤ 2 ^ 62 := Nat.pow_le_pow_right (by omega) (by omega)
  have e1 : wrQ .i64 (Int.ofNat (2 ^ i) * Int.ofNat 2) = Int.ofNat (2 ^ (i + 1)) := by
   rw [show Int.ofNat (2 ^ i) * Int.ofNat 2 = Int.ofNat (2 ^ (i + 1)) from by rw [Nat.pow_succ]; rfl]
   exact wrQ_nat (by show _ ≤ 9223372036854775807; omega)
  have e2 : wrQ .i64 (addQ (Int.ofNat i) (Int.ofNat 1)) = Int.ofNat (i + 1) := wrQ_nat (by show i + 1 ≤ 9223372036854775807; omega)
  rw [e1, e2]
  exact pw_loop D m n hn h k (i + 1) (by omega) q (by omega)
theorem pw_ok (D : CallD) (m n : Nat) (hn : n ≤ 62) (hm : n < m) (h : HP) : S63 D m [vI (Int.ofNat n)] h .no = some (.ret (vI (Int.ofNat (2 ^ n))) h, .no) := by
 show nrec (fun _ _ _ _ => none) (fun _ g => S63_1b D m g) m (Int.ofNat n) (Int.ofNat 1) (Int.ofNat 0) h = _
 exact pw_loop D m n hn h n 0 (by omega) m hm
/- bits -/
def zc (how x y : Int) : Bool := (eqQ how (Int.ofNat 1) && notQ (eqQ x y)) || (eqQ how (Int.ofNat 2) && ltQ (Int.ofNat 0) (wrQ .u32 (addQ x y))) || (eqQ how (Int.ofNat 3) && eqQ (wrQ .u32 (addQ x y)) (Int.ofNat 2))
def bstep (how a b : Int) (i : Nat) (out : Int) : Int :=
 wrQ .u32 (addQ out (IntKind.u32.wrap ((Bool.rec (Int.ofNat 0) (Int.ofNat 1) (zc how (Int.tmod (a.fdiv (2 ^ (min i 32))) (Int.ofNat 2)) (Int.tmod (b.fdiv (2 ^ (min i 32))) (Int.ofNat 2)))) * 2 ^ (min i 32))))
def btw (how a b : Int) : Nat → Nat → Int → Int
 | 0, _, out => out
 | k + 1, i, out => btw how a b k (i + 1) (bstep how a b i out)
theorem bt_step (D : CallD) (m : Nat) (g : Int → Int → Int → Int → Int → HP → Res2) (how a b out : Int) (ha : tokF .u32 a = false) (hb : tokF .u32 b = false) (ho : tokF .u32 out = false) (i : Nat) (hi : i < 32) (h : HP) : S64_1b D m g how a b out (Int.ofNat i) h = g how a b (bstep how a b i out) (Int.ofNat (i + 1)) h := by
 unfold S64_1b
 rw [shr_u ha, shr_u hb]
 dsimp only
 rw [ltQ_nat, show decide (i < 32) = true from by simp; omega]
 have e2 : wrQ .i64 (addQ (Int.ofNat i) (Int.ofNat 1)) = Int.ofNat (i + 1) := wrQ_nat (by show i + 1 ≤ 9223372036854775807; omega)
 have s3 : ∀ z : Int, tokF .u32 z = false → S64_3 D m g how a b out (Int.ofNat i) z h = g how a b (wrQ .u32 (addQ out (IntKind.u32.wrap (z * 2 ^ (min i 32))))) (Int.ofNat (i + 1)) h := by
  intro z hz
  unfold S64_3
  rw [shl_u hz]; simp only [obI_w]
  rw [bc_add ho (tk_kw _)]; simp only [asI_vW]
  show g how a b (wrQ .u32 (addQ out (IntKind.u32.wrap (z * 2 ^ (min i 32))))) (wrQ .i64 (addQ (Int.ofNat i) (Int.ofNat 1))) h = _
  rw [e2]
 have h2 : eqF (Int.ofNat 2) 0 = false := rfl
 have ta := tk_fdiv ha (min i 32)
 have tb := tk_fdiv hb (min i 32)
 have t2 := tk_nat 2
 have ta2 := tk_tmod ta 2
 have tb2 := tk_tmod tb 2
 unfold bstep zc
 show obI .u32 _ _ = _
 simp only [obI_w, bc_rem ta t2 h2, bc_rem tb t2 h2, asI_vW, bv_neq ta2 tb2, bv_add ta2 tb2, asIV_vW, asBV_vB, bv_gtr (tk_wrQ _) (tk_nat _), bv_eql (tk_wrQ _) (tk_nat _), s3 _ (tk_nat _)]
 generalize Int.tmod (a.fdiv (2 ^ (min i 32))) (Int.ofNat 2) = x
 generalize Int.tmod (b.fdiv (2 ^ (min i 32))) (Int.ofNat 2) = y
 generalize eqQ how (Int.ofNat 1) = c1
 generalize eqQ how (Int.ofNat 2) = c2
 generalize eqQ how (Int.ofNat 3) = c3
 generalize notQ (eqQ x y) = d1
 generalize ltQ (Int.ofNat 0) (wrQ .u32 (addQ x y)) = d2
 generalize eqQ (wrQ .u32 (addQ x y)) (Int.ofNat 2) = d3
 cases c1 <;> cases c2 <;> cases c3 <;> cases d1 <;> cases d2 <;> cases d3 <;> rfl
theorem bt_loop (D : CallD) (m : Nat) (how a b : Int) (ha : tokF .u32 a = false) (hb : tokF .u32 b = false) (h : HP) : ∀ (k i : Nat), i + k = 32 → ∀ q, k < q → ∀ out, tokF .u32 out = false → nrec (fun _ _ _ _ _ _ => none) (fun _ g => S64_1b D m g) q how a b out (Int.ofNat i) h = some (.ret (vW (btw how a b k i out)) h, .no)
 | 0, i, hi, q + 1, hq, out, ho => by
  show S64_1b D m (nrec (fun _ _ _ _ _ _ => none) (fun _ g => S64_1b D m g) q) how a b out (Int.ofNat i) h = _
  unfold S64_1b; dsimp only
  rw [ltQ_nat, show decide (i < 32) = false from by simp; omega]
  rfl
 | k + 1, i, hi, q + 1, hq, out, ho => by
  show S64_1b D m (nrec (fun _ _ _ _ _ _ => none) (fun _ g => S64_1b D m g) q) how a b out (Int.ofNat i) h = _
  rw [bt_step D m _ how a b out ha hb ho i (by omega) h]
  exact bt_loop D m how a b ha hb h k (i + 1) (by omega) q (by omega) _ (tk_wrQ _)
theorem bt_ok (D : CallD) (m : Nat) (hm : 32 < m) (how a b : Int) (ha : tokF .u32 a = false) (hb : tokF .u32 b = false) (h : HP) : S64 D m [vI how, vW a, vW b] h .no = some (.ret (vW (btw how a b 32 0 (Int.ofNat 0))) h, .no) := by
 show nrec (fun _ _ _ _ _ _ => none) (fun _ g => S64_1b D m g) m how a b (Int.ofNat 0) (Int.ofNat 0) h = _
 exact bt_loop D m how a b ha hb h 32 0 rfl m hm _ (tk_nat 0)
/- What always answers with a word and a truth value. -/
def T3 (f : HP → Res2) : Prop := ∃ v c, ∀ h, f h = some (.ret (.tup [vW v, vB c]) h, .no)
theorem T3.ret (v : Int) (c : Bool) : T3 (fun h => some (.ret (.tup [vW v, vB c]) h, .no)) := ⟨v, c, fun _ => rfl⟩
theorem T3.br {c : Bool} {x y : HP → Res2} (hx : c = true → T3 x) (hy : c = false → T3 y) : T3 (fun h => Go.Proofs.YtakcpnpeadkfpaaGreatDoor.Ev.br c (x h) (y h)) := by
 cases c with
 | false => exact hy rfl
 | true => exact hx rfl
theorem eqQ_0 {y : Int} (h : eqQ y (Int.ofNat 0) = false) : eqF y 0 = false := by rw [eqQ_eq] at h; exact h
section
variable {D : CallD} {m : Nat}
/-- What is known of the callees. -/
structure Wd (D : CallD) : Prop where
 sg : ∀ a h (kr : AV → HP → Res2), tokF .u32 a = false → cal D 37 [vW a] h kr = kr (vI (sgn a)) h
 of : ∀ x h (kr : AV → HP → Res2), cal D 62 [vI x] h kr = kr (vW (ofw x)) h
 fl : ∀ x y h (kr : AV → HP → Res2), eqF y 0 = false → cal D 65 [vI x, vI y] h kr = kr (vI (flr x y)) h
 pw : ∀ (n : Nat) h (kr : AV → HP → Res2), n ≤ 33 → cal D 63 [vI (Int.ofNat n)] h kr = kr (vI (Int.ofNat (2 ^ n))) h
 bt : ∀ how a b h (kr : AV → HP → Res2), tokF .u32 a = false → tokF .u32 b = false → cal D 64 [vI how, vW a, vW b] h kr = kr (vW (btw how a b 32 0 (Int.ofNat 0))) h
theorem obB_brV (c : Bool) (x y : Option AV) (f : Bool → Res2) : obB (brV c x y) f = Go.Proofs.YtakcpnpeadkfpaaGreatDoor.Ev.br c (obB x f) (obB y f) := by cases c <;> rfl
theorem obB_some (b : Bool) (f : Bool → Res2) : obB (some (vB b)) f = f b := id rfl
theorem obBV_brV (c : Bool) (x y : Option AV) (f : Bool → Option AV) : obBV (brV c x y) f = brV c (obBV x f) (obBV y f) := by cases c <;> rfl
theorem obBV_some (b : Bool) (f : Bool → Option AV) : obBV (some (vB b)) f = f b := id rfl
theorem Wd.sgN (hw : Wd D) (n : Nat) (h : HP) (kr : AV → HP → Res2) : cal D 37 [vW (Int.ofNat n)] h kr = kr (vI (sgn (Int.ofNat n))) h := hw.sg _ _ _ (tk_nat n)
theorem Wd.btN (hw : Wd D) (how : Int) (a b : Nat) (h : HP) (kr : AV → HP → Res2) : cal D 64 [vI how, vW (Int.ofNat a), vW (Int.ofNat b)] h kr = kr (vW (btw how (Int.ofNat a) (Int.ofNat b) 32 0 (Int.ofNat 0))) h := hw.bt _ _ _ _ _ (tk_nat a) (tk_nat b)
theorem bvN_lss (a b : Nat) (f : AV → Option AV) : binCV .lss (vW (Int.ofNat a)) (vW (Int.ofNat b)) f = f (vB (ltQ (Int.ofNat a) (Int.ofNat b))) := bv_lss (tk_nat a) (tk_nat b)
theorem dv3 (hw : Wd D) (a x y : Int) (c : Bool) : T3 (fun h => S67_3 D m a x y c h) := by
 unfold S67_3 S67_1; dsimp only
 refine T3.br (fun _ => T3.br (fun _ => T3.ret _ _) (fun hy => ?_)) (fun _ => T3.ret _ _)
 simp only [rem_some (eqQ_0 hy), obI_i, hw.of, asI_vW]
 exact T3.ret _ _
theorem dv2 (hw : Wd D) (a x y op : Int) (c : Bool) : T3 (fun h => S67_2 D m a x y op c h) := by
 unfold S67_2; dsimp only
 refine T3.br (fun _ => T3.br (fun _ => T3.ret _ _) (fun hy => ?_)) (fun _ => T3.br (fun _ => dv3 hw _ _ _ _) (fun _ => dv3 hw _ _ _ _))
 simp only [quo_some (eqQ_0 hy), obI_i, hw.of, asI_vW]
 exact T3.ret _ _
theorem dv0 (hw : Wd D) (op a x y : Int) : T3 (fun h => S67_0 D m op a x y h) := by
 unfold S67_0; dsimp only
 exact T3.br (fun _ => dv2 hw _ _ _ _ _) (fun _ => dv2 hw _ _ _ _ _)
theorem dv4 (hw : Wd D) (op : Int) (a b : Nat) : T3 (fun h => S67_4 D m op (Int.ofNat a) (Int.ofNat b) h) := by
 unfold S67_4
 simp only [hw.sgN, cvN, obI_i, asI_vI, obB_brV, obB_some]
 repeat' (first | exact dv0 hw _ _ _ _ | refine T3.br (fun _ => ?_) (fun _ => ?_))
def Dv (D : CallD) : Prop := ∀ op (a b : Nat), ∃ v c, ∀ h (kr : AV → HP → Res2), cal D 67 [vI op, vW (Int.ofNat a), vW (Int.ofNat b)] h kr = kr (.tup [vW v, vB c]) h
def Up (D : CallD) : Prop := ∀ (a b : Nat), ∃ v, ∀ h (kr : AV → HP → Res2), cal D 66 [vW (Int.ofNat a), vW (Int.ofNat b)] h kr = kr (vW v) h
theorem do0 (hd : Dv D) (op : Int) (a b : Nat) : T3 (fun h => S43_0 D m op (Int.ofNat a) (Int.ofNat b) h) := by
 obtain ⟨v, c, e⟩ := hd op a b
 refine ⟨v, c, fun h => ?_⟩
 unfold S43_0; simp only [e]; rfl
theorem do1 (hw : Wd D) (hd : Dv D) (hu : Up D) (op : Int) (a b : Nat) (x y : Int) (k : Nat) (hk : k ≤ 33) (z w : Int) (c : Bool) : T3 (fun h => S43_1 D m op (Int.ofNat a) (Int.ofNat b) x y (Int.ofNat k) z w c h) := by
 obtain ⟨v, e⟩ := hu a b
 have h1 := fun h kr => hw.pw k h kr hk
 have h2 := fun x h kr => hw.fl x (Int.ofNat (2 ^ k)) h kr (pow_ne k)
 have h3 := fun x h kr => hw.fl x (Int.ofNat 4294967296) h kr rfl
 unfold S43_1 S43_2
 simp only [obB_brV, obB_some, obBV_brV, obBV_some, cvN, bvN_lss, asBV_vB, hw.btN, h1, h2, h3, hw.of, quo_some (pow_ne k), e, asI_vI, asI_vW, obI_i, obI_w]
 repeat' (first | exact T3.ret _ _ | exact do0 hd _ _ _ | refine T3.br (fun _ => ?_) (fun _ => ?_))
theorem do3 (hw : Wd D) (hd : Dv D) (hu : Up D) (op : Int) (a b : Nat) : T3 (fun h => S43_3 D m op (Int.ofNat a) (Int.ofNat b) h) := by
 have hb : b % 32 < 32 := Nat.mod_lt _ (by omega)
 have e1 : wrapF .i64 (Int.tmod (Int.ofNat b) (Int.ofNat 32)) = Int.ofNat (b % 32) := wrapF_nat (n := b % 32) (by show b % 32 ≤ 9223372036854775807; omega)
 have e2 : wrQ .i64 (Int.ofNat 32 - Int.ofNat (b % 32)) = Int.ofNat (32 - b % 32) := by
  rw [show Int.ofNat 32 - Int.ofNat (b % 32) = Int.ofNat (32 - b % 32) from by simp; omega]
  exact wrQ_nat (by show _ ≤ 9223372036854775807; omega)
 have h1 := fun h kr => hw.pw (b % 32) h kr (by omega)
 have h2 := fun h kr => hw.pw (32 - b % 32) h kr (by omega)
 unfold S43_3
 have h32 : eqF (Int.ofNat 32) 0 = false := rfl
 have hm := convV_u (k := .i64) (tk_tmod (tk_nat b) 32)
 have hr := fun f => bc_rem (f := f) (tk_nat b) (tk_nat 32) h32
 simp only [hr, asI_vW, hm, cvN, obI_i, hw.sgN, asI_vI, e1, e2, h1, h2, hw.of, asI_vW, rem_some (pow_ne _), obI_i]
 repeat' (first | exact T3.ret _ _ | exact do1 hw hd hu _ _ _ _ _ _ (by omega) _ _ _ | refine T3.br (fun _ => ?_) (fun _ => ?_))
end
section
variable {D : CallD} {m : Nat}
theorem wd (n : Nat) (hn : 40 ≤ n) : Wd (SF tabS (n + 1)) := by
 refine ⟨fun a h kr ha => cal_of ?_, fun x h kr => cal_of ?_, fun x y h kr hy => cal_of ?_, fun k h kr hk => cal_of ?_, fun how a b h kr ha hb => cal_of ?_⟩
 ·show S37 (SF tabS n) n [vW a] h .no = _; exact sg_ok _ _ _ ha _
 ·show S62 (SF tabS n) n [vI x] h .no = _; exact of_ok _ _ _ _
 ·show S65 (SF tabS n) n [vI x, vI y] h .no = _; exact fl_ok _ _ _ _ hy _
 ·show S63 (SF tabS n) n [vI (Int.ofNat k)] h .no = _; exact pw_ok _ _ _ (by omega) (by omega) _
 ·show S64 (SF tabS n) n [vI how, vW a, vW b] h .no = _; exact bt_ok _ _ (by omega) _ _ _ ha hb _
theorem dv (n : Nat) (hn : 41 ≤ n) : Dv (SF tabS (n + 1)) := fun op a b => by
 obtain ⟨k, rfl⟩ : ∃ k, n = k + 1 := ⟨n - 1, by omega⟩
 obtain ⟨v, c, e⟩ := dv4 (m := k + 1) (wd k (by omega)) op a b
 exact ⟨v, c, fun h kr => cal_of (e h)⟩
theorem up (n : Nat) : Up (SF tabS (n + 1)) := fun a b => by
 obtain ⟨v, e⟩ := up_ok a b
 exact ⟨v, fun h kr => cal_of (e (SF tabS n) n h)⟩
theorem do_ok (op : Int) (a b : Nat) : T3 (fun h => SF tabS 60 43 [vI op, vW (Int.ofNat a), vW (Int.ofNat b)] h .no) :=
 do3 (D := SF tabS 59) (m := 59) (wd 58 (by omega)) (dv 58 (by omega)) (up 58) op a b
/-- The word and the truth value that a call answers with. -/
def resW (r : Res2) : Int := match r with | some (.ret (.tup [.int _ v, _]) _, _) => v | _ => 0
def resB (r : Res2) : Bool := match r with | some (.ret (.tup [_, .bool b]) _, _) => b | _ => false
def doR (op a b : Nat) : Res2 := SF tabS 60 43 [vI (Int.ofNat op), vW (Int.ofNat a), vW (Int.ofNat b)] ⟨.h, .leaf⟩ .no
def doW (op a b : Nat) : Int := resW (doR op a b)
def doB (op a b : Nat) : Bool := resB (doR op a b)
/-- The document's operation, as a function that always answers. -/
def doP (xs : List AV) : Option AV :=
 match xs with
 | [.int .i64 (.ofNat op), .int .u32 (.ofNat a), .int .u32 (.ofNat b)] => some (.tup [.int .u32 (doW op a b), .bool (doB op a b)])
 | _ => none
theorem do_pr (xs : List AV) (v : AV) (h : HP) (hp : doP xs = some v) : SF tabS 60 43 xs h .no = some (.ret v h, .no) := by
 unfold doP at hp
 split at hp
 ·rename_i op a b
  obtain ⟨w, c, e⟩ := do_ok (Int.ofNat op) a b
  have e0 := e ⟨.h, .leaf⟩
  have : doR op a b = some (.ret (.tup [vW w, vB c]) ⟨.h, .leaf⟩, .no) := e0
  simp only [Option.some.injEq] at hp
  subst hp
  rw [show SF tabS 60 43 [.int .i64 (.ofNat op), .int .u32 (.ofNat a), .int .u32 (.ofNat b)] h .no = some (.ret (.tup [vW w, vB c]) h, .no) from e h]
  unfold doW doB
  rw [this]; rfl
 ·simp at hp
end
end
end Go.Proofs.YtakcpnpeadkfpaaGreatDoor.Sx
