/- Long numbers: what the printed functions sum, Do, Compare of the reference answer. -/
import Derived.Test.YtakcpnpeadkfpaaGreatDoorL8
import Derived.Test.YtakcpnpeadkfpaaGreatDoorL9
import Derived.Test.YtakcpnpeadkfpaaGreatDoorSm
set_option linter.unusedVariables false
set_option linter.unusedSimpArgs false
set_option linter.unusedSectionVars false
namespace Go.Proofs.YtakcpnpeadkfpaaGreatDoor.Lg
open Go Go.Proofs.YtakcpnpeadkfpaaGreatDoor.Ev Go.Proofs.YtakcpnpeadkfpaaGreatDoor.Sx
noncomputable section
/-- A function's answer, and new things in memory. -/
def RetA (r : Res2) (h : HP) (v : AV) : Prop := ∃ h', r = some (.ret v h', .no) ∧ Wf h' ∧ Le h h'
theorem RetA.mono {r : Res2} {h0 h : HP} {v : AV} (e : Le h0 h) (x : RetA r h v) : RetA r h0 v := by
 obtain ⟨h', e1, e2, e3⟩ := x
 exact ⟨h', e1, e2, e.trans e3⟩
theorem sf_near0 {h : HP} (w : Wf h) {va vb : AV} (xa : IsN h va 0) (e : Int) (n : Nat) : SF tabS (n + 1) 97 [va, vb, vI e] h .no = some (.ret (uv 0) h, .no) := by
 rw [SF_succ, find97, enter97]
 unfold S97_7
 rw [lenN xa, asI_iv]
 rfl
theorem pk_word {a b : Nat} {i u : Int} (P : Place a b i u) : pk (i - u) (Rn (Xn a u) (Yn b u)) ≤ Ieee.double.infRung := by
 obtain ⟨p1, p2, p3⟩ := P
 have hR := R_le (Xn a u) (Yn b u)
 have hQ : Xn a u / Yn b u = Qn a b u := rfl
 rw [pk_eq p1 (by omega) (by omega)]
 exact Nat.min_le_right _ _
open Ieee in
theorem nearest_zero (s : Bool) (e : Int) : double.nearest s 0 e = double.word s 0 := by unfold Format.nearest; rw [if_pos rfl]
/-- The nearest real to a whole number times two to the e. -/
theorem sf_near1 {h : HP} (w : Wf h) {va vb : AV} {a : Nat} (xa : IsN h va a) (xb : IsN h vb 1) {e : Int} (ha : nd a ≤ 400) (he : -6000 ≤ e ∧ e ≤ 6000) (n : Nat) (hn : 20000 < n) :
  ∃ k, k ≤ Ieee.double.infRung ∧ (∀ s, Ieee.double.nearest s a e = Ieee.double.word s k) ∧ RetA (SF tabS (n + 5) 97 [va, vb, vI e] h .no) h (uv k) := by
 by_cases a0 : a = 0
 ·subst a0
  exact ⟨0, Nat.zero_le _, fun s => nearest_zero s e, h, sf_near0 w xa e (n + 4), w, Le.refl h⟩
 ·obtain ⟨v, P, h', e1, w', le'⟩ := sf_near w xa xb a0 (by decide) (e := e) ha (by decide) he n hn
  exact ⟨_, pk_word P, fun s => near_place a0 P s, h', e1, w', le'⟩
theorem find94 : tabS.run 94 = S94 := by kernel_rfl
theorem find60 : tabS.run 60 = S60 := by kernel_rfl
theorem find61 : tabS.run 61 = S61 := by kernel_rfl
theorem enter94 (D : CallD) (m : Nat) (a b : Int) (h : HP) : S94 D m [.int .u64 a, .int .u64 b] h .no = S94_1 D m a b h := rfl
theorem enter60 (D : CallD) (m : Nat) (op a b : Int) (h : HP) : S60 D m [vI op, .int .u64 a, .int .u64 b] h .no = S60_6 D m op a b h := rfl
theorem enter61 (D : CallD) (m : Nat) (op a b : Int) (h : HP) : S61 D m [vI op, .int .u64 a, .int .u64 b] h .no = S61_3 D m op a b h := rfl
theorem asI_uv (x : Int) (F : Int → Res2) : asI .u64 (AV.int .u64 x) F = F x := rfl
theorem sgn_word {s k : Nat} (hk : k ≤ Ieee.double.infRung) : sgN s k = Ieee.double.word (s == 1) k := by
 have hs : Ieee.double.signWeight = 9223372036854775808 := rfl
 unfold sgN Ieee.Format.word
 by_cases c : s = 1
 ·simp [c, hs, Nat.add_comm]
 ·simp [c]
theorem inf63 {k : Nat} (hk : k ≤ Ieee.double.infRung) : k < 2 ^ 63 := Nat.lt_of_le_of_lt hk (by decide)
theorem two_le {a k : Nat} (h : a ≤ 16 * k) : 2 ^ a ≤ 65536 ^ k := by rw [pow16]; exact Nat.pow_le_pow_right (by omega) h
theorem nd_small {a k : Nat} (h : a < 65536 ^ k) : nd a ≤ k := nd_le.2 h
open Ieee in
theorem signed_up (s : Bool) (m u : Nat) : signed s m u = if s then -((m * 2 ^ u : Nat) : Int) else ((m * 2 ^ u : Nat) : Int) := by
 unfold signed; cases s <;> simp [Nat.shiftLeft_eq]
/-- The sum of two numbers. -/
def sumW (a b : Nat) : Nat := Ieee.double.write (Option.getD ((Ieee.double.read a).sum (Ieee.double.read b)) (.number false 0 0))
theorem mN_lt (a : Nat) : mN a < 2 ^ 53 := by
 have : rN a < 4503599627370496 := Nat.mod_lt _ (by omega)
 unfold mN; split <;> omega
theorem pN_le (a : Nat) : -1074 ≤ pN a ∧ pN a ≤ 972 := by
 have : eN a < 2048 := Nat.mod_lt _ (by omega)
 unfold pN; split <;> omega
theorem sum_tail {h0 h : HP} (w : Wf h) (le : Le h0 h) {vx : AV} {x : Nat} (xx : IsN h vx x) {s : Nat} {e : Int} (hx : nd x ≤ 400) (he : -6000 ≤ e ∧ e ≤ 6000) (n : Nat) (hn : 20000 < n) :
  RetA (cal (SF tabS (n + 5)) 99 [vI (Int.ofNat 1)] h fun v1 h11 =>
   cal (SF tabS (n + 5)) 97 [vx, v1, vI e] h11 fun t66 h12 =>
   asI .u64 t66 fun t66a =>
   cal (SF tabS (n + 5)) 95 [uv s, .int .u64 t66a] h12 fun t67 h13 =>
   asI .u64 t67 fun t67a =>
   some (.ret (AV.int .u64 t67a) h13, .no)) h0 (uv (Ieee.double.nearest (s == 1) x e)) := by
 obtain ⟨v1, h1, e1, w1, le1, x1, _⟩ := sf_of w (N := 1) (by omega) (n + 4) (by omega)
 rw [cal_of e1]
 obtain ⟨k, hk, hw, h2, e2, w2, le2⟩ := sf_near1 w1 (xx.mono le1) x1 hx he n hn
 rw [cal_of e2, asI_uv, cal_of (sf_signed' (s := s) (inf63 hk) (n + 4) h2), asI_uv, sgn_word hk, ← hw]
 exact ⟨h2, rfl, w2, le.trans (le1.trans le2)⟩
theorem sf_sum {h : HP} (w : Wf h) {a b : Nat} (ha : a < 2 ^ 64) (hb : b < 2 ^ 64) (fa : eN a ≠ 2047) (fb : eN b ≠ 2047) (n : Nat) (hn : 20000 < n) : RetA (SF tabS (n + 6) 94 [uv a, uv b] h .no) h (uv (sumW a b)) := by
 rw [SF_succ, find94, enter94]
 unfold S94_1
 rw [parts_k ha, parts_k hb, num_k ha, num_k hb]
 have ma := mN_lt a
 have mb := mN_lt b
 have pa := pN_le a
 have pb := pN_le b
 have key : ∀ L : Int, L = min (pN a) (pN b) → RetA (S94_0 (SF tabS (n + 5)) (n + 5) (Int.ofNat (sN a)) (Int.ofNat (sN b)) (Int.ofNat (mN a)) (pN a) (Int.ofNat (mN b)) (pN b) L h) h (uv (sumW a b)) := by
  intro L hL
  have l1 : L ≤ pN a := by omega
  have l2 : L ≤ pN b := by omega
  have l3 : -1074 ≤ L := by omega
  unfold S94_0
  obtain ⟨v1, h1, e1, w1, le1, x1, _⟩ := sf_of w (N := mN a) (by omega) (n + 4) (by omega)
  rw [cal_of e1]
  obtain ⟨p, hp⟩ : ∃ p : Nat, pN a - L = (p : Int) := ⟨(pN a - L).toNat, by omega⟩
  obtain ⟨q, hq⟩ : ∃ q : Nat, pN b - L = (q : Int) := ⟨(pN b - L).toNat, by omega⟩
  have n1 : nd (mN a) ≤ 4 := nd_small (by omega)
  have n2 : nd (mN b) ≤ 4 := nd_small (by omega)
  have ep : wrQ .i64 (pN a - L) = Int.ofNat p := by rw [wr_id (by omega) (by omega)]; exact hp
  have eq : wrQ .i64 (pN b - L) = Int.ofNat q := by rw [wr_id (by omega) (by omega)]; exact hq
  simp only [ep, eq]
  obtain ⟨v2, h2, e2, w2, le2, x2, _⟩ := sf_twice w1 x1 (q := p) (by omega) (by omega) (n + 2) (by omega)
  rw [cal_of e2]
  obtain ⟨v3, h3, e3, w3, le3, x3, _⟩ := sf_of w2 (N := mN b) (by omega) (n + 4) (by omega)
  rw [cal_of e3]
  obtain ⟨v4, h4, e4, w4, le4, x4, _⟩ := sf_twice w3 x3 (q := q) (by omega) (by omega) (n + 2) (by omega)
  rw [cal_of e4]
  have y2 := (x2.mono le3).mono le4
  have le : Le h h4 := le1.trans (le2.trans (le3.trans le4))
  -- bounds
  have px : mN a * 2 ^ p < 65536 ^ 140 := Nat.lt_of_lt_of_le (Nat.mul_lt_mul_of_pos_right ma (Nat.two_pow_pos p)) (by
   rw [← Nat.pow_add]
   exact two_le (k := 140) (by omega))
  have py : mN b * 2 ^ q < 65536 ^ 140 := Nat.lt_of_lt_of_le (Nat.mul_lt_mul_of_pos_right mb (Nat.two_pow_pos q)) (by
   rw [← Nat.pow_add]
   exact two_le (k := 140) (by omega))
  have nx := nd_small px
  have ny := nd_small py
  have nz : nd (mN a * 2 ^ p + mN b * 2 ^ q) ≤ 400 := by
   refine Nat.le_trans (nd_small (k := 141) ?_) (by omega)
   refine Nat.lt_of_lt_of_le (Nat.add_lt_add px py) ?_
   rw [Nat.pow_succ 65536 140, ← Nat.mul_two]
   exact Nat.mul_le_mul_left _ (by decide)
  clear px py
  generalize hX : mN a * 2 ^ p = X at *
  generalize hY : mN b * 2 ^ q = Y at *
  -- what it is by IEEE
  have hsum : ∀ T : Int, T = (if sN a == 1 then -(X : Int) else X) + (if sN b == 1 then -(Y : Int) else Y) → sumW a b = Ieee.double.nearest (if T = 0 then (sN a == 1) && (sN b == 1) else decide (T < 0)) T.natAbs L := by
   intro T hT
   unfold sumW
   rw [read_fin ha fa, read_fin hb fb]
   show Ieee.double.write (Ieee.Datum.number _ _ _) = _
   rw [← hL, show (pN a - L).toNat = p by omega, show (pN b - L).toNat = q by omega, signed_up, signed_up, hX, hY, ← hT]
   rfl
  have sa : sN a = 0 ∨ sN a = 1 := by unfold sN; omega
  have sb : sN b = 0 ∨ sN b = 1 := by unfold sN; omega
  simp only [eq_nat]
  rw [br_if]
  split
  ·rename_i g
   obtain ⟨v5, h5, e5, w5, le5, x5, _⟩ := sf_plus w4 y2 x4 ⟨by omega, by omega⟩ (n + 3) (by omega)
   rw [cal_of e5]
   have := sum_tail w5 (le.trans le5) x5 (s := sN a) (e := L) nz (by omega) n hn
   have ez : sumW a b = Ieee.double.nearest (sN a == 1) (X + Y) L := by
    rw [hsum _ rfl, ← g]
    rcases sa with s | s
    ·rw [s]
     have : ((if ((0 : Nat) == 1) = true then -(X : Int) else (X : Int)) + (if ((0 : Nat) == 1) = true then -(Y : Int) else (Y : Int))) = ((X + Y : Nat) : Int) := by simp
     rw [this, Int.natAbs_natCast]
     congr 1
     split
     ·rfl
     ·exact decide_eq_false (by omega)
    ·rw [s]
     have : ((if ((1 : Nat) == 1) = true then -(X : Int) else (X : Int)) + (if ((1 : Nat) == 1) = true then -(Y : Int) else (Y : Int))) = -((X + Y : Nat) : Int) := by simp; omega
     rw [this, Int.natAbs_neg, Int.natAbs_natCast]
     congr 1
     split
     ·rfl
     ·exact decide_eq_true (by omega)
   rw [ez]; exact this
  ·rename_i g
   rw [cal_of (sf_cmp y2 x4 (n + 3) ⟨by omega, by omega⟩ ⟨by omega, by omega⟩), asI_iv]
   have eT : (if (sN a == 1) = true then -(X : Int) else (X : Int)) + (if (sN b == 1) = true then -(Y : Int) else (Y : Int)) = if sN a = 1 then (Y : Int) - X else (X : Int) - Y := by
    rcases sa with s | s <;> rcases sb with t | t <;> simp [s, t] at g ⊢ <;> omega
   have hsum := hsum _ eT.symm
   unfold cmpN
   by_cases c1 : X < Y
   ·rw [if_pos c1]
    simp only [eq_dec]
    rw [decide_eq_false (by decide), br_f, decide_eq_false (by decide), br_f]
    obtain ⟨v5, h5, e5, w5, le5, x5, _⟩ := sf_minus w4 x4 y2 (Nat.le_of_lt c1) (by omega) (n + 3) (by omega)
    rw [cal_of e5]
    have := sum_tail w5 (le.trans le5) x5 (s := sN b) (e := L) (Nat.le_trans (nd_mono (Nat.sub_le _ _)) (by omega)) (by omega) n hn
    have ez : sumW a b = Ieee.double.nearest (sN b == 1) (Y - X) L := by
     rw [hsum]
     rcases sa with s | s <;> rcases sb with t | t
     ·omega
     ·rw [s, t, if_neg (by omega), if_neg (by omega), decide_eq_true (by omega), show ((X : Int) - Y).natAbs = Y - X by omega]; rfl
     ·rw [s, t, if_pos rfl, if_neg (by omega), decide_eq_false (by omega), show ((Y : Int) - X).natAbs = Y - X by omega]; rfl
     ·omega
    rw [ez]; exact this
   ·rw [if_neg c1]
    by_cases c2 : Y < X
    ·rw [if_pos c2]
     simp only [eq_dec]
     rw [decide_eq_false (by decide), br_f, decide_eq_true (by decide), br_t]
     obtain ⟨v5, h5, e5, w5, le5, x5, _⟩ := sf_minus w4 y2 x4 (Nat.le_of_lt c2) (by omega) (n + 3) (by omega)
     rw [cal_of e5]
     have := sum_tail w5 (le.trans le5) x5 (s := sN a) (e := L) (Nat.le_trans (nd_mono (Nat.sub_le _ _)) (by omega)) (by omega) n hn
     have ez : sumW a b = Ieee.double.nearest (sN a == 1) (X - Y) L := by
      rw [hsum]
      rcases sa with s | s <;> rcases sb with t | t
      ·omega
      ·rw [s, t, if_neg (by omega), if_neg (by omega), decide_eq_false (by omega), show ((X : Int) - Y).natAbs = X - Y by omega]; rfl
      ·rw [s, t, if_pos rfl, if_neg (by omega), decide_eq_true (by omega), show ((Y : Int) - X).natAbs = X - Y by omega]; rfl
      ·omega
     rw [ez]; exact this
    ·rw [if_neg c2]
     have c3 : X = Y := by omega
     simp only [eq_dec]
     rw [decide_eq_true (by decide), br_t]
     have ez : sumW a b = 0 := by
      rw [hsum, c3]
      have : (if sN a = 1 then (Y : Int) - Y else (Y : Int) - Y) = 0 := by split <;> omega
      rw [this, if_pos rfl]
      have : ((sN a == 1) && (sN b == 1)) = false := by
       rcases sa with s | s <;> rcases sb with t | t <;> simp [s, t]
       omega
      rw [this]; exact nearest_zero _ _
     rw [ez]
     exact ⟨h4, rfl, w4, le⟩
 simp only [lt_dec]
 by_cases c : pN b < pN a
 ·rw [decide_eq_true c, br_t]; exact key _ (by omega)
 ·rw [decide_eq_false c, br_f]; exact key _ (by omega)
end
end Go.Proofs.YtakcpnpeadkfpaaGreatDoor.Lg
