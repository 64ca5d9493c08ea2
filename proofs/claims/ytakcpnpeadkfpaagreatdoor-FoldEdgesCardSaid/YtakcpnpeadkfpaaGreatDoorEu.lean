/- FoldEdges: the law's printed function, stage by stage. -/
import Derived.Test.YtakcpnpeadkfpaaGreatDoorEt
set_option linter.unusedVariables false
set_option linter.unusedSimpArgs false
set_option linter.unusedSectionVars false
namespace Go.Proofs.YtakcpnpeadkfpaaGreatDoor.Fg
open Go Go.Proofs.YtakcpnpeadkfpaaGreatDoor.Ev Go.Proofs.YtakcpnpeadkfpaaGreatDoor.Sx
noncomputable section
theorem cc {n : Nat} {t : AV} {h : HP} {v : AV} (e : cellsV n t h = some v) (k : AV → Res2) : cellsC n t h k = k v := by rw [cellsC_eq, e]; rfl
theorem ext0 (x : AV) (l : List AV) (F : AV → Res2) : extC (.tup (x :: l)) 0 F = F x := rfl
theorem ext1 (x y : AV) (l : List AV) (F : AV → Res2) : extC (.tup (x :: y :: l)) 1 F = F y := rfl
theorem tg (op A B : AV) (F : Nat × List AV → Res2) : obQ (target .leaf (.val (.c (.fn 13 [] []))) [(.c op), (.c A), (.c B)]) F = F (13, [op, A, B]) := by kernel_rfl
theorem bneq (a b : Nat) (k : AV → Res2) : binC .neq (wv a) (wv b) k = k (.bool (!Nat.beq a b)) := by kernel_rfl
theorem beql (a b : Nat) (k : AV → Res2) : binC .eql (wv a) (wv b) k = k (.bool (Nat.beq a b)) := by kernel_rfl
theorem bgtr (a b : Nat) (k : AV → Res2) : binC .gtr (wv a) (wv b) k = k (.bool (Nat.ble (b + 1) a)) := by kernel_rfl
theorem badd {a b : Nat} (h : a + b ≤ 4294967295) (k : AV → Res2) : binC .add (wv a) (wv b) k = k (wv (a + b)) := by
  have e : binC .add (wv a) (wv b) k = k (AV.int .u32 (wrapF .u32 (Int.ofNat (a + b)))) := by kernel_rfl
  have e2 : wrapF .u32 (Int.ofNat (a + b)) = Int.ofNat (a + b) := by
    show (bif Nat.ble (a + b) 4294967295 then Int.ofNat (a + b) else _) = _
    rw [show Nat.ble (a + b) 4294967295 = true from by rw [Nat.ble_eq]; exact h]; rfl
  rw [e, e2]
theorem ag {g : Option (Pos × Bool)} {d : Pos} {fr : T AV} {h : HP} {v t : AV} {q : Opd} {l : List Re} (w : wantedA g fr = some true) (e1 : opv fr q = some t) (e2 : T.get d fr = some v) (e3 : cellsV 5 t h = some v) (e4 : beqA v v = true) (e5 : again l fr h = true) : again (⟨g, .cells 5 q, d⟩ :: l) fr h = true := by
  show (Bool.casesOn (again1 ⟨g, .cells 5 q, d⟩ fr h) false (again l fr h) : Bool) = true
  have : again1 ⟨g, .cells 5 q, d⟩ fr h = true := by
    unfold again1
    rw [w]
    show (Option.casesOn (ob (opv fr q) fun a => cellsV 5 a h) false (fun v => Option.casesOn (T.get d fr) false (fun w => beqA v w)) : Bool) = true
    rw [e1]
    show (Option.casesOn (cellsV 5 t h) false (fun v => Option.casesOn (T.get d fr) false (fun w => beqA v w)) : Bool) = true
    rw [e3, e2]
    exact e4
  rw [this, e5]
theorem ag0 (fr : T AV) (h : HP) : again [] fr h = true := rfl
theorem bq (x : Nat) : beqA (cX x) (cX x) = true := by
  have e : beqA (cX x) (cX x) = (Bool.rec false true (Nat.beq x x) : Bool) := by kernel_rfl
  rw [e, show Nat.beq x x = true by rw [Nat.beq_eq]]
abbrev Xs (x : Nat) : List AV := [iv 2, wv 0, uv x, .str [], iv 0]
abbrev Hc (m : Int) (x y : Nat) : HP := HP.newQ (HP.newQ (gH m) (.cells true (Xs x))) (.cells true (Xs y))
abbrev T5 (m : Int) : AV := AV.ptr (HP.nxQ (gH m)) 0
abbrev Z5 : List AV := [(kI 0), (.int .u32 (.ofNat 0)), (.int .u64 (.ofNat 0)), (.str []), (kI 0)]
abbrev T6 (m : Int) : AV := AV.ptr (HP.nxQ (HP.newQ (gH m) (.cells true Z5))) 0
theorem st2 (m : Int) (x y : Nat) (k : HP → Res2) : stsC 5 (T5 m) (cX x) (HP.newQ (HP.newQ (gH m) (.cells true Z5)) (.cells true Z5)) (fun h17 => stsC 5 (T6 m) (cX y) h17 k) = k (Hc m x y) := by kernel_rfl
theorem vX (m : Int) (x y : Nat) : cellsV 5 (T5 m) (Hc m x y) = some (cX x) := by kernel_rfl
theorem vY (m : Int) (x y : Nat) : cellsV 5 (T6 m) (Hc m x y) = some (cX y) := by kernel_rfl
def B (c a b : Nat) : Nat := bW (bV c a b)
theorem B_le (c a b : Nat) : B c a b ≤ 1 := by unfold B; cases bV c a b <;> decide
theorem and2047 (p : Nat) : intBin .and .u64 (Int.ofNat p) (Int.ofNat 2047) = some (uv (Nat.land p 2047)) := by
  have e : intBin .and .u64 (Int.ofNat p) (Int.ofNat 2047) = some (AV.int .u64 (wrapF .u64 (Int.ofNat (Nat.land p 2047)))) := by kernel_rfl
  have e2 : wrapF .u64 (Int.ofNat (Nat.land p 2047)) = Int.ofNat (Nat.land p 2047) := by
    have : Nat.land p 2047 ≤ 2047 := Nat.and_le_right
    show (bif Nat.ble (Nat.land p 2047) 18446744073709551615 then Int.ofNat (Nat.land p 2047) else _) = _
    rw [show Nat.ble (Nat.land p 2047) 18446744073709551615 = true from by rw [Nat.ble_eq]; omega]; rfl
  rw [e, e2]
theorem shr52 (x : Nat) : shrF .u64 (Int.ofNat x) 52 = Int.ofNat (x / 4503599627370496) := by
  show (Int.ofNat x).fdiv (2 ^ 52) = _
  rw [show ((2 : Int) ^ 52) = ((4503599627370496 : Nat) : Int) by decide]
  exact (Int.ofNat_fdiv x 4503599627370496).symm
def fin (x : Nat) : Bool := ((Nat.beq (subN x x) 0 == notQ (Nat.beq (Nat.land (x / 4503599627370496) 2047) 2047)) != false)
section
variable {D : CallD} (hA : ∀ h k, cal D 6 [] h k = k (.bool true) h) (hC : ∀ a h k, cal D 12 [uv a] h k = k (uv (canonN a)) h)
  (hb : ∀ (c a b : Nat) (h : HP) (kr : AV → HP → Res2) (kp : Chain → HP → Res2), c < 6 → calC D 13 [.str (opL c), cX a, cX b] h kr kp = kr (wv (B c a b)) h)
  (h7 : ∀ a b h k, cal D 7 [.str [45], cX a, cX b] h k = k (.tup [.agg [iv 2, wv 0, uv (subN a b), .str [], iv 0], iv 0]) h)
  (n : Nat) (m : Int) (x y : Nat)
  (F1 : B 0 x y + B 1 x y = 1) (F2 : B 2 x y = B 3 y x) (F3 : B 4 x y = B 5 y x) (F4 : B 2 x x = 0) (F5 : B 2 x y + B 5 x y ≤ 1)
  (F6 : B 0 x x = B 4 x x) (F7 : B 0 x x = 0 → B 1 x y = 1 ∧ B 2 x y = 0 ∧ B 3 x y = 0 ∧ B 4 x y = 0 ∧ B 5 x y = 0) (F8 : fin x = true)
abbrev H22 (m : Int) (x y : Nat) : HP := HP.newQ (Hc m x y) (.cells true [iv 2, wv 0, uv (subN x x), .str [], iv 0])
 include h7 F8 in
theorem s1 : S5_1 D n (T5 m) (Hc m x y) = some (.ret (.bool true) (H22 m x y), .no) := by
  unfold S5_1
  refine (cc (vX m x y) _).trans ?_
  refine (cc (vX m x y) _).trans ?_
  refine (h7 x x _ _).trans ?_
  refine (ext0 _ _ _).trans ?_
  refine (ext1 _ _ _ _).trans ?_
  refine (asI_i _ _).trans ?_
  have e : ∀ k : HP → Res2, stsC 5 (AV.ptr (HP.nxQ (Hc m x y)) 0) (.agg [iv 2, wv 0, uv (subN x x), .str [], iv 0]) (HP.newQ (Hc m x y) (.cells true Z5)) k = k (H22 m x y) := fun k => by kernel_rfl
  refine (e _).trans ?_
  have eX : (cellCV (AV.ptr (HP.nxQ (Hc m x y)) (Nat.add 0 2)) (H22 m x y) fun vt124 => asIV .u64 vt124 fun t124 =>
      let t125 := eqQ t124 (Int.ofNat 0)
      faCV 2 (T5 m) fun t126 =>
      cellCV t126 (H22 m x y) fun vt127 => asIV .u64 vt127 fun t127 =>
      let t128 := shrF .u64 t127 52
      obIV .u64 (intBin .and .u64 t128 (Int.ofNat 2047)) fun t129 =>
      let t130 := notQ (eqQ t129 (Int.ofNat 2047))
      let t131 := ((t125 == t130) != false)
      some (vB t131)) = some (.bool (fin x)) := by
    have e1 : (cellCV (AV.ptr (HP.nxQ (Hc m x y)) (Nat.add 0 2)) (H22 m x y) fun vt124 => asIV .u64 vt124 fun t124 =>
      let t125 := eqQ t124 (Int.ofNat 0)
      faCV 2 (T5 m) fun t126 =>
      cellCV t126 (H22 m x y) fun vt127 => asIV .u64 vt127 fun t127 =>
      let t128 := shrF .u64 t127 52
      obIV .u64 (intBin .and .u64 t128 (Int.ofNat 2047)) fun t129 =>
      let t130 := notQ (eqQ t129 (Int.ofNat 2047))
      let t131 := ((t125 == t130) != false)
      some (vB t131)) = obIV .u64 (intBin .and .u64 (shrF .u64 (Int.ofNat x) 52) (Int.ofNat 2047)) fun t129 => some (vB ((Nat.beq (subN x x) 0 == notQ (eqQ t129 (Int.ofNat 2047))) != false)) := by kernel_rfl
    rw [e1, shr52, and2047]
    rfl
  rw [F8] at eX
  have e2 : ∀ (X : Option AV) (F : Bool → Res2), X = some (.bool true) → obB (brV (eqQ (Int.ofNat 0) (Int.ofNat 0)) X (some (vB false))) F = F true := fun X F hX => by subst hX; kernel_rfl
  exact e2 _ _ eX
 include h7 F8 in
theorem s4 : S5_4 D n (T5 m) false (Hc m x y) = some (.ret (.bool true) (H22 m x y), .no) := by
  unfold S5_4
  exact (br_f _ _).trans (s1 h7 n m x y F8)
 include h7 F8 in
theorem s3 : S5_3 D n (T5 m) false false (Hc m x y) = some (.ret (.bool true) (H22 m x y), .no) := by
  unfold S5_3
  exact s4 h7 n m x y F8
 include h7 F8 in
theorem s2 : S5_2 D n (T5 m) true false (Hc m x y) = some (.ret (.bool true) (H22 m x y), .no) := by
  unfold S5_2
  exact s3 h7 n m x y F8
 include hb h7 F6 F7 F8 in
theorem s0 : S5_0 D n (T5 m) (T6 m) (.fn 13 [] []) (Hc m x y) = some (.ret (.bool true) (H22 m x y), .no) := by
  unfold S5_0
  refine (cc (vX m x y) _).trans ?_
  refine (cc (vX m x y) _).trans ?_
  refine (tg _ _ _ _).trans ?_
  refine (hb 0 x x _ _ _ (by decide)).trans ?_
  refine (asI_w _ _).trans ?_
  refine (beql _ _ _).trans ?_
  refine (asB_b _ _).trans ?_
  refine (cc (vX m x y) _).trans ?_
  refine (cc (vX m x y) _).trans ?_
  refine (tg _ _ _ _).trans ?_
  refine (hb 4 x x _ _ _ (by decide)).trans ?_
  refine (asI_w _ _).trans ?_
  refine (beql _ _ _).trans ?_
  refine (asB_b _ _).trans ?_
  refine (br_ff (by rw [F6]; generalize Nat.beq (B 4 x x) 0 = c; cases c <;> rfl) _ _).trans ?_
  by_cases g : B 0 x x = 0
  · obtain ⟨k1, k2, k3, k4, k5⟩ := F7 g
    refine (br_tt (by rw [Nat.beq_eq]; exact g) _ _).trans ?_
    refine (cc (vX m x y) _).trans ?_
    refine (cc (vY m x y) _).trans ?_
    refine (tg _ _ _ _).trans ?_
    refine (hb 1 x y _ _ _ (by decide)).trans ?_
    refine (asI_w _ _).trans ?_
    refine (bneq _ _ _).trans ?_
    refine (asB_b _ _).trans ?_
    refine (br_ff (by rw [k1]; rfl) _ _).trans ?_
    refine (cc (vX m x y) _).trans ?_
    refine (cc (vY m x y) _).trans ?_
    refine (cc (vX m x y) _).trans ?_
    refine (cc (vY m x y) _).trans ?_
    refine (cc (vX m x y) _).trans ?_
    refine (cc (vY m x y) _).trans ?_
    refine (cc (vX m x y) _).trans ?_
    refine (cc (vY m x y) _).trans ?_
    refine (tg _ _ _ _).trans ?_
    refine (hb 2 x y _ _ _ (by decide)).trans ?_
    refine (br_tt (ag (by kernel_rfl) (by kernel_rfl) (by kernel_rfl) (vX m x y) (bq x) (ag (by kernel_rfl) (by kernel_rfl) (by kernel_rfl) (vY m x y) (bq y) (ag (by kernel_rfl) (by kernel_rfl) (by kernel_rfl) (vX m x y) (bq x) (ag (by kernel_rfl) (by kernel_rfl) (by kernel_rfl) (vY m x y) (bq y) (ag (by kernel_rfl) (by kernel_rfl) (by kernel_rfl) (vX m x y) (bq x) (ag (by kernel_rfl) (by kernel_rfl) (by kernel_rfl) (vY m x y) (bq y) (ag0 _ _))))))) _ _).trans ?_
    refine (asI_w _ _).trans ?_
    refine (tg _ _ _ _).trans ?_
    refine (hb 3 x y _ _ _ (by decide)).trans ?_
    refine (br_tt (ag (by kernel_rfl) (by kernel_rfl) (by kernel_rfl) (vX m x y) (bq x) (ag (by kernel_rfl) (by kernel_rfl) (by kernel_rfl) (vY m x y) (bq y) (ag (by kernel_rfl) (by kernel_rfl) (by kernel_rfl) (vX m x y) (bq x) (ag (by kernel_rfl) (by kernel_rfl) (by kernel_rfl) (vY m x y) (bq y) (ag0 _ _))))) _ _).trans ?_
    refine (asI_w _ _).trans ?_
    refine (badd (by rw [k2, k3]; decide) _).trans ?_
    refine (asI_w _ _).trans ?_
    refine (tg _ _ _ _).trans ?_
    refine (hb 4 x y _ _ _ (by decide)).trans ?_
    refine (br_tt (ag (by kernel_rfl) (by kernel_rfl) (by kernel_rfl) (vX m x y) (bq x) (ag (by kernel_rfl) (by kernel_rfl) (by kernel_rfl) (vY m x y) (bq y) (ag0 _ _))) _ _).trans ?_
    refine (asI_w _ _).trans ?_
    refine (badd (by rw [k2, k3, k4]; decide) _).trans ?_
    refine (asI_w _ _).trans ?_
    refine (tg _ _ _ _).trans ?_
    refine (hb 5 x y _ _ _ (by decide)).trans ?_
    refine (asI_w _ _).trans ?_
    refine (badd (by rw [k2, k3, k4, k5]; decide) _).trans ?_
    refine (asI_w _ _).trans ?_
    refine (bneq _ _ _).trans ?_
    refine (asB_b _ _).trans ?_
    rw [k2, k3, k4, k5]
    exact s2 h7 n m x y F8
  · have g1 : Nat.beq (B 0 x x) 0 = false := by
      rw [Bool.eq_false_iff, Ne, Nat.beq_eq]; exact g
    refine (br_ff g1 _ _).trans ?_
    exact s3 h7 n m x y F8
 include hb h7 F6 F7 F8 in
theorem s9 : S5_9 D n (T5 m) (T6 m) (.fn 13 [] []) false (Hc m x y) = some (.ret (.bool true) (H22 m x y), .no) := by
  unfold S5_9
  exact (br_f _ _).trans (s0 hb h7 n m x y F6 F7 F8)
 include hb h7 F5 F6 F7 F8 in
theorem s8 : S5_8 D n (T5 m) (T6 m) (.fn 13 [] []) false (Hc m x y) = some (.ret (.bool true) (H22 m x y), .no) := by
  unfold S5_8
  refine (br_f _ _).trans ?_
  refine (cc (vX m x y) _).trans ?_
  refine (cc (vY m x y) _).trans ?_
  refine (cc (vX m x y) _).trans ?_
  refine (cc (vY m x y) _).trans ?_
  refine (tg _ _ _ _).trans ?_
  refine (hb 2 x y _ _ _ (by decide)).trans ?_
  refine (br_tt (ag (by kernel_rfl) (by kernel_rfl) (by kernel_rfl) (vX m x y) (bq x) (ag (by kernel_rfl) (by kernel_rfl) (by kernel_rfl) (vY m x y) (bq y) (ag0 _ _))) _ _).trans ?_
  refine (asI_w _ _).trans ?_
  refine (tg _ _ _ _).trans ?_
  refine (hb 5 x y _ _ _ (by decide)).trans ?_
  refine (asI_w _ _).trans ?_
  refine (badd (by omega) _).trans ?_
  refine (asI_w _ _).trans ?_
  refine (bgtr _ _ _).trans ?_
  refine (asB_b _ _).trans ?_
  have g : Nat.ble (1 + 1) (B 2 x y + B 5 x y) = false := by
    rw [Bool.eq_false_iff, Ne, Nat.ble_eq]; omega
  rw [g]
  exact s9 hb h7 n m x y F6 F7 F8
 include hb h7 F4 F5 F6 F7 F8 in
theorem s7 : S5_7 D n (T5 m) (T6 m) (.fn 13 [] []) false (Hc m x y) = some (.ret (.bool true) (H22 m x y), .no) := by
  unfold S5_7
  refine (br_f _ _).trans ?_
  refine (cc (vX m x y) _).trans ?_
  refine (cc (vX m x y) _).trans ?_
  refine (tg _ _ _ _).trans ?_
  refine (hb 2 x x _ _ _ (by decide)).trans ?_
  refine (asI_w _ _).trans ?_
  refine (bneq _ _ _).trans ?_
  refine (asB_b _ _).trans ?_
  rw [F4]
  exact s8 hb h7 n m x y F5 F6 F7 F8
 include hb h7 F3 F4 F5 F6 F7 F8 in
theorem s6 : S5_6 D n (T5 m) (T6 m) (.fn 13 [] []) false (Hc m x y) = some (.ret (.bool true) (H22 m x y), .no) := by
  unfold S5_6
  refine (br_f _ _).trans ?_
  refine (cc (vX m x y) _).trans ?_
  refine (cc (vY m x y) _).trans ?_
  refine (cc (vY m x y) _).trans ?_
  refine (cc (vX m x y) _).trans ?_
  refine (tg _ _ _ _).trans ?_
  refine (hb 4 x y _ _ _ (by decide)).trans ?_
  refine (br_tt (ag (by kernel_rfl) (by kernel_rfl) (by kernel_rfl) (vY m x y) (bq y) (ag (by kernel_rfl) (by kernel_rfl) (by kernel_rfl) (vX m x y) (bq x) (ag0 _ _))) _ _).trans ?_
  refine (asI_w _ _).trans ?_
  refine (tg _ _ _ _).trans ?_
  refine (hb 5 y x _ _ _ (by decide)).trans ?_
  refine (asI_w _ _).trans ?_
  refine (bneq _ _ _).trans ?_
  refine (asB_b _ _).trans ?_
  rw [F3, show Nat.beq (B 5 y x) (B 5 y x) = true by rw [Nat.beq_eq]]
  exact s7 hb h7 n m x y F4 F5 F6 F7 F8
end
section
variable {D : CallD} (hA : ∀ h k, cal D 6 [] h k = k (.bool true) h) (hC : ∀ a h k, cal D 12 [uv a] h k = k (uv (canonN a)) h)
  (hb : ∀ (c a b : Nat) (h : HP) (kr : AV → HP → Res2) (kp : Chain → HP → Res2), c < 6 → calC D 13 [.str (opL c), cX a, cX b] h kr kp = kr (wv (B c a b)) h)
  (h7 : ∀ a b h k, cal D 7 [.str [45], cX a, cX b] h k = k (.tup [.agg [iv 2, wv 0, uv (subN a b), .str [], iv 0], iv 0]) h)
  (n : Nat) (m : Int) (a b x y : Nat) (hx : x = canonN a) (hy : y = canonN b)
  (F1 : B 0 x y + B 1 x y = 1) (F2 : B 2 x y = B 3 y x) (F3 : B 4 x y = B 5 y x) (F4 : B 2 x x = 0) (F5 : B 2 x y + B 5 x y ≤ 1)
  (F6 : B 0 x x = B 4 x x) (F7 : B 0 x x = 0 → B 1 x y = 1 ∧ B 2 x y = 0 ∧ B 3 x y = 0 ∧ B 4 x y = 0 ∧ B 5 x y = 0) (F8 : fin x = true)
 include hA hC hb h7 hx hy F1 F2 F3 F4 F5 F6 F7 F8 in
theorem s11 : S5_11 D n (Int.ofNat a) (Int.ofNat b) (gH m) = some (.ret (.bool true) (H22 m x y), .no) := by
  unfold S5_11
  refine (hA _ _).trans ?_
  refine (asB_b _ _).trans ?_
  refine (br_f _ _).trans ?_
  refine (hC _ _ _).trans ?_
  refine (asI_u _ _).trans ?_
  refine (hC _ _ _).trans ?_
  refine (asI_u _ _).trans ?_
  rw [← hx, ← hy]
  refine (st2 m x y _).trans ?_
  refine (cc (vX m x y) _).trans ?_
  refine (cc (vY m x y) _).trans ?_
  refine (cc (vX m x y) _).trans ?_
  refine (cc (vY m x y) _).trans ?_
  refine (hb 0 x y _ _ _ (by decide)).trans ?_
  refine (br_tt (ag (by kernel_rfl) (by kernel_rfl) (by kernel_rfl) (vX m x y) (bq x) (ag (by kernel_rfl) (by kernel_rfl) (by kernel_rfl) (vY m x y) (bq y) (ag0 _ _))) _ _).trans ?_
  refine (asI_w _ _).trans ?_
  refine (hb 1 x y _ _ _ (by decide)).trans ?_
  refine (asI_w _ _).trans ?_
  refine (badd (by omega) _).trans ?_
  refine (asI_w _ _).trans ?_
  refine (bneq _ _ _).trans ?_
  refine (asB_b _ _).trans ?_
  rw [F1]
  refine (br_f _ _).trans ?_
  refine (cc (vX m x y) _).trans ?_
  refine (cc (vY m x y) _).trans ?_
  refine (cc (vY m x y) _).trans ?_
  refine (cc (vX m x y) _).trans ?_
  refine (hb 2 x y _ _ _ (by decide)).trans ?_
  refine (br_tt (ag (by kernel_rfl) (by kernel_rfl) (by kernel_rfl) (vY m x y) (bq y) (ag (by kernel_rfl) (by kernel_rfl) (by kernel_rfl) (vX m x y) (bq x) (ag0 _ _))) _ _).trans ?_
  refine (asI_w _ _).trans ?_
  refine (hb 3 y x _ _ _ (by decide)).trans ?_
  refine (asI_w _ _).trans ?_
  refine (bneq _ _ _).trans ?_
  refine (asB_b _ _).trans ?_
  rw [F2, show Nat.beq (B 3 y x) (B 3 y x) = true by rw [Nat.beq_eq]]
  exact s6 hb h7 n m x y F3 F4 F5 F6 F7 F8
end
end
end Go.Proofs.YtakcpnpeadkfpaaGreatDoor.Fg
