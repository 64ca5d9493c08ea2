/- FoldEdges: the plain facts, and the run. -/
import Derived.Test.YtakcpnpeadkfpaaGreatDoorEu
set_option linter.unusedVariables false
set_option linter.unusedSimpArgs false
set_option linter.unusedSectionVars false
namespace Go.Proofs.YtakcpnpeadkfpaaGreatDoor.Fg
open Go Go.Proofs.YtakcpnpeadkfpaaGreatDoor.Ev Go.Proofs.YtakcpnpeadkfpaaGreatDoor.Sx
noncomputable section
theorem lt_is (a b : Nat) : ltB a b = Rl.lt a b := rfl
theorem eq_is (a b : Nat) : eqB a b = Rl.eq a b := rfl
theorem le_is (a b : Nat) : leB a b = (Rl.lt a b || Rl.eq a b) := rfl
theorem nan_all {a b : Nat} (h : (Rl.nan a || Rl.nan b) = true) : Rl.lt a b = false ∧ Rl.eq a b = false := by
  have k : (Ieee.double.read a).order (Ieee.double.read b) = none := by
    rw [Bool.or_eq_true] at h
    rcases h with h | h
    · exact Rl.order_nan_left h
    · exact Rl.order_nan_right h
  unfold Rl.lt Rl.eq
  rw [k]; exact ⟨rfl, rfl⟩
theorem lt_self (a : Nat) : Rl.lt a a = false := by
  cases h : Rl.nan a with
  | true => exact (nan_all (by rw [h]; rfl)).1
  | false =>
    have := Rl.lt_iff h h
    cases e : Rl.lt a a with
    | false => rfl
    | true => exact absurd (this.1 e) (by omega)
theorem lt_asym {a b : Nat} (h : Rl.lt a b = true) : Rl.lt b a = false ∧ Rl.eq b a = false := by
  cases hn : (Rl.nan a || Rl.nan b) with
  | true => rw [(nan_all hn).1] at h; exact Bool.noConfusion h
  | false =>
    have hn' : (Rl.nan b || Rl.nan a) = false := by rw [Bool.or_comm]; exact hn
    rcases Rl.tri b a hn' with ⟨h1, h2, h3⟩ | ⟨h1, h2, h3⟩ | ⟨h1, h2, h3⟩
    · rw [h2] at h; exact Bool.noConfusion h
    · exact ⟨h1, h3⟩
    · rw [h2] at h; exact Bool.noConfusion h
theorem eq_self' (a : Nat) : Rl.eq a a = !Rl.nan a := by
  cases h : Rl.nan a with
  | true => exact (nan_all (by rw [h]; rfl)).2
  | false => exact (Rl.eq_iff h h).2 ⟨rfl, rfl⟩
theorem b0 (x y : Nat) : B 0 x y = bW (Rl.eq x y) := rfl
theorem b1 (x y : Nat) : B 1 x y = bW (!Rl.eq x y) := rfl
theorem b2 (x y : Nat) : B 2 x y = bW (Rl.lt x y) := rfl
theorem b3 (x y : Nat) : B 3 x y = bW (Rl.lt y x) := rfl
theorem b4 (x y : Nat) : B 4 x y = bW (Rl.lt x y || Rl.eq x y) := rfl
theorem b5 (x y : Nat) : B 5 x y = bW (Rl.lt y x || Rl.eq y x) := rfl
theorem F1 (x y : Nat) : B 0 x y + B 1 x y = 1 := by rw [b0, b1]; cases Rl.eq x y <;> rfl
theorem F4 (x : Nat) : B 2 x x = 0 := by rw [b2, lt_self]; rfl
theorem F5 (x y : Nat) : B 2 x y + B 5 x y ≤ 1 := by
  rw [b2, b5]
  cases h : Rl.lt x y with
  | false => cases (Rl.lt y x || Rl.eq y x) <;> decide
  | true => obtain ⟨h1, h2⟩ := lt_asym h; rw [h1, h2]; decide
theorem F6 (x : Nat) : B 0 x x = B 4 x x := by rw [b0, b4, lt_self]; cases Rl.eq x x <;> rfl
theorem F7 (x y : Nat) (h : B 0 x x = 0) : B 1 x y = 1 ∧ B 2 x y = 0 ∧ B 3 x y = 0 ∧ B 4 x y = 0 ∧ B 5 x y = 0 := by
  have hn : Rl.nan x = true := by
    rw [b0, eq_self'] at h
    cases e : Rl.nan x with
    | true => rfl
    | false => rw [e] at h; exact absurd h (by decide)
  obtain ⟨h1, h2⟩ := nan_all (a := x) (b := y) (by rw [hn]; rfl)
  obtain ⟨h3, h4⟩ := nan_all (a := y) (b := x) (by rw [hn, Bool.or_true])
  rw [b1, b2, b3, b4, b5, h1, h2, h3, h4]
  exact ⟨rfl, rfl, rfl, rfl, rfl⟩
theorem ne_nan (a : Nat) : neB a = Rl.nan a := by
  show (!(Rl.eq a a)) = _
  rw [eq_self']; cases Rl.nan a <;> rfl
theorem canon_nan {a : Nat} (h : Rl.nan a = true) : canonN a = NANC := by
  show (Bool.rec a NANC (neB a) : Nat) = _
  rw [ne_nan, h]
theorem canon_id {a : Nat} (h : Rl.nan a = false) : canonN a = a := by
  show (Bool.rec a NANC (neB a) : Nat) = _
  rw [ne_nan, h]
theorem land_mod (p : Nat) : Nat.land p 2047 = p % 2048 := Nat.and_two_pow_sub_one_eq_mod p 11
theorem fin_num {x : Nat} (hx : x < 2 ^ 64) (hn : Rl.nan x = false) : fin x = true := by
  unfold fin
  show ((Nat.beq (resN (Ieee.double.sub x x)) 0 == _) != false) = true
  rcases Rl.kinds hx with (rfl | rfl) | ⟨h, h0⟩ | (rfl | rfl) | h
  · decide +kernel
  · decide +kernel
  · rw [Rl.sub_self hx h h0, land_mod]
    have e : Nat.beq (x / 4503599627370496 % 2048) 2047 = false := by
      rw [Bool.eq_false_iff, Ne, Nat.beq_eq]
      have hi : Ieee.double.infRung = 2047 * 2 ^ 52 := by decide
      rw [hi] at h
      omega
    rw [e]
    decide +kernel
  · decide +kernel
  · decide +kernel
  · rw [h] at hn; exact Bool.noConfusion hn
theorem F8 {a : Nat} (ha : a < 2 ^ 64) : fin (canonN a) = true := by
  cases h : Rl.nan a with
  | true => rw [canon_nan h]; decide +kernel
  | false => rw [canon_id h]; exact fin_num ha h
theorem find5 : tabB.run 5 = S5 := by kernel_rfl
theorem prim_run {t : ST} {n f : Nat} {xs : List AV} {h : HP} {v : AV} {p : List AV → HP → Option (AV × HP)} (e : SF t (n + 1) f xs h .no = obQ (p xs h) fun r => some (.ret r.1 r.2, .no)) (hp : p xs h = some (v, h)) : SF t (n + 1) f xs h .no = some (.ret v h, .no) := by rw [e, hp]; rfl
theorem cod_op {c : Nat} (hc : c < 6) : cod (opL c) = some c := by
  rcases (show c = 0 ∨ c = 1 ∨ c = 2 ∨ c = 3 ∨ c = 4 ∨ c = 5 by omega) with rfl | rfl | rfl | rfl | rfl | rfl <;> rfl
theorem un_X (a : Nat) : unX (cX a) = some a := rfl
theorem runB (m : Int) (a b : Nat) (ha : a < 2 ^ 64) : isTrue (SF tabB (1000 + 1) 5 [.int .u64 (.ofNat a), .int .u64 (.ofNat b)] (gH m) .no) = true := by
  show isTrue (tabB.run 5 (SF tabB 1000) 1000 [.int .u64 (.ofNat a), .int .u64 (.ofNat b)] (gH m) .no) = true
  rw [find5]
  show isTrue (S5_11 (SF tabB 1000) 1000 (Int.ofNat a) (Int.ofNat b) (gH m)) = true
  rw [s11 (D := SF tabB 1000) (fun h k => by kernel_rfl)
    (fun a h k => cal_of (prim_run (n := 999) (p := canonP) (by kernel_rfl) rfl) k)
    (fun c a b h kr kp hc => calC_of (prim_run (n := 999) (p := bitP) (by kernel_rfl) (by
      show (match cod (opL c), unX (cX a), unX (cX b) with | some c, some a, some b => some (wv (bW (bV c a b)), h) | _, _, _ => none) = _
      rw [cod_op hc, un_X, un_X]; rfl)) kr kp)
    (fun a b h k => cal_of (prim_run (n := 999) (p := minP) (by kernel_rfl) rfl) k)
    1000 m a b (canonN a) (canonN b) rfl rfl (F1 _ _) rfl rfl (F4 _) (F5 _ _) (F6 _) (F7 _ _) (F8 ha)]
  rfl
end
end Go.Proofs.YtakcpnpeadkfpaaGreatDoor.Fg
