/- Reals in the printed functions: what is, Canon, Neg answer, at words left open. -/
import Derived.Test.YtbfdhoggchedjaaGreatDoorSt
import Derived.Test.YtbfdhoggchedjaaGreatDoorVa
set_option linter.unusedVariables false
set_option linter.unusedSimpArgs false
set_option linter.unusedSectionVars false
namespace Go.Proofs.YtbfdhoggchedjaaGreatDoor.Sx
open Go Go.Proofs.YtbfdhoggchedjaaGreatDoor.Ev
noncomputable section
abbrev ord (a b : Nat) : Option Ordering := FloatKind.f64.format.order a b
def ltB (a b : Nat) : Bool := ord a b == some .lt
def eqB (a b : Nat) : Bool := ord a b == some .eq
def leB (a b : Nat) : Bool := ord a b == some .lt || ord a b == some .eq
def neB (a : Nat) : Bool := ord a a != some .eq
def NANC : Nat := 9221120237041090560
def canonN (a : Nat) : Nat := Bool.rec a NANC (neB a)
def flipN (a : Nat) : Nat := Nat.xor a 9223372036854775808
def restN (a : Nat) : Nat := (BitVec.ofInt (IntKind.bits .u64) (.ofNat a) &&& ~~~ BitVec.ofInt (IntKind.bits .u64) (Int.ofNat 9223372036854775808)).toNat % 18446744073709551616
def signN (a b : Nat) : Nat := Nat.lor (restN a) (Nat.land b 9223372036854775808)
def negN (a : Nat) : Nat := canonN (signN a (flipN a))
theorem fits {k : Nat} (h : k < 2 ^ 64) : wrapF .u64 (.ofNat k) = .ofNat k := by
  show (bif Nat.ble k 18446744073709551615 then Int.ofNat k else _) = _
  rw [show Nat.ble k 18446744073709551615 = true from by rw [Nat.ble_eq]; omega]
  rfl
theorem flip_lt {a : Nat} (h : a < 2 ^ 64) : flipN a < 2 ^ 64 := Nat.xor_lt_two_pow h (by decide)
theorem rest_lt (a : Nat) : restN a < 2 ^ 64 := Nat.mod_lt _ (by decide)
theorem land_lt (b : Nat) : Nat.land b 9223372036854775808 < 2 ^ 64 := Nat.lt_of_le_of_lt Nat.and_le_right (by decide)
theorem sign_lt (a b : Nat) : signN a b < 2 ^ 64 := Nat.or_lt_two_pow (rest_lt a) (land_lt b)
theorem obI_u (x : Int) (F : Int → Res2) : obI .u64 (some (AV.int .u64 x)) F = F x := rfl
theorem asI_u (x : Int) (F : Int → Res2) : asI .u64 (AV.int .u64 x) F = F x := rfl
theorem bin_and (a b : Nat) : intBin .and .u64 (.ofNat a) (.ofNat b) = some (AV.int .u64 (wrapF .u64 (.ofNat (Nat.land a b)))) := by kernel_rfl
theorem bin_or (a b : Nat) : intBin .or .u64 (.ofNat a) (.ofNat b) = some (AV.int .u64 (wrapF .u64 (.ofNat (Nat.lor a b)))) := by kernel_rfl
theorem bin_xor (a b : Nat) : intBin .xor .u64 (.ofNat a) (.ofNat b) = some (AV.int .u64 (wrapF .u64 (.ofNat (Nat.xor a b)))) := by kernel_rfl
theorem rec_same {β : Type} (f : Bool → β) (c : Bool) : (Bool.rec (f false) (f true) c : β) = f c := by cases c <;> rfl
theorem cal_ret {D : CallD} {f : Nat} {xs : List AV} {h : HP} {v : AV} (e : D f xs h .no = some (.ret v h, .no)) (k : AV → HP → Res2) : cal D f xs h k = k v h := by
  unfold cal calC; rw [e]; rfl
theorem sf_sign (x y : Nat) (h : HP) : SF tabS 19 42 [.flt .f64 x, .flt .f64 y] h .no = some (.ret (.flt .f64 (signN x y)) h, .no) := by
  have e : SF tabS 19 42 [.flt .f64 x, .flt .f64 y] h .no = obI .u64 (intBin .and .u64 (.ofNat y) (.ofNat 9223372036854775808)) fun t10 =>
      obI .u64 (intBin .or .u64 (.ofNat (restN x)) t10) fun t11 => obQ (evP (.xt .ffrom [(.c (AV.int .u64 t11))]) .leaf) fun t12 => some (.ret t12 h, .no) := by kernel_rfl
  rw [e, bin_and, fits (land_lt y), obI_u, bin_or, fits (k := Nat.lor (restN x) (Nat.land y 9223372036854775808)) (sign_lt x y), obI_u]
  rfl
theorem sf_bits (x : Nat) (h : HP) : SF tabS 19 32 [.flt .f64 x] h .no = some (.ret (.int .u64 (.ofNat (canonN x))) h, .no) := by
  have e : SF tabS 19 32 [.flt .f64 x] h .no = (Bool.rec (some (.ret (.int .u64 (.ofNat x)) h, .no)) (some (.ret (.int .u64 (.ofNat NANC)) h, .no)) (neB x) : Res2) := by kernel_rfl
  rw [e]; unfold canonN; cases neB x <;> rfl
theorem sf_canon (a : Nat) (h : HP) : SF tabS 20 15 [.int .u64 (.ofNat a)] h .no = some (.ret (.int .u64 (.ofNat (canonN a))) h, .no) := by
  have e : SF tabS 20 15 [.int .u64 (.ofNat a)] h .no = S15_0 (SF tabS 19) 19 (.ofNat a) h := by kernel_rfl
  rw [e]
  unfold S15_0
  have h31 : ∀ (x : Nat) h k, cal (SF tabS 19) 31 [.int .u64 (.ofNat x)] h k = k (.flt .f64 x) h := fun x h k => by kernel_rfl
  rw [h31, cal_ret (sf_bits a h), asI_u]
theorem sf_neg (a : Nat) (ha : a < 2 ^ 64) (h : HP) : SF tabS 20 18 [.int .u64 (.ofNat a)] h .no = some (.ret (.int .u64 (.ofNat (negN a))) h, .no) := by
  have e : SF tabS 20 18 [.int .u64 (.ofNat a)] h .no = S18_0 (SF tabS 19) 19 (.ofNat a) h := by kernel_rfl
  rw [e]
  unfold S18_0
  have h31 : ∀ (x : Nat) h k, cal (SF tabS 19) 31 [.int .u64 (.ofNat x)] h k = k (.flt .f64 x) h := fun x h k => by kernel_rfl
  have h42 : ∀ (x y : Nat) h k, cal (SF tabS 19) 42 [.flt .f64 x, .flt .f64 y] h k = k (.flt .f64 (signN x y)) h := fun x y h k => cal_ret (sf_sign x y h) k
  have h32 : ∀ (x : Nat) h k, cal (SF tabS 19) 32 [.flt .f64 x] h k = k (.int .u64 (.ofNat (canonN x))) h := fun x h k => cal_ret (sf_bits x h) k
  rw [h31, bin_xor, fits (k := Nat.xor a 9223372036854775808) (flip_lt ha), obI_u, h31, h42, h32, asI_u]
  rfl
theorem sf_clt (a b : Nat) (h : HP) : SF tabS 19 13 [.int .i64 (.ofNat 52), .int .u64 (.ofNat a), .int .u64 (.ofNat b)] h .no = some (.ret (.tup [vW (Int.ofNat (ltB a b).toNat), vI (Int.ofNat 0)]) h, .no) := by
  have e : SF tabS 19 13 [.int .i64 (.ofNat 52), .int .u64 (.ofNat a), .int .u64 (.ofNat b)] h .no = (Bool.rec (some (.ret (.tup [vW (Int.ofNat 0), vI (Int.ofNat 0)]) h, .no)) (some (.ret (.tup [vW (Int.ofNat 1), vI (Int.ofNat 0)]) h, .no)) (ltB a b) : Res2) := by kernel_rfl
  rw [e]; cases ltB a b <;> rfl
theorem sf_lt (a b : Nat) (h : HP) : SF tabS 20 17 [.int .i64 (.ofNat 52), .int .u64 (.ofNat a), .int .u64 (.ofNat b)] h .no = some (.ret (.bool (ltB a b)) h, .no) := by
  have e : SF tabS 20 17 [.int .i64 (.ofNat 52), .int .u64 (.ofNat a), .int .u64 (.ofNat b)] h .no = S17_0 (SF tabS 19) 19 (.ofNat 52) (.ofNat a) (.ofNat b) h := by kernel_rfl
  rw [e]
  unfold S17_0
  have e2 : ∀ k, cal (SF tabS 19) 13 [vI (Int.ofNat 52), AV.int .u64 (Int.ofNat a), AV.int .u64 (Int.ofNat b)] h k = k (.tup [vW (Int.ofNat (ltB a b).toNat), vI (Int.ofNat 0)]) h := fun k => cal_ret (sf_clt a b h) k
  rw [e2]
  clear e e2
  generalize ltB a b = c
  cases c <;> rfl
theorem sf_ceq (a b : Nat) (h : HP) : SF tabS 19 13 [.int .i64 (.ofNat 51), .int .u64 (.ofNat a), .int .u64 (.ofNat b)] h .no = some (.ret (.tup [vW (Int.ofNat (eqB a b).toNat), vI (Int.ofNat 0)]) h, .no) := by
  have e : SF tabS 19 13 [.int .i64 (.ofNat 51), .int .u64 (.ofNat a), .int .u64 (.ofNat b)] h .no = (Bool.rec (some (.ret (.tup [vW (Int.ofNat 0), vI (Int.ofNat 0)]) h, .no)) (some (.ret (.tup [vW (Int.ofNat 1), vI (Int.ofNat 0)]) h, .no)) (eqB a b) : Res2) := by kernel_rfl
  rw [e]; cases eqB a b <;> rfl
theorem sf_eq (a b : Nat) (h : HP) : SF tabS 20 17 [.int .i64 (.ofNat 51), .int .u64 (.ofNat a), .int .u64 (.ofNat b)] h .no = some (.ret (.bool (eqB a b)) h, .no) := by
  have e : SF tabS 20 17 [.int .i64 (.ofNat 51), .int .u64 (.ofNat a), .int .u64 (.ofNat b)] h .no = S17_0 (SF tabS 19) 19 (.ofNat 51) (.ofNat a) (.ofNat b) h := by kernel_rfl
  rw [e]
  unfold S17_0
  have e2 : ∀ k, cal (SF tabS 19) 13 [vI (Int.ofNat 51), AV.int .u64 (Int.ofNat a), AV.int .u64 (Int.ofNat b)] h k = k (.tup [vW (Int.ofNat (eqB a b).toNat), vI (Int.ofNat 0)]) h := fun k => cal_ret (sf_ceq a b h) k
  rw [e2]
  clear e e2
  generalize eqB a b = c
  cases c <;> rfl
theorem sf_cle (a b : Nat) (h : HP) : SF tabS 19 13 [.int .i64 (.ofNat 53), .int .u64 (.ofNat a), .int .u64 (.ofNat b)] h .no = some (.ret (.tup [vW (Int.ofNat (leB a b).toNat), vI (Int.ofNat 0)]) h, .no) := by
  have e : SF tabS 19 13 [.int .i64 (.ofNat 53), .int .u64 (.ofNat a), .int .u64 (.ofNat b)] h .no = (Bool.rec (some (.ret (.tup [vW (Int.ofNat 0), vI (Int.ofNat 0)]) h, .no)) (some (.ret (.tup [vW (Int.ofNat 1), vI (Int.ofNat 0)]) h, .no)) (leB a b) : Res2) := by kernel_rfl
  rw [e]; cases leB a b <;> rfl
theorem sf_le (a b : Nat) (h : HP) : SF tabS 20 17 [.int .i64 (.ofNat 53), .int .u64 (.ofNat a), .int .u64 (.ofNat b)] h .no = some (.ret (.bool (leB a b)) h, .no) := by
  have e : SF tabS 20 17 [.int .i64 (.ofNat 53), .int .u64 (.ofNat a), .int .u64 (.ofNat b)] h .no = S17_0 (SF tabS 19) 19 (.ofNat 53) (.ofNat a) (.ofNat b) h := by kernel_rfl
  rw [e]
  unfold S17_0
  have e2 : ∀ k, cal (SF tabS 19) 13 [vI (Int.ofNat 53), AV.int .u64 (Int.ofNat a), AV.int .u64 (Int.ofNat b)] h k = k (.tup [vW (Int.ofNat (leB a b).toNat), vI (Int.ofNat 0)]) h := fun k => cal_ret (sf_cle a b h) k
  rw [e2]
  clear e e2
  generalize leB a b = c
  cases c <;> rfl
def isP (xs : List AV) (h : HP) : Option (AV × HP) :=
  match xs with
  | [.int .i64 (.ofNat op), .int .u64 (.ofNat a), .int .u64 (.ofNat b)] => bif Nat.beq op 51 then some (.bool (eqB a b), h) else bif Nat.beq op 52 then some (.bool (ltB a b), h) else bif Nat.beq op 53 then some (.bool (leB a b), h) else none
  | _ => none
def canonP (xs : List AV) (h : HP) : Option (AV × HP) := match xs with | [.int .u64 (.ofNat a)] => some (.int .u64 (.ofNat (canonN a)), h) | _ => none
def negP (xs : List AV) (h : HP) : Option (AV × HP) := match xs with | [.int .u64 (.ofNat a)] => bif Nat.ble a 18446744073709551615 then some (.int .u64 (.ofNat (negN a)), h) else none | _ => none
theorem awake_ran (m : Int) : gc [] (SF tabS 900 10 [] (gH m) .no) = some (.bool true, []) := by kernel_rfl
def tabA : ST := .node 9 tabS (.node 10 (.pr 10 yesM.at) tabS)
def tabC : ST := .node 14 tabA (.node 15 (.pr 15 canonP) tabA)
def tabI : ST := .node 16 tabC (.node 17 (.pr 17 isP) tabC)
def tabR : ST := .node 17 tabI (.node 18 (.pr 18 negP) tabI)
theorem okR (m : Int) (lf : Ev.Loc) : letI := rhoV m lf rfl; ST.Ok Tryz.prog tabR := by
  letI := rhoV m lf rfl
  have okA : ST.Ok Tryz.prog tabA := .node _ _ _ okS (.node _ _ _ (.pr _ _ fun w0 => pr_yes (n := 900) (by kernel_rfl) okS ⟨_, Tryz.func10, by kernel_rfl, by decide +kernel⟩ (awake_ran m) w0) okS)
  have pC : ∀ w0, PrOk Tryz.prog w0 15 canonP := fun w0 => pr_of (n := 20) (by kernel_rfl) okS ⟨_, Tryz.func15, by kernel_rfl, by decide +kernel⟩ (fun xs h r hr => by
    unfold canonP at hr
    split at hr
    · obtain rfl := Option.some.inj hr; exact sf_canon _ _
    · simp at hr) w0
  have pN : ∀ w0, PrOk Tryz.prog w0 18 negP := fun w0 => pr_of (n := 20) (by kernel_rfl) okS ⟨_, Tryz.func18, by kernel_rfl, by decide +kernel⟩ (fun xs h r hr => by
    unfold negP at hr
    split at hr
    · obtain ⟨hl, hr⟩ := bif_eq hr
      have := Nat.le_of_ble_eq_true hl
      obtain rfl := Option.some.inj hr; exact sf_neg _ (by omega) _
    · simp at hr) w0
  have pI : ∀ w0, PrOk Tryz.prog w0 17 isP := fun w0 => pr_of (n := 20) (by kernel_rfl) okS ⟨_, Tryz.func17, by kernel_rfl, by decide +kernel⟩ (fun xs h r hr => by
    unfold isP at hr
    split at hr
    · rename_i op a b
      cases e1 : Nat.beq op 51 with
      | true => rw [e1] at hr; obtain rfl := Nat.eq_of_beq_eq_true e1; obtain rfl := Option.some.inj hr; exact sf_eq _ _ _
      | false =>
        cases e2 : Nat.beq op 52 with
        | true => rw [e1, e2] at hr; obtain rfl := Nat.eq_of_beq_eq_true e2; obtain rfl := Option.some.inj hr; exact sf_lt _ _ _
        | false =>
          cases e3 : Nat.beq op 53 with
          | true => rw [e1, e2, e3] at hr; obtain rfl := Nat.eq_of_beq_eq_true e3; obtain rfl := Option.some.inj hr; exact sf_le _ _ _
          | false => rw [e1, e2, e3] at hr; simp at hr
    · simp at hr) w0
  exact .node _ _ _ (.node _ _ _ (.node _ _ _ okA (.node _ _ _ (.pr _ _ pC) okA)) (.node _ _ _ (.pr _ _ pI) (.node _ _ _ okA (.node _ _ _ (.pr _ _ pC) okA)))) (.node _ _ _ (.pr _ _ pN) (.node _ _ _ (.node _ _ _ okA (.node _ _ _ (.pr _ _ pC) okA)) (.node _ _ _ (.pr _ _ pI) (.node _ _ _ okA (.node _ _ _ (.pr _ _ pC) okA)))))
end
end Go.Proofs.YtbfdhoggchedjaaGreatDoor.Sx
