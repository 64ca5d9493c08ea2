/- real.Canon, real.Neg, real.Hex at bits left open. -/
import Derived.Test.YtmoabbfdehaenaaGreatDoorBb
set_option linter.unusedVariables false
set_option linter.unusedSimpArgs false
set_option linter.unusedSectionVars false
set_option maxRecDepth 20000
namespace Go.Proofs.YtmoabbfdehaenaaGreatDoor.Lx
open Go Go.Proofs.YtmoabbfdehaenaaGreatDoor.Ev Go.Proofs.YtmoabbfdehaenaaGreatDoor.Sx
noncomputable section
abbrev ord (a b : Nat) : Option Ordering := FloatKind.f64.format.order a b
def neB (a : Nat) : Bool := ord a a != some .eq
def NANC : Nat := 9221120237041090560
def canonN (a : Nat) : Nat := Bool.rec a NANC (neB a)
def flipN (a : Nat) : Nat := Nat.xor a 9223372036854775808
def restN (a : Nat) : Nat := (BitVec.ofInt (IntKind.bits .u64) (.ofNat a) &&& ~~~ BitVec.ofInt (IntKind.bits .u64) (Int.ofNat 9223372036854775808)).toNat % 18446744073709551616
def signN (a b : Nat) : Nat := Nat.lor (restN a) (Nat.land b 9223372036854775808)
def negN (a : Nat) : Nat := canonN (signN a (flipN a))
theorem fits {k : Nat} (h : k < 2 ^ 64) : wrapF .u64 (.ofNat k) = .ofNat k := by
  show (bif Nat.ble k 18446744073709551615 then Int.ofNat k else _) = _
  rw [show Nat.ble k 18446744073709551615 = true from by rw [Nat.ble_eq]; omega]
  rfl
theorem flip_lt {a : Nat} (h : a < 2 ^ 64) : flipN a < 2 ^ 64 := Nat.xor_lt_two_pow h (by decide)
theorem rest_lt (a : Nat) : restN a < 2 ^ 64 := Nat.mod_lt _ (by decide)
theorem land_lt (b : Nat) : Nat.land b 9223372036854775808 < 2 ^ 64 := Nat.lt_of_le_of_lt Nat.and_le_right (by decide)
theorem sign_lt (a b : Nat) : signN a b < 2 ^ 64 := Nat.or_lt_two_pow (rest_lt a) (land_lt b)
theorem asI_u (x : Int) (F : Int → Res2) : asI .u64 (AV.int .u64 x) F = F x := rfl
theorem bin_and (a b : Nat) : intBin .and .u64 (.ofNat a) (.ofNat b) = some (AV.int .u64 (wrapF .u64 (.ofNat (Nat.land a b)))) := by kernel_rfl
theorem bin_or (a b : Nat) : intBin .or .u64 (.ofNat a) (.ofNat b) = some (AV.int .u64 (wrapF .u64 (.ofNat (Nat.lor a b)))) := by kernel_rfl
theorem bin_xor (a b : Nat) : intBin .xor .u64 (.ofNat a) (.ofNat b) = some (AV.int .u64 (wrapF .u64 (.ofNat (Nat.xor a b)))) := by kernel_rfl
theorem rec_same {β : Type} (f : Bool → β) (c : Bool) : (Bool.rec (f false) (f true) c : β) = f c := by cases c <;> rfl
theorem cal_ret {D : CallD} {f : Nat} {xs : List AV} {h : HP} {v : AV} (e : D f xs h .no = some (.ret v h, .no)) (k : AV → HP → Res2) : cal D f xs h k = k v h := by
  unfold cal calC; rw [e]; rfl
theorem sf_sign (x y : Nat) (h : HP) : SF tabA 898 22 [.flt .f64 x, .flt .f64 y] h .no = some (.ret (.flt .f64 (signN x y)) h, .no) := by
  have e : SF tabA 898 22 [.flt .f64 x, .flt .f64 y] h .no = obI .u64 (intBin .and .u64 (.ofNat y) (.ofNat 9223372036854775808)) fun t10 =>
      obI .u64 (intBin .or .u64 (.ofNat (restN x)) t10) fun t11 => obQ (evP (.xt .ffrom [(.c (AV.int .u64 t11))]) .leaf) fun t12 => some (.ret t12 h, .no) := by kernel_rfl
  rw [e, bin_and, fits (land_lt y), obI_u, bin_or, fits (k := Nat.lor (restN x) (Nat.land y 9223372036854775808)) (sign_lt x y), obI_u]
  rfl
theorem sf_bits (x : Nat) (h : HP) : SF tabA 898 19 [.flt .f64 x] h .no = some (.ret (.int .u64 (.ofNat (canonN x))) h, .no) := by
  have e : SF tabA 898 19 [.flt .f64 x] h .no = (Bool.rec (some (.ret (.int .u64 (.ofNat x)) h, .no)) (some (.ret (.int .u64 (.ofNat NANC)) h, .no)) (neB x) : Res2) := by kernel_rfl
  rw [e]; unfold canonN; cases neB x <;> rfl
theorem sf_canon (a : Nat) (h : HP) : SF tabA 899 6 [.int .u64 (.ofNat a)] h .no = some (.ret (.int .u64 (.ofNat (canonN a))) h, .no) := by
  have e : SF tabA 899 6 [.int .u64 (.ofNat a)] h .no = S6_0 (SF tabA 898) 898 (.ofNat a) h := by kernel_rfl
  rw [e]
  unfold S6_0
  have h31 : ∀ (x : Nat) h k, cal (SF tabA 898) 20 [.int .u64 (.ofNat x)] h k = k (.flt .f64 x) h := fun x h k => by kernel_rfl
  rw [h31, cal_ret (sf_bits a h), asI_u]
theorem sf_neg (a : Nat) (ha : a < 2 ^ 64) (h : HP) : SF tabA 899 8 [.int .u64 (.ofNat a)] h .no = some (.ret (.int .u64 (.ofNat (negN a))) h, .no) := by
  have e : SF tabA 899 8 [.int .u64 (.ofNat a)] h .no = S8_0 (SF tabA 898) 898 (.ofNat a) h := by kernel_rfl
  rw [e]
  unfold S8_0
  have h31 : ∀ (x : Nat) h k, cal (SF tabA 898) 20 [.int .u64 (.ofNat x)] h k = k (.flt .f64 x) h := fun x h k => by kernel_rfl
  have h42 : ∀ (x y : Nat) h k, cal (SF tabA 898) 22 [.flt .f64 x, .flt .f64 y] h k = k (.flt .f64 (signN x y)) h := fun x y h k => cal_ret (sf_sign x y h) k
  have h32 : ∀ (x : Nat) h k, cal (SF tabA 898) 19 [.flt .f64 x] h k = k (.int .u64 (.ofNat (canonN x))) h := fun x h k => cal_ret (sf_bits x h) k
  rw [h31, bin_xor, fits (k := Nat.xor a 9223372036854775808) (flip_lt ha), obI_u, h31, h42, h32, asI_u]
  rfl
theorem canon_lt {a : Nat} (h : a < 2 ^ 64) : canonN a < 2 ^ 64 := by
  unfold canonN; cases neB a
  · exact h
  · show NANC < 2 ^ 64; decide
def canonP (xs : List AV) (h : HP) : Option (AV × HP) := match xs with | [.int .u64 (.ofNat a)] => some (.int .u64 (.ofNat (canonN a)), h) | _ => none
def negP (xs : List AV) (h : HP) : Option (AV × HP) := match xs with | [.int .u64 (.ofNat a)] => bif Nat.ble a 18446744073709551615 then some (.int .u64 (.ofNat (negN a)), h) else none | _ => none
def fmtP (xs : List AV) (h : HP) : Option (AV × HP) := match xs with | [.int .u64 (.ofNat a), .int .i64 (.ofNat b)] => bif Nat.ble a 18446744073709551615 && Nat.beq b 16 then some (.str (hexL a), h) else none | _ => none
/-- Canon, Neg, FormatUint (base 16) as functions with known answers. -/
def tabB : ST := .node (6 - 1) tabA (.node 6 (.pr 6 canonP) (.node (8 - 1) tabA (.node 8 (.pr 8 negP) (.node (28 - 1) tabA (.node 28 (.pr 28 fmtP) tabA)))))
theorem okB (m : Int) (lf : Ev.Loc) : letI := rhoV m lf rfl; ST.Ok Tryz.prog tabB := by
  letI := rhoV m lf rfl
  have A := okA m lf
  refine .node _ _ _ A (.node _ _ _ (.pr _ _ fun w0 => pr_of (n := 899) (by kernel_rfl) A ⟨_, Tryz.func6, by kernel_rfl, by decide +kernel⟩ (fun xs h r hr => ?_) w0) (.node _ _ _ A (.node _ _ _ (.pr _ _ fun w0 => pr_of (n := 899) (by kernel_rfl) A ⟨_, Tryz.func8, by kernel_rfl, by decide +kernel⟩ (fun xs h r hr => ?_) w0) (.node _ _ _ A (.node _ _ _ (.pr _ _ fun w0 => pr_ret (n := 899) (by kernel_rfl) A ⟨_, Tryz.func28, by kernel_rfl, by decide +kernel⟩ (fun xs h r hr => ?_) w0) A)))))
  · unfold canonP at hr
    split at hr
    · rename_i a
      obtain rfl := Option.some.inj hr
      exact sf_canon a h
    · simp at hr
  · unfold negP at hr
    split at hr
    · rename_i a
      obtain ⟨hl, hr⟩ := bif_eq hr
      obtain rfl := Option.some.inj hr
      exact sf_neg a (by have := Nat.le_of_ble_eq_true hl; omega) h
    · simp at hr
  · unfold fmtP at hr
    split at hr
    · rename_i a b
      obtain ⟨hl, hr2⟩ := bif_eq hr
      rw [Bool.and_eq_true] at hl
      have l1 := Nat.le_of_ble_eq_true hl.1
      have l2 := Nat.eq_of_beq_eq_true hl.2
      obtain rfl := Option.some.inj hr2
      subst l2
      exact ⟨rfl, rfl, rfl, sf_fmt m (by omega)⟩
    · simp at hr
theorem hexA_len : ∀ j x acc, acc.length < (hexA j x acc).length ∧ (hexA j x acc).length ≤ acc.length + j + 1
  | 0, x, acc => by show acc.length < (hc x :: acc).length ∧ _; exact ⟨by simp, by show (hc x :: acc).length ≤ _; simp⟩
  | j + 1, x, acc => by
    show acc.length < (if 16 ≤ x then hexA j (x / 16) (hc (x % 16) :: acc) else hc x :: acc).length ∧ (if 16 ≤ x then hexA j (x / 16) (hc (x % 16) :: acc) else hc x :: acc).length ≤ _
    by_cases g : 16 ≤ x
    · rw [if_pos g]
      have := hexA_len j (x / 16) (hc (x % 16) :: acc)
      simp only [List.length_cons] at this
      exact ⟨by omega, by omega⟩
    · rw [if_neg g]
      exact ⟨by simp, by simp⟩
/-- The sixteen digits. -/
def hexS (x : Nat) : LN := List.replicate (16 - (hexL x).length) 48 ++ hexL x
theorem repL48 : ∀ n, repL [48] n = List.replicate n 48
  | 0 => rfl
  | n + 1 => by
    show cat [48] (repL [48] n) = _
    rw [repL48 n, List.replicate_succ]; rfl
theorem find12 : tabB.run 12 = S12 := by kernel_rfl
theorem sf_hex (n : Nat) {a : Nat} (ha : a < 18446744073709551616) (h : HP) : SF tabB (n + 2) 12 [uv a] h .no = some (.ret (.str (hexS (canonN a))) h, .no) := by
  have hc' : canonN a < 18446744073709551616 := canon_lt ha
  have hlen := (hexA_len 15 (canonN a) [])
  simp only [List.length_nil] at hlen
  rw [SF_succ, find12]
  show S12_0 (SF tabB (n + 1)) (n + 1) (Int.ofNat a) h = _
  unfold S12_0
  refine (cal_of (show SF tabB (n + 1) 6 [uv a] h .no = some (.ret (uv (canonN a)) h, .no) by kernel_rfl) _).trans ?_
  refine (asI_u _ _).trans ?_
  have e28 : SF tabB (n + 1) 28 [uv (canonN a), iv 16] h .no = some (.ret (.str (hexL (canonN a))) h, .no) := by
    have e : SF tabB (n + 1) 28 [uv (canonN a), iv 16] h .no = ob (bif Nat.ble (canonN a) 18446744073709551615 && Nat.beq 16 16 then some (AV.str (hexL (canonN a)), h) else none) fun r => some (.ret r.1 r.2, .no) := by kernel_rfl
    rw [e, show Nat.ble (canonN a) 18446744073709551615 = true from by rw [Nat.ble_eq]; omega]
    rfl
  refine (cal_of e28 _).trans ?_
  refine (asS_s _ _).trans ?_
  try dsimp only
  rw [lenL_eq, show wrQ .i64 (Int.ofNat 16 - Int.ofNat (hexL (canonN a)).length) = Int.ofNat (16 - (hexL (canonN a)).length) from by
    rw [show (Int.ofNat 16 - Int.ofNat (hexL (canonN a)).length : Int) = Int.ofNat (16 - (hexL (canonN a)).length) from by
      show (16 : Int) - ((hexL (canonN a)).length : Int) = ((16 - (hexL (canonN a)).length : Nat) : Int)
      unfold hexL; omega]
    exact wr_nat (by omega)]
  have e29 : SF tabB (n + 1) 29 [.str [48], iv (16 - (hexL (canonN a)).length)] h .no = some (.ret (.str (List.replicate (16 - (hexL (canonN a)).length) 48)) h, .no) := by
    have hk : 16 - (hexL (canonN a)).length ≤ 1000 := by omega
    generalize 16 - (hexL (canonN a)).length = k at hk ⊢
    have e : SF tabB (n + 1) 29 [.str [48], iv k] h .no = ob (bif Nat.ble k 1000 && Nat.ble 1 1000 then some (AV.str (repL [48] k), h) else none) fun r => some (.ret r.1 r.2, .no) := by kernel_rfl
    rw [e, show Nat.ble k 1000 = true from by rw [Nat.ble_eq]; exact hk, repL48]
    rfl
  refine (cal_of e29 _).trans ?_
  refine (asS_s _ _).trans ?_
  rw [strAdd (by unfold hexL; simp; omega), obS_s]
  rfl
end
end Go.Proofs.YtmoabbfdehaenaaGreatDoor.Lx
