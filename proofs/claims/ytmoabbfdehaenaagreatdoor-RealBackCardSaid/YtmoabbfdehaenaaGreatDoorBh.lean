/- The law RealBack. -/
import Derived.Test.YtmoabbfdehaenaaGreatDoorBg
set_option linter.unusedVariables false
set_option linter.unusedSimpArgs false
set_option linter.unusedSectionVars false
set_option maxRecDepth 20000
namespace Go.Proofs.YtmoabbfdehaenaaGreatDoor.Lx
open Go Go.Proofs.YtmoabbfdehaenaaGreatDoor.Ev Go.Proofs.YtmoabbfdehaenaaGreatDoor.Sx Go.Proofs.YtmoabbfdehaenaaGreatDoor
noncomputable section
theorem find4 : tabB.run 4 = S4 := by kernel_rfl
theorem sfB_canon (n a : Nat) (h : HP) : SF tabB (n + 1) 6 [uv a] h .no = some (.ret (uv (canonN a)) h, .no) := by kernel_rfl
theorem sfB_neg (n : Nat) {a : Nat} (ha : a < 2 ^ 64) (h : HP) : SF tabB (n + 1) 8 [uv a] h .no = some (.ret (uv (negN a)) h, .no) := by
  have e : SF tabB (n + 1) 8 [uv a] h .no = ob (bif Nat.ble a 18446744073709551615 then some (AV.int .u64 (.ofNat (negN a)), h) else none) fun r => some (.ret r.1 r.2, .no) := by kernel_rfl
  rw [e, show Nat.ble a 18446744073709551615 = true from by rw [Nat.ble_eq]; omega]
  rfl
theorem sfB_awake (n : Nat) (h : HP) : SF tabB (n + 1) 5 [] h .no = some (.ret (.bool true) h, .no) := by kernel_rfl
theorem law_ok (k : Nat) {a w : Nat} (ha : a < 18446744073709551616) (hw : w < 4294967296) (h : HP) : ∃ h', SF tabB (k + 30) 4 [uv a, .int .u32 (.ofNat w)] h .no = some (.ret (.bool true) h', .no) := by
  have hc := canon_lt ha
  have cc := canon_canon a
  rw [SF_succ, find4]
  show ∃ h', S4_5 (SF tabB (k + 29)) (k + 29) (.ofNat a) (.ofNat w) h = _
  unfold S4_5
  refine ex_tr (cal_of (sf_hex (k + 27) ha h) _) ?_
  refine ex_tr (asS_s _ _) ?_
  obtain ⟨h1, e1⟩ := sf_unhex (k + 6) hc cc h
  refine ex_tr (cal_of e1 _) ?_
  refine ex_tr (ext0 _ _ _) ?_
  refine ex_tr (asI_u _ _) ?_
  refine ex_tr (ext1 _ _ _ _) ?_
  refine ex_tr (asI_iv _ _) ?_
  refine ex_tr (cal_of (sfB_awake (k + 28) h1) _) ?_
  refine ex_tr (asB_b true _) ?_
  refine ex_tr (br_t _ _) ?_
  refine ex_tr (cal_of (sf_ofint (k + 26) hw h1) _) ?_
  refine ex_tr (asI_u _ _) ?_
  refine ex_tr (cal_of (sf_toint (k + 27) hw h1) _) ?_
  refine ⟨h1, ?_⟩
  have b : ∀ F : AV → Res2, binC .eql (.int .u32 (.ofNat w)) (.int .u32 (.ofNat w)) F = F (.bool true) := fun F => by
    have e : binC .eql (.int .u32 (.ofNat w)) (.int .u32 (.ofNat w)) F = F (.bool (eqQ (.ofNat w) (.ofNat w))) := by kernel_rfl
    rw [e, eq_nat, decide_eq_true rfl]
  have i32 : ∀ (x : Int) (F : Int → Res2), asI .u32 (.int .u32 x) F = F x := fun x F => rfl
  refine (i32 _ _).trans ?_
  refine (b _).trans ?_
  refine (asB_b true _).trans ?_
  unfold S4_0
  rw [brV_t]
  try dsimp only
  rw [eq_nat, decide_eq_true rfl]
  refine (obB_b true _).trans ?_
  refine (br_t _ _).trans ?_
  refine (cal_of (sfB_canon (k + 28) a h1) _).trans ?_
  refine (asI_u _ _).trans ?_
  try dsimp only
  rw [eq_nat, decide_eq_true rfl]
  unfold S4_1
  refine (br_t _ _).trans ?_
  refine (cal_of (sfB_neg (k + 28) ha h1) _).trans ?_
  refine (asI_u _ _).trans ?_
  refine (cal_of (sfB_neg (k + 28) (negN_lt a) h1) _).trans ?_
  refine (asI_u _ _).trans ?_
  refine (cal_of (sfB_canon (k + 28) a h1) _).trans ?_
  refine (asI_u _ _).trans ?_
  try dsimp only
  rw [neg_neg ha, eq_nat, decide_eq_true rfl]
  unfold S4_2
  refine (br_t _ _).trans ?_
  refine (cal_of (sfB_canon (k + 28) a h1) _).trans ?_
  refine (asI_u _ _).trans ?_
  refine (cal_of (sfB_canon (k + 28) (canonN a) h1) _).trans ?_
  refine (asI_u _ _).trans ?_
  refine (cal_of (sfB_canon (k + 28) a h1) _).trans ?_
  refine (asI_u _ _).trans ?_
  try dsimp only
  rw [cc, eq_nat, decide_eq_true rfl]
  rfl
theorem run_back (m : Int) {a w : Nat} (ha : a < 18446744073709551616) (hw : w < 4294967296) : isTrue (SF tabB 1000 4 [uv a, .int .u32 (.ofNat w)] (gH m) .no) = true := by
  obtain ⟨h', e⟩ := law_ok 970 ha hw (gH m)
  rw [e]; rfl
end
end Go.Proofs.YtmoabbfdehaenaaGreatDoor.Lx
