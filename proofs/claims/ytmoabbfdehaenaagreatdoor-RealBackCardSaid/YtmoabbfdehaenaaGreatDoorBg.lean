/- real.ToInt of real.OfInt. -/
import Derived.Test.YtmoabbfdehaenaaGreatDoorBf
import Derived.Test.YtmoabbfdehaenaaGreatDoorBs
set_option linter.unusedVariables false
set_option linter.unusedSimpArgs false
set_option linter.unusedSectionVars false
set_option maxRecDepth 20000
namespace Go.Proofs.YtmoabbfdehaenaaGreatDoor.Lx
open Go Go.Proofs.YtmoabbfdehaenaaGreatDoor.Ev Go.Proofs.YtmoabbfdehaenaaGreatDoor.Sx Go.Proofs.YtmoabbfdehaenaaGreatDoor
noncomputable section
/-- A word read with its sign. -/
def sgW (w : Nat) : Int := wrapF .i64 (wrapF .i32 (.ofNat w))
theorem sgW_is {w : Nat} (hw : w < 4294967296) : sgW w = if w < 2147483648 then (w : Int) else (w : Int) - 4294967296 := by
  unfold sgW
  rw [@wrapF_eq rh, @wrapF_eq rh]
  unfold IntKind.wrap
  simp [IntKind.signed, IntKind.bits]
  split <;> omega
theorem wrap_sg {w : Nat} (hw : w < 4294967296) : wrapF .u32 (sgW w) = .ofNat w := by
  rw [sgW_is hw, @wrapF_eq rh]
  unfold IntKind.wrap
  simp [IntKind.signed, IntKind.bits]
  split <;> omega
theorem nearZ (z : Int) : FloatKind.nearest .f64 z = Rl.reZ z := rfl
theorem sg_abs {w : Nat} (hw : w < 4294967296) : (sgW w).natAbs < 2 ^ 52 := by
  rw [sgW_is hw]; split <;> omega
theorem find14 : tabB.run 14 = S14 := by kernel_rfl
theorem find10 : tabB.run 10 = S10 := by kernel_rfl
theorem sfB_sg (n w : Nat) (h : HP) : SF tabB (n + 1) 30 [.int .u32 (.ofNat w)] h .no = some (.ret (vI (sgW w)) h, .no) := by kernel_rfl
theorem sfB_bits (n x : Nat) (h : HP) : SF tabB (n + 2) 19 [.flt .f64 x] h .no = some (.ret (uv (canonN x)) h, .no) := by
  have e : SF tabB (n + 2) 19 [.flt .f64 x] h .no = (Bool.rec (some (.ret (.int .u64 (.ofNat x)) h, .no)) (some (.ret (.int .u64 (.ofNat NANC)) h, .no)) (neB x) : Res2) := by kernel_rfl
  rw [e]; unfold canonN; cases neB x <;> rfl
theorem sf_ofint (n : Nat) {w : Nat} (hw : w < 4294967296) (h : HP) : SF tabB (n + 3) 14 [.int .u32 (.ofNat w)] h .no = some (.ret (uv (Rl.reZ (sgW w))) h, .no) := by
  rw [SF_succ, find14]
  show S14_0 (SF tabB (n + 2)) (n + 2) (.ofNat w) h = _
  unfold S14_0
  refine (cal_of (sfB_sg (n + 1) w h) _).trans ?_
  refine (asI_iv _ _).trans ?_
  refine (cal_of (sfB_bits n (Rl.reZ (sgW w)) h) _).trans ?_
  rw [canon_id (Rl.nan_near (sg_abs hw))]
  rfl
theorem xt_trunc {y m : Nat} {s : Bool} {i : Int} (e : Ieee.double.read y = .number s m i) : xtV .trunc [.flt .f64 y] = some (.flt .f64 (Ieee.double.nearest s (Ieee.Toward.zero.cut s (m <<< i.toNat) (-i).toNat) 0)) := by
  have e' : FloatKind.f64.decode y = .number s m i := e
  show (match FloatKind.f64.decode y with
    | .nan _ t => if FloatKind.f64.format.quiet t = t then some (AV.flt .f64 y) else some (.nan .f64)
    | d => some (.flt .f64 (FloatKind.f64.encode (d.integral .zero)))) = _
  rw [e']
  rfl
theorem conv_fi {y m : Nat} {s : Bool} {i : Int} (e : Ieee.double.read y = .number s m i) : convV (.fi .i64) (.flt .f64 y) = if IntKind.min .i64 ≤ Ieee.signed s (Ieee.Toward.zero.cut s (m <<< i.toNat) (-i).toNat) 0 ∧ Ieee.signed s (Ieee.Toward.zero.cut s (m <<< i.toNat) (-i).toNat) 0 ≤ IntKind.max .i64 then some (.int .i64 (Ieee.signed s (Ieee.Toward.zero.cut s (m <<< i.toNat) (-i).toNat) 0)) else none := by
  have e' : FloatKind.f64.decode y = .number s m i := e
  show (match (FloatKind.f64.decode y).toInt .zero with | some n => if IntKind.min .i64 ≤ n ∧ n ≤ IntKind.max .i64 then some (AV.int .i64 n) else none | none => none) = _
  rw [e']
  rfl
theorem trunc_reZ {z : Int} (h : z.natAbs < 2 ^ 52) : xtV .trunc [.flt .f64 (Rl.reZ z)] = some (.flt .f64 (Rl.reZ z)) := by
  obtain ⟨s, m, i, e1, e2, e3⟩ := Rl.whole h
  rw [xt_trunc e1, e2, e3]
  rfl
theorem conv_reZ {z : Int} (h : z.natAbs < 2 ^ 52) : convV (.fi .i64) (.flt .f64 (Rl.reZ z)) = some (.int .i64 z) := by
  obtain ⟨s, m, i, e1, e2, e3⟩ := Rl.whole h
  rw [conv_fi e1, e2, e3]
  have e4 : Ieee.signed (decide (z < 0)) z.natAbs 0 = z := by
    unfold Ieee.signed
    rw [Nat.shiftLeft_zero]
    by_cases hz : z < 0
    · rw [decide_eq_true hz, if_pos rfl]; omega
    · rw [decide_eq_false hz, if_neg (by decide)]; omega
  rw [e4, if_pos ⟨by show (-9223372036854775808 : Int) ≤ z; omega, by show z ≤ (9223372036854775807 : Int); omega⟩]
theorem big_is : (4746794007244308480 : Nat) = Rl.reZ 2147483647 := by decide +kernel
theorem low_is : (13970166044103278592 : Nat) = Rl.reZ (-2147483648) := by decide +kernel
theorem gtr_is (x y : Nat) (F : AV → Option AV) : binCV .gtr (.flt .f64 x) (.flt .f64 y) F = F (.bool ((Ieee.double.read x).order (Ieee.double.read y) == some .gt)) := by kernel_rfl
theorem lss_is (x y : Nat) (F : AV → Res2) : binC .lss (.flt .f64 x) (.flt .f64 y) F = F (.bool ((Ieee.double.read x).order (Ieee.double.read y) == some .lt)) := by kernel_rfl
theorem sfB_of (n x : Nat) (h : HP) : SF tabB (n + 1) 20 [uv x] h .no = some (.ret (.flt .f64 x) h, .no) := by kernel_rfl
theorem sfB_trunc (n x : Nat) (h : HP) : SF tabB (n + 1) 24 [.flt .f64 x] h .no = obQ (xtV .trunc [.flt .f64 x]) fun t => some (.ret t h, .no) := by kernel_rfl
theorem sfB_nan (n x : Nat) (h : HP) : SF tabB (n + 1) 25 [.flt .f64 x] h .no = some (.ret (.bool (neB x)) h, .no) := by kernel_rfl
theorem sfB_wof (n : Nat) (z : Int) (h : HP) : SF tabB (n + 1) 26 [.int .i64 z] h .no = some (.ret (.int .u32 (wrapF .u32 z)) h, .no) := by kernel_rfl
theorem evP_fi (y : Nat) : evP (.conv (.fi .i64) (.c (.flt .f64 y))) .leaf = convV (.fi .i64) (.flt .f64 y) := by kernel_rfl
theorem obI_i (x : Int) (F : Int → Res2) : obI .i64 (some (AV.int .i64 x)) F = F x := rfl
theorem sf_toint (n : Nat) {w : Nat} (hw : w < 4294967296) (h : HP) : SF tabB (n + 2) 10 [uv (Rl.reZ (sgW w))] h .no = some (.ret (.int .u32 (.ofNat w)) h, .no) := by
  have ha := sg_abs hw
  have hz := sgW_is hw
  rw [SF_succ, find10]
  show S10_0 (SF tabB (n + 1)) (n + 1) (.ofNat (Rl.reZ (sgW w))) h = _
  unfold S10_0
  refine (cal_of (sfB_of n _ h) _).trans ?_
  have e24 : SF tabB (n + 1) 24 [.flt .f64 (Rl.reZ (sgW w))] h .no = some (.ret (.flt .f64 (Rl.reZ (sgW w))) h, .no) := by
    rw [sfB_trunc, trunc_reZ ha]; rfl
  refine (cal_of e24 _).trans ?_
  refine (cal_of (sfB_nan n _ h) _).trans ?_
  refine (asB_b _ _).trans ?_
  rw [ne_nan, Rl.nan_near ha, brV_f, gtr_is, big_is, Rl.gt_near ha (by decide), decide_eq_false (by rw [hz]; split <;> omega)]
  refine (obB_b false _).trans ?_
  refine (br_f _ _).trans ?_
  rw [lss_is, low_is, show ((Ieee.double.read (Rl.reZ (sgW w))).order (Ieee.double.read (Rl.reZ (-2147483648))) == some .lt) = false from (Rl.lt_near ha (by decide)).trans (decide_eq_false (by rw [hz]; split <;> omega))]
  refine (asB_b false _).trans ?_
  refine (br_f _ _).trans ?_
  rw [evP_fi, conv_reZ ha]
  refine (obI_i _ _).trans ?_
  refine (cal_of (sfB_wof n _ h) _).trans ?_
  rw [wrap_sg hw]
  rfl
end
end Go.Proofs.YtmoabbfdehaenaaGreatDoor.Lx
