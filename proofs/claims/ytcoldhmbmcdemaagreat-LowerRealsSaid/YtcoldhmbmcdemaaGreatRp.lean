/- The law LowerReals of chapter 17 returns true whatever its arguments: the kernel runs it at words of which nothing is known. No condition. -/
import Derived.Test.YtcoldhmbmcdemaaGreatRows
import Derived.Test.YtcoldhmbmcdemaaGreatRr0
import Derived.Test.YtcoldhmbmcdemaaGreatRr1
import Derived.Test.YtcoldhmbmcdemaaGreatRr2
import Derived.Test.YtcoldhmbmcdemaaGreatRr3
import Derived.WalkKit
import Derived.ProofKit
import Derived.OpenShut
set_option linter.unusedVariables false
namespace Go.Proofs.YtcoldhmbmcdemaaGreat.Sx
open Go Go.Proofs.YtcoldhmbmcdemaaGreat.Ev
instance rho0R : Rho := Rho.plain (fun _ => 0) (fun _ => Nat.zero_le _) rfl
theorem runR (x : Nat) : isTrue (SF (tabR (x % 4)) 1000 6 [.int .u8 (.ofNat x), .int .u32 (.negSucc 0), .int .u32 (.negSucc 1)] g00 .no) = true := by
  rw [enterR, ← modR]
  have h : x % 4 = 0 ∨ x % 4 = 1 ∨ x % 4 = 2 ∨ x % 4 = 3 := by omega
  rcases h with h | h | h | h <;> rw [h]
  · exact gR0
  · exact gR1
  · exact gR2
  · exact gR3
theorem nat_ofR {a : Int} (h0 : (0 : Int) ≤ a) : ∃ n : Nat, a = .ofNat n := ⟨a.toNat, by show a = ((a.toNat : Nat) : Int); omega⟩
end Go.Proofs.YtcoldhmbmcdemaaGreat.Sx
namespace Go.Proofs.YtcoldhmbmcdemaaGreat.lowerReals
open Go.ChangeShapes Go.WideShapes Go.ChangeAt Go.RowKit
set_option linter.unusedVariables false      -- a walk need not use every 'w<i>' (that an integer argument fits its kind)

theorem own : ownKnob Tryz.prog.godebug = none := by kernel_rfl

/-! ### STEP 1: THE WALK: the Go text returns true. 'Ev.GrownO w w'': the world has at most new blocks (Derived/RowKit3.lean). Part the cases AHEAD of 'go_enter' where a test parts the walk; take each callee by a contract of your own. -/
theorem walk (a0 : Int) (a1 : Int) (a2 : Int) (w0 : (Lit.int .u8 a0).wf = true) (w1 : (Lit.int .u32 a1).wf = true) (w2 : (Lit.int .u32 a2).wf = true) (w : World) :
    Calls Tryz.prog 6 #[.int .u8 a0, .int .u32 a1, .int .u32 a2] w fun e w' => e = .returned (.bool true) ∧ Ev.GrownO w w' := by
  have h0 : (0 : Int) ≤ a0 ∧ a0 ≤ 4294967295 := by
    simp [Lit.wf, IntKind.min, IntKind.max, IntKind.signed, IntKind.bits] at w0
    omega
  have h1 : (0 : Int) ≤ a1 ∧ a1 ≤ 4294967295 := by
    simp [Lit.wf, IntKind.min, IntKind.max, IntKind.signed, IntKind.bits] at w1
    omega
  have h2 : (0 : Int) ≤ a2 ∧ a2 ≤ 4294967295 := by
    simp [Lit.wf, IntKind.min, IntKind.max, IntKind.signed, IntKind.bits] at w2
    omega
  obtain ⟨x, rfl⟩ := Sx.nat_ofR h0.1
  obtain ⟨y, rfl⟩ := Sx.nat_ofR h1.1
  obtain ⟨z, rfl⟩ := Sx.nat_ofR h2.1
  have hy : y ≤ 4294967295 := Int.ofNat_le.1 h1.2
  have hz : z ≤ 4294967295 := Int.ofNat_le.1 h2.2
  letI := Sx.rhoR (x % 4) y z hy hz
  have hg : Ev.GB w := ⟨fun b l h => (by cases (show (none : Option Ev.Loc) = some l from h)), fun b l k h => (by cases (show (none : Option Ev.Loc) = some l from h))⟩
  exact Ev.walk_S (vs := [.int .u8 (.ofNat x), .int .u32 (.ofNat y), .int .u32 (.ofNat z)]) (by kernel_rfl) (Sx.okR (x % 4) y z (Nat.mod_lt _ (by omega)) hy hz) (Sx.runR x) (.cons _ _ _ _ (.int _ _ (Ev.InR.no (by decide))) (.cons _ _ _ _ (.tok 0) (.cons _ _ _ _ (.tok 1) .nil))) hg

/-! ### THE ROW's STEP: WRITTEN OUT: LEAVE IT -/
set_option maxRecDepth 100000 in
theorem lifted (os : Os) (started : os.Started) (H : Type) (enc : TypeId × Value → H) :
    ReturnsInHanded {} Tryz.checked os 6 .any (Rows.lowerRealsSpec.pre6 enc Tryz.prog Tryz.f6 Rows.lowerRealsRow.domain false) (Rows.lowerRealsSpec.post enc Tryz.prog Tryz.f6 false true false false) := by
  refine returnsInHanded_of_change (C := Tryz.checked) own started (by kernel_rfl) Tryz.func6
    (ChangeSpec.witness6 (enc := enc) (C := Tryz.checked) false ⟨#[], #[.int .u8 0, .int .u32 0, .int .u32 0], []⟩ 8 (by kernel_rfl) (by kernel_rfl) (by kernel_rfl) (by kernel_rfl)) ?_
  intro W base args ds gs before hval0 hW hcnd _
  have hval : ∀ (j : Nat) t v, Tryz.f6.params[j]? = some t → args[j]? = some v → Value.okWide Tryz.prog W .any base t v := hval0
  have hW' := hW
  obtain ⟨p, q, hA0, hV, rfl, hfz, hnd⟩ := hW
  have hA : DataW.TrodAll enc Tryz.prog W 0 (fun _ => true) true Tryz.f6.params.toList args.toList ds p := hA0
  rw [Tryz.params6] at hA hval
  obtain ⟨v0, vs0, d0, ds0, p0, q0, hargs, rfl, rfl, h0, r0⟩ := trodAll_cons hA
  obtain ⟨v1, vs1, d1, ds1, p1, q1, rfl, rfl, rfl, h1, r1⟩ := trodAll_cons r0
  obtain ⟨v2, vs2, d2, ds2, p2, q2, rfl, rfl, rfl, h2, r2⟩ := trodAll_cons r1
  obtain ⟨rfl, rfl, rfl⟩ := trodAll_nil r2
  obtain rfl : args = #[v0, v1, v2] := by cases args; simp_all
  obtain ⟨rfl, rfl⟩ := trodVars_none hV
  obtain ⟨a0, rfl, rfl, rfl, w0⟩ := open_int Tryz.underlying5 (hval 0 5 v0 rfl rfl) h0
  obtain ⟨a1, rfl, rfl, rfl, w1⟩ := open_int Tryz.underlying24 (hval 1 24 v1 rfl rfl) h1
  obtain ⟨a2, rfl, rfl, rfl, w2⟩ := open_int Tryz.underlying24 (hval 2 24 v2 rfl rfl) h2
  clear hA0 hval0
  simp only [List.append_nil] at hW'
  refine (walk a0 a1 a2 w0 w1 w2 W).mono fun e W' ⟨he, hg⟩ => ?_
  subst he
  exact ⟨_, rfl, Ev.post_of_old (pa := []) (pv := []) hW' (fun _ _ _ => (trodAll_cons_mk (shut_bool Tryz.underlying4 _) trodAll_mk0)) (fun sp _ => (trodAll_cons_mk (shut_int Tryz.underlying5 w0) (trodAll_cons_mk (shut_int Tryz.underlying24 w1) (trodAll_cons_mk (shut_int Tryz.underlying24 w2) trodAll_mk0)))) (fun _ _ => rfl) rfl
    hg (ok_one (by kernel_rfl) rfl (okWide_bool_mk Tryz.underlying4 _))⟩

theorem over : Rows.lowerRealsRow.holds Tryz.pinned (OpenSpec.ofChange Rows.lowerRealsSpec) :=
  OpenClaim.holds_of_wide 6 Tryz.f6 rfl rfl rfl rfl rfl rfl rfl ⟨rfl, rfl, rfl, rfl, rfl⟩ rfl rfl rfl rfl rfl (by kernel_rfl) Tryz.func6 (by kernel_rfl)
    (of_decide_eq_true (by kernel_rfl)) (by unfold Func.isWrapper; first | (rw [if_pos (by decide +kernel)]; kernel_rfl) | (rw [if_neg (by decide +kernel)]; exact ⟨rfl, rfl⟩))
    (fun os started H enc _ => lifted os started H enc)

/-- ████ THE STATEMENT ████ -/
theorem proved : Rows.LowerRealsSaid :=
  over
#print axioms proved
end Go.Proofs.YtcoldhmbmcdemaaGreat.lowerReals
