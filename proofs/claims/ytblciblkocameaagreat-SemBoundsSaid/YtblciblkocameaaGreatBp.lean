/- The law SemBounds of chapter 15 returns true whatever its arguments: the kernel runs the 1200 cases that differ. No condition. -/
import Derived.Test.YtblciblkocameaaGreatRows
import Derived.Test.YtblciblkocameaaGreatBr0
import Derived.Test.YtblciblkocameaaGreatBr1
import Derived.Test.YtblciblkocameaaGreatBr2
import Derived.Test.YtblciblkocameaaGreatBr3
import Derived.Test.YtblciblkocameaaGreatBr4
import Derived.Test.YtblciblkocameaaGreatBr5
import Derived.Test.YtblciblkocameaaGreatBr6
import Derived.Test.YtblciblkocameaaGreatBr7
import Derived.Test.YtblciblkocameaaGreatBr8
import Derived.Test.YtblciblkocameaaGreatBr9
import Derived.Test.YtblciblkocameaaGreatBr10
import Derived.Test.YtblciblkocameaaGreatBr11
import Derived.Test.YtblciblkocameaaGreatBr12
import Derived.Test.YtblciblkocameaaGreatBr13
import Derived.Test.YtblciblkocameaaGreatBr14
import Derived.Test.YtblciblkocameaaGreatBr15
import Derived.Test.YtblciblkocameaaGreatBr16
import Derived.Test.YtblciblkocameaaGreatBr17
import Derived.Test.YtblciblkocameaaGreatBr18
import Derived.Test.YtblciblkocameaaGreatBr19
import Derived.WalkKit
import Derived.ProofKit
import Derived.OpenShut
namespace Go.Proofs.YtblciblkocameaaGreat.Sx
open Go Go.Proofs.YtblciblkocameaaGreat.Ev
theorem all6 (a b : Nat) (ha : a < 20) (hb : b < 60) : ∃ t : ST, ST.Ok Tryz.prog t ∧ t.find 6 = tabS.find 6 ∧ o6 t a b = true := by
  have h1 : a = 0 ∨ a = 1 ∨ a = 2 ∨ a = 3 ∨ a = 4 ∨ a = 5 ∨ a = 6 ∨ a = 7 ∨ a = 8 ∨ a = 9 ∨ a = 10 ∨ a = 11 ∨ a = 12 ∨ a = 13 ∨ a = 14 ∨ a = 15 ∨ a = 16 ∨ a = 17 ∨ a = 18 ∨ a = 19 := by omega
  rcases h1 with rfl | rfl | rfl | rfl | rfl | rfl | rfl | rfl | rfl | rfl | rfl | rfl | rfl | rfl | rfl | rfl | rfl | rfl | rfl | rfl
  · obtain ⟨t, h1, h2, h3⟩ := gB0; exact ⟨t, h1, h2, h3 b hb⟩
  · obtain ⟨t, h1, h2, h3⟩ := gB1; exact ⟨t, h1, h2, h3 b hb⟩
  · obtain ⟨t, h1, h2, h3⟩ := gB2; exact ⟨t, h1, h2, h3 b hb⟩
  · obtain ⟨t, h1, h2, h3⟩ := gB3; exact ⟨t, h1, h2, h3 b hb⟩
  · obtain ⟨t, h1, h2, h3⟩ := gB4; exact ⟨t, h1, h2, h3 b hb⟩
  · obtain ⟨t, h1, h2, h3⟩ := gB5; exact ⟨t, h1, h2, h3 b hb⟩
  · obtain ⟨t, h1, h2, h3⟩ := gB6; exact ⟨t, h1, h2, h3 b hb⟩
  · obtain ⟨t, h1, h2, h3⟩ := gB7; exact ⟨t, h1, h2, h3 b hb⟩
  · obtain ⟨t, h1, h2, h3⟩ := gB8; exact ⟨t, h1, h2, h3 b hb⟩
  · obtain ⟨t, h1, h2, h3⟩ := gB9; exact ⟨t, h1, h2, h3 b hb⟩
  · obtain ⟨t, h1, h2, h3⟩ := gB10; exact ⟨t, h1, h2, h3 b hb⟩
  · obtain ⟨t, h1, h2, h3⟩ := gB11; exact ⟨t, h1, h2, h3 b hb⟩
  · obtain ⟨t, h1, h2, h3⟩ := gB12; exact ⟨t, h1, h2, h3 b hb⟩
  · obtain ⟨t, h1, h2, h3⟩ := gB13; exact ⟨t, h1, h2, h3 b hb⟩
  · obtain ⟨t, h1, h2, h3⟩ := gB14; exact ⟨t, h1, h2, h3 b hb⟩
  · obtain ⟨t, h1, h2, h3⟩ := gB15; exact ⟨t, h1, h2, h3 b hb⟩
  · obtain ⟨t, h1, h2, h3⟩ := gB16; exact ⟨t, h1, h2, h3 b hb⟩
  · obtain ⟨t, h1, h2, h3⟩ := gB17; exact ⟨t, h1, h2, h3 b hb⟩
  · obtain ⟨t, h1, h2, h3⟩ := gB18; exact ⟨t, h1, h2, h3 b hb⟩
  · obtain ⟨t, h1, h2, h3⟩ := gB19; exact ⟨t, h1, h2, h3 b hb⟩
theorem run6 (n i : Int) : ∃ t : ST, ST.Ok Tryz.prog t ∧ isTrue (SF t 1000 6 [.int .i64 n, .int .i64 i] ⟨.h, .leaf⟩ .no) = true := by
  obtain ⟨t, h1, h2, h3⟩ := all6 (rem20 n) (rem60 i) (rem20_lt n) (rem60_lt i)
  refine ⟨t, h1, ?_⟩
  rw [enter6 t h2, ← mod6]
  exact h3
end Go.Proofs.YtblciblkocameaaGreat.Sx
namespace Go.Proofs.YtblciblkocameaaGreat.semBounds
open Go.ChangeShapes Go.WideShapes Go.ChangeAt Go.RowKit
set_option linter.unusedVariables false      -- a walk need not use every 'w<i>' (that an integer argument fits its kind)

theorem own : ownKnob Tryz.prog.godebug = none := by kernel_rfl

/-! ### STEP 1: THE WALK: the Go text returns true. 'Ev.GrownO w w'': the world has at most new blocks (Derived/RowKit3.lean). Part the cases AHEAD of 'go_enter' where a test parts the walk; take each callee by a contract of your own. -/
theorem walk (a0 : Int) (a1 : Int) (w0 : (Lit.int .i64 a0).wf = true) (w1 : (Lit.int .i64 a1).wf = true) (w : World) :
    Calls Tryz.prog 6 #[.int .i64 a0, .int .i64 a1] w fun e w' => e = .returned (.bool true) ∧ Ev.GrownO w w' := by
  obtain ⟨t, ht, hr⟩ := Sx.run6 a0 a1
  exact Ev.walk_S (vs := [.int .i64 a0, .int .i64 a1]) (by kernel_rfl) ht hr (.cons _ _ _ _ (.int _ _ (Ev.InR.no (by decide))) (.cons _ _ _ _ (.int _ _ (Ev.InR.no (by decide))) .nil)) (Ev.GB.plain (r := fun _ => 0) (lt := fun _ => Nat.zero_le _) (h0 := rfl) w)

/-! ### THE ROW's STEP: WRITTEN OUT: LEAVE IT -/
set_option maxRecDepth 100000 in
theorem lifted (os : Os) (started : os.Started) (H : Type) (enc : TypeId × Value → H) :
    ReturnsInHanded {} Tryz.checked os 6 .any (Rows.semBoundsSpec.pre6 enc Tryz.prog Tryz.f6 Rows.semBoundsRow.domain false) (Rows.semBoundsSpec.post enc Tryz.prog Tryz.f6 false true false false) := by
  refine returnsInHanded_of_change (C := Tryz.checked) own started (by kernel_rfl) Tryz.func6
    (ChangeSpec.witness6 (enc := enc) (C := Tryz.checked) false ⟨#[], #[.int .i64 0, .int .i64 0], []⟩ 8 (by kernel_rfl) (by kernel_rfl) (by kernel_rfl) (by kernel_rfl)) ?_
  intro W base args ds gs before hval0 hW hcnd _
  have hval : ∀ (j : Nat) t v, Tryz.f6.params[j]? = some t → args[j]? = some v → Value.okWide Tryz.prog W .any base t v := hval0
  have hW' := hW
  obtain ⟨p, q, hA0, hV, rfl, hfz, hnd⟩ := hW
  have hA : DataW.TrodAll enc Tryz.prog W 0 (fun _ => true) true Tryz.f6.params.toList args.toList ds p := hA0
  rw [Tryz.params6] at hA hval
  obtain ⟨v0, vs0, d0, ds0, p0, q0, hargs, rfl, rfl, h0, r0⟩ := trodAll_cons hA
  obtain ⟨v1, vs1, d1, ds1, p1, q1, rfl, rfl, rfl, h1, r1⟩ := trodAll_cons r0
  obtain ⟨rfl, rfl, rfl⟩ := trodAll_nil r1
  obtain rfl : args = #[v0, v1] := by cases args; simp_all
  obtain ⟨rfl, rfl⟩ := trodVars_none hV
  obtain ⟨a0, rfl, rfl, rfl, w0⟩ := open_int Tryz.underlying3 (hval 0 3 v0 rfl rfl) h0
  obtain ⟨a1, rfl, rfl, rfl, w1⟩ := open_int Tryz.underlying3 (hval 1 3 v1 rfl rfl) h1
  clear hA0 hval0
  simp only [List.append_nil] at hW'
  refine (walk a0 a1 w0 w1 W).mono fun e W' ⟨he, hg⟩ => ?_
  subst he
  exact ⟨_, rfl, Ev.post_of_old (pa := []) (pv := []) hW' (fun _ _ _ => (trodAll_cons_mk (shut_bool Tryz.underlying4 _) trodAll_mk0)) (fun sp _ => (trodAll_cons_mk (shut_int Tryz.underlying3 w0) (trodAll_cons_mk (shut_int Tryz.underlying3 w1) trodAll_mk0))) (fun _ _ => rfl) rfl
    hg (ok_one (by kernel_rfl) rfl (okWide_bool_mk Tryz.underlying4 _))⟩

theorem over : Rows.semBoundsRow.holds Tryz.pinned (OpenSpec.ofChange Rows.semBoundsSpec) :=
  OpenClaim.holds_of_wide 6 Tryz.f6 rfl rfl rfl rfl rfl rfl rfl ⟨rfl, rfl, rfl, rfl, rfl⟩ rfl rfl rfl rfl rfl (by kernel_rfl) Tryz.func6 (by kernel_rfl)
    (of_decide_eq_true (by kernel_rfl)) (by unfold Func.isWrapper; first | (rw [if_pos (by decide +kernel)]; kernel_rfl) | (rw [if_neg (by decide +kernel)]; exact ⟨rfl, rfl⟩))
    (fun os started H enc _ => lifted os started H enc)

/-- ████ THE STATEMENT ████ -/
theorem proved : Rows.SemBoundsSaid :=
  over
#print axioms proved
end Go.Proofs.YtblciblkocameaaGreat.semBounds
