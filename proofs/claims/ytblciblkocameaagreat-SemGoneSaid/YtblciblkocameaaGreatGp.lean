/- The law SemGone of chapter 15 returns true whatever its arguments: the kernel runs the 60 programs that differ. No condition. -/
import Derived.Test.YtblciblkocameaaGreatRows
import Derived.Test.YtblciblkocameaaGreatGr0
import Derived.Test.YtblciblkocameaaGreatGr1
import Derived.Test.YtblciblkocameaaGreatGr2
import Derived.Test.YtblciblkocameaaGreatGr3
import Derived.Test.YtblciblkocameaaGreatGr4
import Derived.WalkKit
import Derived.ProofKit
import Derived.OpenShut
namespace Go.Proofs.YtblciblkocameaaGreat.Sx
open Go Go.Proofs.YtblciblkocameaaGreat.Ev
theorem all8 (a : Nat) (b : Bool) (ha : a < 30) : o8 a b = true := by
  have h1 : a = 0 ∨ a = 1 ∨ a = 2 ∨ a = 3 ∨ a = 4 ∨ a = 5 ∨ a = 6 ∨ a = 7 ∨ a = 8 ∨ a = 9 ∨ a = 10 ∨ a = 11 ∨ a = 12 ∨ a = 13 ∨ a = 14 ∨ a = 15 ∨ a = 16 ∨ a = 17 ∨ a = 18 ∨ a = 19 ∨ a = 20 ∨ a = 21 ∨ a = 22 ∨ a = 23 ∨ a = 24 ∨ a = 25 ∨ a = 26 ∨ a = 27 ∨ a = 28 ∨ a = 29 := by omega
  cases b <;> rcases h1 with rfl | rfl | rfl | rfl | rfl | rfl | rfl | rfl | rfl | rfl | rfl | rfl | rfl | rfl | rfl | rfl | rfl | rfl | rfl | rfl | rfl | rfl | rfl | rfl | rfl | rfl | rfl | rfl | rfl | rfl
  · exact (and2G_eq _ _ gG0).1
  · exact (and2G_eq _ _ (and2G_eq _ _ gG0).2).1
  · exact (and2G_eq _ _ (and2G_eq _ _ gG0).2).2
  · exact (and2G_eq _ _ gG1).1
  · exact (and2G_eq _ _ (and2G_eq _ _ gG1).2).1
  · exact (and2G_eq _ _ (and2G_eq _ _ gG1).2).2
  · exact (and2G_eq _ _ gG2).1
  · exact (and2G_eq _ _ (and2G_eq _ _ gG2).2).1
  · exact (and2G_eq _ _ (and2G_eq _ _ gG2).2).2
  · exact (and2G_eq _ _ gG3).1
  · exact (and2G_eq _ _ (and2G_eq _ _ gG3).2).1
  · exact (and2G_eq _ _ (and2G_eq _ _ gG3).2).2
  · exact (and2G_eq _ _ gG4).1
  · exact (and2G_eq _ _ (and2G_eq _ _ gG4).2).1
  · exact (and2G_eq _ _ (and2G_eq _ _ gG4).2).2
  · exact (and2G_eq _ _ gG5).1
  · exact (and2G_eq _ _ (and2G_eq _ _ gG5).2).1
  · exact (and2G_eq _ _ (and2G_eq _ _ gG5).2).2
  · exact (and2G_eq _ _ gG6).1
  · exact (and2G_eq _ _ (and2G_eq _ _ gG6).2).1
  · exact (and2G_eq _ _ (and2G_eq _ _ gG6).2).2
  · exact (and2G_eq _ _ gG7).1
  · exact (and2G_eq _ _ (and2G_eq _ _ gG7).2).1
  · exact (and2G_eq _ _ (and2G_eq _ _ gG7).2).2
  · exact (and2G_eq _ _ gG8).1
  · exact (and2G_eq _ _ (and2G_eq _ _ gG8).2).1
  · exact (and2G_eq _ _ (and2G_eq _ _ gG8).2).2
  · exact (and2G_eq _ _ gG9).1
  · exact (and2G_eq _ _ (and2G_eq _ _ gG9).2).1
  · exact (and2G_eq _ _ (and2G_eq _ _ gG9).2).2
  · exact (and2G_eq _ _ gG10).1
  · exact (and2G_eq _ _ (and2G_eq _ _ gG10).2).1
  · exact (and2G_eq _ _ (and2G_eq _ _ gG10).2).2
  · exact (and2G_eq _ _ gG11).1
  · exact (and2G_eq _ _ (and2G_eq _ _ gG11).2).1
  · exact (and2G_eq _ _ (and2G_eq _ _ gG11).2).2
  · exact (and2G_eq _ _ gG12).1
  · exact (and2G_eq _ _ (and2G_eq _ _ gG12).2).1
  · exact (and2G_eq _ _ (and2G_eq _ _ gG12).2).2
  · exact (and2G_eq _ _ gG13).1
  · exact (and2G_eq _ _ (and2G_eq _ _ gG13).2).1
  · exact (and2G_eq _ _ (and2G_eq _ _ gG13).2).2
  · exact (and2G_eq _ _ gG14).1
  · exact (and2G_eq _ _ (and2G_eq _ _ gG14).2).1
  · exact (and2G_eq _ _ (and2G_eq _ _ gG14).2).2
  · exact (and2G_eq _ _ gG15).1
  · exact (and2G_eq _ _ (and2G_eq _ _ gG15).2).1
  · exact (and2G_eq _ _ (and2G_eq _ _ gG15).2).2
  · exact (and2G_eq _ _ gG16).1
  · exact (and2G_eq _ _ (and2G_eq _ _ gG16).2).1
  · exact (and2G_eq _ _ (and2G_eq _ _ gG16).2).2
  · exact (and2G_eq _ _ gG17).1
  · exact (and2G_eq _ _ (and2G_eq _ _ gG17).2).1
  · exact (and2G_eq _ _ (and2G_eq _ _ gG17).2).2
  · exact (and2G_eq _ _ gG18).1
  · exact (and2G_eq _ _ (and2G_eq _ _ gG18).2).1
  · exact (and2G_eq _ _ (and2G_eq _ _ gG18).2).2
  · exact (and2G_eq _ _ gG19).1
  · exact (and2G_eq _ _ (and2G_eq _ _ gG19).2).1
  · exact (and2G_eq _ _ (and2G_eq _ _ gG19).2).2
theorem run8 (n : Int) (b : Bool) : isTrue (SF tabS 1000 8 [.int .i64 n, .bool b] ⟨.h, .leaf⟩ .no) = true := by
  rw [enter8, ← mod8]
  exact all8 (rem30 n) b (rem30_lt n)
end Go.Proofs.YtblciblkocameaaGreat.Sx
namespace Go.Proofs.YtblciblkocameaaGreat.semGone
open Go.ChangeShapes Go.WideShapes Go.ChangeAt Go.RowKit
set_option linter.unusedVariables false      -- a walk need not use every 'w<i>' (that an integer argument fits its kind)

theorem own : ownKnob Tryz.prog.godebug = none := by kernel_rfl

/-! ### STEP 1: THE WALK: the Go text returns true. 'Grown w w'': the world has at most new blocks (Derived/RowKit3.lean). Part the cases AHEAD of 'go_enter' where a test parts the walk; take each callee by a contract of your own. -/
theorem walk (a0 : Int) (a1 : Bool) (w0 : (Lit.int .i64 a0).wf = true) (w : World) :
    Calls Tryz.prog 8 #[.int .i64 a0, .bool a1] w fun e w' => e = .returned (.bool true) ∧ Grown w w' := by
  exact Ev.walk_S (vs := [.int .i64 a0, .bool a1]) (by kernel_rfl) Sx.okS (Sx.run8 a0 a1) (.cons _ _ _ _ (.int _ _) (.cons _ _ _ _ (.bool _) .nil)) w

/-! ### THE ROW's STEP: WRITTEN OUT: LEAVE IT -/
set_option maxRecDepth 100000 in
theorem lifted (os : Os) (started : os.Started) (H : Type) (enc : TypeId × Value → H) :
    ReturnsInHanded {} Tryz.checked os 8 .any (Rows.semGoneSpec.pre6 enc Tryz.prog Tryz.f8 Rows.semGoneRow.domain false) (Rows.semGoneSpec.post enc Tryz.prog Tryz.f8 false true false false) := by
  refine returnsInHanded_of_change (C := Tryz.checked) own started (by kernel_rfl) Tryz.func8
    (ChangeSpec.witness6 (enc := enc) (C := Tryz.checked) false ⟨#[], #[.int .i64 0, .bool false], []⟩ 8 (by kernel_rfl) (by kernel_rfl) (by kernel_rfl) (by kernel_rfl)) ?_
  intro W base args ds gs before hval0 hW hcnd _
  have hval : ∀ (j : Nat) t v, Tryz.f8.params[j]? = some t → args[j]? = some v → Value.okWide Tryz.prog W .any base t v := hval0
  have hW' := hW
  obtain ⟨p, q, hA0, hV, rfl, hfz, hnd⟩ := hW
  have hA : DataW.TrodAll enc Tryz.prog W 0 (fun _ => true) true Tryz.f8.params.toList args.toList ds p := hA0
  rw [Tryz.params8] at hA hval
  obtain ⟨v0, vs0, d0, ds0, p0, q0, hargs, rfl, rfl, h0, r0⟩ := trodAll_cons hA
  obtain ⟨v1, vs1, d1, ds1, p1, q1, rfl, rfl, rfl, h1, r1⟩ := trodAll_cons r0
  obtain ⟨rfl, rfl, rfl⟩ := trodAll_nil r1
  obtain rfl : args = #[v0, v1] := by cases args; simp_all
  obtain ⟨rfl, rfl⟩ := trodVars_none hV
  obtain ⟨a0, rfl, rfl, rfl, w0⟩ := open_int Tryz.underlying3 (hval 0 3 v0 rfl rfl) h0
  obtain ⟨a1, rfl, rfl, rfl⟩ := open_bool Tryz.underlying4 (hval 1 4 v1 rfl rfl) h1
  clear hA0 hval0
  simp only [List.append_nil] at hW'
  refine (walk a0 a1 w0 W).mono fun e W' ⟨he, hg⟩ => ?_
  subst he
  exact ⟨_, rfl, post_of_same (pa := []) (pv := []) hW' (fun _ _ _ => (trodAll_cons_mk (shut_bool Tryz.underlying4 _) trodAll_mk0)) (fun sp _ => (trodAll_cons_mk (shut_int Tryz.underlying3 w0) (trodAll_cons_mk (shut_bool Tryz.underlying4 _) trodAll_mk0))) (fun _ _ => rfl) rfl
    (hg.frame _) hg.2.1 (ok_one (by kernel_rfl) rfl (okWide_bool_mk Tryz.underlying4 _))⟩

theorem over : Rows.semGoneRow.holds Tryz.pinned (OpenSpec.ofChange Rows.semGoneSpec) :=
  OpenClaim.holds_of_wide 8 Tryz.f8 rfl rfl rfl rfl rfl rfl rfl ⟨rfl, rfl, rfl, rfl, rfl⟩ rfl rfl rfl rfl rfl (by kernel_rfl) Tryz.func8 (by kernel_rfl)
    (of_decide_eq_true (by kernel_rfl)) (by unfold Func.isWrapper; first | (rw [if_pos (by decide +kernel)]; kernel_rfl) | (rw [if_neg (by decide +kernel)]; exact ⟨rfl, rfl⟩))
    (fun os started H enc _ => lifted os started H enc)

/-- ████ THE STATEMENT ████ -/
theorem proved : Rows.SemGoneSaid :=
  over
#print axioms proved
end Go.Proofs.YtblciblkocameaaGreat.semGone
