/- FoldWords: the pieces of its text. -/
import Derived.Test.YtakcpnpeadkfpaaGreatDoorGw
import Derived.Test.YtakcpnpeadkfpaaGreatDoorRa
set_option linter.unusedVariables false
set_option linter.unusedSimpArgs false
set_option linter.unusedSectionVars false
set_option maxRecDepth 100000
namespace Go.Proofs.YtakcpnpeadkfpaaGreatDoor.Lw
open Go Go.Proofs.YtakcpnpeadkfpaaGreatDoor.Lg Go.Proofs.YtakcpnpeadkfpaaGreatDoor.Ev Go.Proofs.YtakcpnpeadkfpaaGreatDoor.Sx Go.Proofs.YtakcpnpeadkfpaaGreatDoor.Ra

noncomputable def q1 : Code → Code | .seq a _ => a | c => c
noncomputable def q2 : Code → Code | .seq _ b => b | c => c
noncomputable def qb : Code → Code | .block _ b => b | .loop b => b | c => c
noncomputable def b4 : Code := Tryz.f4.body.getD .skip
noncomputable def cP0 : Code := q1 b4
noncomputable def cP1 : Code := q1 (q2 b4)
noncomputable def cP2 : Code := q1 (q2 (q2 b4))
noncomputable def cX : Code := q1 (q2 (q2 (q2 b4)))
noncomputable def cT : Code := q2 (q2 (q2 (q2 b4)))
noncomputable def cP3 : Code := q1 cX
noncomputable def cL : Code := q2 cX
noncomputable def cR : Code := q2 (qb (q2 (q2 (qb (qb cL)))))
abbrev nt4 : Nat := 87
theorem nt4_is : Tryz.f4.ntmps = nt4 := by kernel_rfl
theorem body4 : Tryz.f4.body = some (.seq cP0 (.seq cP1 (.seq cP2 (.seq (.seq cP3 cL) cT)))) := by kernel_rfl
noncomputable def nx (d : St) (o : Option Out) : St := match o with | some (.normal s) => s | _ => d
theorem sg32 {a : Nat} (ha : a < 4294967296) : wrapF .i32 (Int.ofNat a) = sgW a := by
  letI := rhoV 0 ⟨0, 0, 0⟩ rfl
  unfold sgW
  exact (sgn_i32 a ha).symm
theorem wd_4 {a b : Nat} (ha : a < 4294967296) (hb : b < 4294967296) (h : HP) : SF tabS 60 11 [iv 4, wv a, wv b] h .no = some (.ret (.tup [wv (bW (ltQ (sgW a) (sgW b))), iv 0]) h, .no) := by
  have e : SF tabS 60 11 [iv 4, wv a, wv b] h .no = cal (SF tabS 59) 25 [vB (ltQ (wrapF .i32 (Int.ofNat a)) (wrapF .i32 (Int.ofNat b)))] h fun t36 h1 => asI .u32 t36 fun t36a => some (.ret (.tup [(vW t36a), (vI (Int.ofNat 0))]) h1, .no) := by kernel_rfl
  rw [e, sg32 ha, sg32 hb]
  generalize ltQ (sgW a) (sgW b) = t
  cases t
  · exact (show cal (SF tabS 59) 25 [vB false] h (fun t36 h1 => asI .u32 t36 fun t36a => some (.ret (.tup [(vW t36a), (vI (Int.ofNat 0))]) h1, .no)) = some (.ret (.tup [wv (bW false), iv 0]) h, .no) from by kernel_rfl)
  · exact (show cal (SF tabS 59) 25 [vB true] h (fun t36 h1 => asI .u32 t36 fun t36a => some (.ret (.tup [(vW t36a), (vI (Int.ofNat 0))]) h1, .no)) = some (.ret (.tup [wv (bW true), iv 0]) h, .no) from by kernel_rfl)
noncomputable def w4P (xs : List AV) (h : HP) : Option (AV × HP) := match xs with
  | [.int .i64 (.ofNat op), .int .u32 (.ofNat a), .int .u32 (.ofNat b)] => bif Nat.beq op 4 then some (.tup [wv (bW (ltQ (sgW a) (sgW b))), iv 0], h) else wdP xs h
  | _ => none
noncomputable def tabF : ST := .node 10 tabA (.node 11 (.pr 11 w4P) (.node 20 tabA (.node 21 (.pr 21 truP) (.node 33 tabA (.node 34 (.pr 34 sgP) tabA)))))
theorem okF4 (m : Int) (lf : Ev.Loc) : letI := rhoV m lf rfl; ST.Ok Tryz.prog Lw.tabF := by
  letI := rhoV m lf rfl
  have p11 : ∀ w0, PrOk Tryz.prog w0 11 w4P := fun w0 => pr_of32 (n := 60) (by kernel_rfl) okS ⟨_, Tryz.func11, by kernel_rfl, by decide +kernel⟩ (fun xs h r hle hr => by
    unfold w4P at hr
    split at hr
    · rename_i op a b
      have h1 := hle a (by simp)
      have h2 := hle b (by simp)
      cases hq : Nat.beq op 4 with
      | true =>
        rw [hq] at hr
        obtain rfl := Nat.eq_of_beq_eq_true hq
        obtain rfl := Option.some.inj (show some _ = some r from hr)
        exact wd_4 (by omega) (by omega) h
      | false =>
        rw [hq] at hr
        have hr : wdP [.int .i64 (.ofNat op), .int .u32 (.ofNat a), .int .u32 (.ofNat b)] h = some r := hr
        unfold wdP at hr
        obtain ⟨hl, hr⟩ := bif_eq hr
        obtain rfl := Option.some.inj hr
        have := wd_ok op a b (memO_mem hl) (by omega) (by omega) h
        rw [dw_is (memO_mem hl) (by omega) (by omega)] at this
        exact this
    · simp at hr) w0
  have p34 : ∀ w0, PrOk Tryz.prog w0 34 sgP := fun w0 => pr_of32 (n := 20) (by kernel_rfl) okS ⟨_, Tryz.func34, by kernel_rfl, by decide +kernel⟩ (fun xs h r hle hr => by
    unfold sgP at hr
    split at hr
    · rename_i a
      have h1 := hle a (by simp)
      obtain rfl := Option.some.inj hr
      exact sf_sgP (by omega) h
    · simp at hr) w0
  have p21 : ∀ w0, PrOk Tryz.prog w0 21 truP := fun w0 => pr_ret (n := 20) (by kernel_rfl) okS ⟨_, Tryz.func21, by kernel_rfl, by decide +kernel⟩ (fun xs h r hr => by
    unfold truP at hr
    split at hr
    · obtain rfl := Option.some.inj hr
      exact ⟨rfl, rfl, rfl, ret_of_gc (tru_ran m _)⟩
    · simp at hr) w0
  exact .node _ _ _ (okA m lf) (.node _ _ _ (.pr _ _ p11) (.node _ _ _ (okA m lf) (.node _ _ _ (.pr _ _ p21) (.node _ _ _ (okA m lf) (.node _ _ _ (.pr _ _ p34) (okA m lf))))))
noncomputable def call4 : CallF := callS Lw.tabF 900
noncomputable def ev (c : Code) (s : St) : Option Out := evC call4 100 (trCode Tryz.prog nt4 c) s
section
variable (m : Int) (lf : Ev.Loc) (a b : Nat)
noncomputable def s0 : St := ⟨T.set (wv b) (posOf 1) (T.set (wv a) (posOf 0) .leaf), gH m, [], .no⟩
noncomputable def s1 : St := nx (s0 m a b) (ev cP0 (s0 m a b))
noncomputable def s2 : St := nx (s0 m a b) (ev cP1 (s1 m a b))
noncomputable def s3 : St := nx (s0 m a b) (ev cP2 (s2 m a b))
noncomputable def s4 : St := nx (s0 m a b) (ev cP3 (s3 m a b))
theorem g1 : ev cP0 (s0 m a b) = some (.normal (s1 m a b)) := by kernel_rfl
theorem g2 : ev cP1 (s1 m a b) = some (.normal (s2 m a b)) := by kernel_rfl
theorem g3 : ev cP2 (s2 m a b) = some (.normal (s3 m a b)) := by kernel_rfl
theorem g4 : ev cP3 (s3 m a b) = some (.normal (s4 m a b)) := by kernel_rfl
end
end Go.Proofs.YtakcpnpeadkfpaaGreatDoor.Lw
