/- Functions, printed by a program of ours: their code, what they do, and that it is so. -/
import Derived.Test.YtblciblkocameaaGreatSp
set_option maxRecDepth 8000
set_option linter.unusedVariables false
namespace Go.Proofs.YtblciblkocameaaGreat.Sx
open Go Go.Proofs.YtblciblkocameaaGreat.Ev
noncomputable section
/- 114 -/
def v114_0 : List Pos := [p2, p4, p5, p6]
def c114_0 : XC := (.seq (.ops true (XL.of [.L p51 (.cells 5 q2) .v, .L p52 (.cells 8 q6) .v, .o ⟨none, (.e (.stores 5 q4 q51)), none, [⟨none, .cells 8 q6, p52⟩]⟩ .v, .ss 8 q5 q52])) (.s .ret))
def v114_2 : List Pos := [p1, p2, p4, p5, p6]
def c114_2 : XC := (.block 1 (.sO [.L p31 (.cells 5 q2) .v, .cl p32 50 [q31] .v, .P p33 (.field 1 1 false q32) .s, .mv p7 q33 .s] (.sO [.P p34 (.build [(kI 0), (.str []), (.str []), (.int .u32 (.ofNat 0)), (.int .u64 (.ofNat 0)), .nils, (kI 0), (kI 0)] []) .v, .al p8 (.new [(kI 0), (.str []), (.str []), (.int .u32 (.ofNat 0)), (.int .u64 (.ofNat 0)), .nils, (kI 0), (kI 0)]), .ss 8 q8 q34] (.sO [.L p36 (.cells 5 q2) .v, .cl p37 74 [q36] .v, .mv p38 q7 .s, .cl p39 140 [q38] tI, .bn p40 .add q39 (ci 1) tI, .cl p41 114 [q37, q40] .v, .mv p35 q41 .v, .P p42 (.ext q35 0) .v, .P p43 (.ext q35 1) .v, .ss 5 q2 q42, .ss 8 q8 q43] (.s (.oX [.mv p44 q7 .s, .L p45 (.cells 8 q6) .v, .L p46 (.cells 8 q8) .v, .al p47 (.bsl [(kI 0), (.str []), (.str []), (.int .u32 (.ofNat 0)), (.int .u64 (.ofNat 0)), .nils, (kI 0), (kI 0), (kI 0), (.str []), (.str []), (.int .u32 (.ofNat 0)), (.int .u64 (.ofNat 0)), .nils, (kI 0), (kI 0)] 2 [⟨0, 8, q45⟩, ⟨8, 8, q46⟩]), .fa p48 7 q6, .ld p49 q48 tI, .P p50 (.build [(kI 0), (.str []), (.str []), (.int .u32 (.ofNat 0)), (.int .u64 (.ofNat 0)), .nils, (kI 0), (kI 0)] [⟨0, 1, (ci 5)⟩, ⟨1, 1, q44⟩, ⟨5, 1, q47⟩, ⟨7, 1, q49⟩]) .v, .ss 8 q6 q50]))))))
def c114_5 : XC := (.cond q30 (.s .skip) (.s (.exit 0)))
def l114_4 : XL := (XL.of [])
def l114_3 : XL := (XL.pre [.mv p23 q22 .b, .sp p23, .o ⟨(some p24), (.l (.cells 5 q2)), (some (p23, true)), []⟩ .v, .o ⟨(some p25), (.call (.fn 50) [q24]), (some (p23, true)), []⟩ .v, .G p23 true p26 (.field 1 1 false q25) .s, .o ⟨(some p27), (.call (.fn 140) [q26]), (some (p23, true)), []⟩ tI, .G p23 true p28 (.mov q1) tI, .G p23 true p29 (.bin .geq q27 q28) .b, .P p30 (.pick q23 q29 (cb false)) .b, .jn p23 [p1, p2, p4, p5, p6, p30]] l114_4)
def v114_1 : List Pos := [p1, p2, p4, p5, p6]
def c114_1b : XC := (.sj v114_2 (.opq false (XL.pre [.fa p14 3 q2, .ld p15 q14 tI, .bn p16 .eql q15 (ci 0) .b, .mv p17 q16 .b, .sp p17, .o ⟨(some p18), (.l (.cells 5 q2)), (some (p17, true)), []⟩ .v, .o ⟨(some p19), (.call (.fn 50) [q18]), (some (p17, true)), []⟩ .v, .G p17 true p20 (.field 0 1 false q19) tI, .G p17 true p21 (.bin .eql q20 (ci 4)) .b, .P p22 (.pick q17 q21 (cb false)) .b, .jn p17 [p1, p2, p4, p5, p6, p22]] l114_3) c114_5) c114_2)
def c114_e : XC := (.sO [.al p2 (.box q0), .al p4 (.new [.nils, (kI 0), (kI 0), (kI 0), (kI 0)]), .al p5 (.new [(kI 0), (.str []), (.str []), (.int .u32 (.ofNat 0)), (.int .u64 (.ofNat 0)), .nils, (kI 0), (kI 0)])] (.sO [.L p10 (.cells 5 q2) .v, .cl p11 139 [q10] .v, .mv p9 q11 .v, .P p12 (.ext q9 0) .v, .P p13 (.ext q9 1) .v, .al p6 (.new [(kI 0), (.str []), (.str []), (.int .u32 (.ofNat 0)), (.int .u64 (.ofNat 0)), .nils, (kI 0), (kI 0)]), .ss 5 q2 q12, .ss 8 q6 q13] (.sj v114_0 (.block 0 (.loop v114_1 c114_1b)) c114_0)))
def x114 : XFn := ⟨[.v, tI], false, [(.cells 5 p4), (.cells 8 p5)], c114_e⟩
def e114_0 (k) (t2 : AV) (t4 : AV) (t5 : AV) (t6 : AV) (h) := kN k [(p2, t2), (p4, t4), (p5, t5), (p6, t6)] h
def S114_0 (D : CallD) (m : Nat) (t2 : AV) (t4 : AV) (t5 : AV) (t6 : AV) (h : HP) : Res2 :=
 cellsC 5 t2 h fun t51 =>
 cellsC 8 t6 h fun t52 =>
 stsC 5 t4 t51 h fun h14 =>
 br (again [⟨none, .cells 8 q6, p52⟩] (mkT [(p52, t52), (p6, t6)]) h14) (
 stsC 8 t5 t52 h14 fun h15 =>
 XFn.endOf x114 D (.ret ⟨(mkT [(p4, t4), (p5, t5)]), h15, [], .no⟩)) none
def e114_2 (k) (t1 : Int) (t2 : AV) (t4 : AV) (t5 : AV) (t6 : AV) (h) := kN k [(p1, (vI t1)), (p2, t2), (p4, t4), (p5, t5), (p6, t6)] h
def S114_2 (D : CallD) (m : Nat) (g1 : Int → AV → AV → AV → AV → HP → Res2) (t1 : Int) (t2 : AV) (t4 : AV) (t5 : AV) (t6 : AV) (h : HP) : Res2 :=
 cellsC 5 t2 h fun t31 =>
 cal D 50 [t31] h fun t32 h16 =>
 fldC 1 1 false t32 fun vt33 => asS vt33 fun t33 =>
 let t34 : AV := (AV.agg [(vI (Int.ofNat 0)), (vS ([] : LN)), (vS ([] : LN)), (vW (Int.ofNat 0)), (AV.int .u64 (Int.ofNat 0)), (.nils : AV), (vI (Int.ofNat 0)), (vI (Int.ofNat 0))])
 let t8 : AV := AV.ptr (HP.nxQ h16) 0
 let h17 : HP := HP.newQ h16 (.cells true [(kI 0), (.str []), (.str []), (.int .u32 (.ofNat 0)), (.int .u64 (.ofNat 0)), .nils, (kI 0), (kI 0)])
 stsC 8 t8 t34 h17 fun h18 =>
 cellsC 5 t2 h18 fun t36 =>
 cal D 74 [t36] h18 fun t37 h19 =>
 cal D 140 [(vS t33)] h19 fun t39 h20 =>
 asI .i64 t39 fun t39a =>
 let t40 : Int := wrQ .i64 (addQ t39a (Int.ofNat 1))
 cal D 114 [t37, (vI t40)] h20 fun t41 h21 =>
 extC t41 0 fun t42 =>
 extC t41 1 fun t43 =>
 stsC 5 t2 t42 h21 fun h22 =>
 stsC 8 t8 t43 h22 fun h23 =>
 cellsC 8 t6 h23 fun t45 =>
 cellsC 8 t8 h23 fun t46 =>
 obQ (evA (.bsl [(kI 0), (.str []), (.str []), (.int .u32 (.ofNat 0)), (.int .u64 (.ofNat 0)), .nils, (kI 0), (kI 0), (kI 0), (.str []), (.str []), (.int .u32 (.ofNat 0)), (.int .u64 (.ofNat 0)), .nils, (kI 0), (kI 0)] 2 [⟨0, 8, (.c t45)⟩, ⟨8, 8, (.c t46)⟩]) .leaf) fun r24 =>
 let t47 : AV := vkV r24.2 (HP.nxQ h23)
 let h25 : HP := HP.newQ h23 r24.1
 faC 7 t6 fun t48 =>
 ldI t48 h25 fun t49 =>
 obQ (evP (.build [(kI 0), (.str []), (.str []), (.int .u32 (.ofNat 0)), (.int .u64 (.ofNat 0)), .nils, (kI 0), (kI 0)] [⟨0, 1, (.c (vI (Int.ofNat 5)))⟩, ⟨1, 1, (.c (vS t33))⟩, ⟨5, 1, (.c t47)⟩, ⟨7, 1, (.c (vI t49))⟩]) .leaf) fun t50 =>
 stsC 8 t6 t50 h25 fun h26 =>
 g1 t1 t2 t4 t5 t6 h26
def e114_4 (k) (t1 : Int) (t2 : AV) (t4 : AV) (t5 : AV) (t6 : AV) (t30 : Bool) (h) := kN k [(p1, (vI t1)), (p2, t2), (p4, t4), (p5, t5), (p6, t6), (p30, (vB t30))] h
def S114_4 (D : CallD) (m : Nat) (g1 : Int → AV → AV → AV → AV → HP → Res2) (t1 : Int) (t2 : AV) (t4 : AV) (t5 : AV) (t6 : AV) (t30 : Bool) (h : HP) : Res2 :=
 br t30 (
 S114_2 D m g1 t1 t2 t4 t5 t6 h) (
 S114_0 D m t2 t4 t5 t6 h)
def e114_3 (k) (t1 : Int) (t2 : AV) (t4 : AV) (t5 : AV) (t6 : AV) (t22 : Bool) (h) := kN k [(p1, (vI t1)), (p2, t2), (p4, t4), (p5, t5), (p6, t6), (p22, (vB t22))] h
def S114_3 (D : CallD) (m : Nat) (g1 : Int → AV → AV → AV → AV → HP → Res2) (t1 : Int) (t2 : AV) (t4 : AV) (t5 : AV) (t6 : AV) (t22 : Bool) (h : HP) : Res2 :=
 br t22 (
 cellsC 5 t2 h fun t24 =>
 cal D 50 [t24] h fun t25 h28 =>
 fldC 1 1 false t25 fun vt26 => asS vt26 fun t26 =>
 cal D 140 [(vS t26)] h28 fun t27 h29 =>
 asI .i64 t27 fun t27a =>
 let t29 : Bool := leQ t1 t27a
 S114_4 D m g1 t1 t2 t4 t5 t6 t29 h29) (
 S114_4 D m g1 t1 t2 t4 t5 t6 false h)
def e114_1 (k) (t1 : Int) (t2 : AV) (t4 : AV) (t5 : AV) (t6 : AV) (h) := kN k [(p1, (vI t1)), (p2, t2), (p4, t4), (p5, t5), (p6, t6)] h
def S114_1b (D : CallD) (m : Nat) (g1 : Int → AV → AV → AV → AV → HP → Res2) (t1 : Int) (t2 : AV) (t4 : AV) (t5 : AV) (t6 : AV) (h : HP) : Res2 :=
 faC 3 t2 fun t14 =>
 ldI t14 h fun t15 =>
 let t16 : Bool := eqQ t15 (Int.ofNat 0)
 br t16 (
 cellsC 5 t2 h fun t18 =>
 cal D 50 [t18] h fun t19 h27 =>
 fldC 0 1 false t19 fun vt20 => asI .i64 vt20 fun t20 =>
 let t21 : Bool := eqQ t20 (Int.ofNat 4)
 S114_3 D m g1 t1 t2 t4 t5 t6 t21 h27) (
 S114_3 D m g1 t1 t2 t4 t5 t6 false h)
def S114_1 (D : CallD) (m : Nat) : Int → AV → AV → AV → AV → HP → Res2 := nrec (fun _ _ _ _ _ _ => none) (fun _ g => S114_1b D m g) m
def e114_6 (k) (t0 : AV) (t1 : Int) (h) := kN k [(p0, t0), (p1, (vI t1))] h
def S114_6 (D : CallD) (m : Nat) (t0 : AV) (t1 : Int) (h : HP) : Res2 :=
 let t2 : AV := AV.ptr (HP.nxQ h) 0
 let h7 : HP := HP.newQ h (.cells true (AV.cells t0))
 let t4 : AV := AV.ptr (HP.nxQ h7) 0
 let h8 : HP := HP.newQ h7 (.cells true [.nils, (kI 0), (kI 0), (kI 0), (kI 0)])
 let t5 : AV := AV.ptr (HP.nxQ h8) 0
 let h9 : HP := HP.newQ h8 (.cells true [(kI 0), (.str []), (.str []), (.int .u32 (.ofNat 0)), (.int .u64 (.ofNat 0)), .nils, (kI 0), (kI 0)])
 cellsC 5 t2 h9 fun t10 =>
 cal D 139 [t10] h9 fun t11 h10 =>
 extC t11 0 fun t12 =>
 extC t11 1 fun t13 =>
 let t6 : AV := AV.ptr (HP.nxQ h10) 0
 let h11 : HP := HP.newQ h10 (.cells true [(kI 0), (.str []), (.str []), (.int .u32 (.ofNat 0)), (.int .u64 (.ofNat 0)), .nils, (kI 0), (kI 0)])
 stsC 5 t2 t12 h11 fun h12 =>
 stsC 8 t6 t13 h12 fun h13 =>
 S114_1 D m t1 t2 t4 t5 t6 h13
def S114 : SFn := fun D m args h u => nou u <| popV args fun t0 args => popI .i64 args fun t1 args => endA args (S114_6 D m t0 t1 h)
theorem T114_0 {D m E} (hE : FX x114 D m E) : S114_0 D m = e114_0 (E c114_0 []) := by unfold S114_0; rw [hE c114_0]; kernel_rfl
theorem T114_2 {D m E} (hE : FX x114 D m E) (G1) : S114_2 D m (e114_1 G1) = e114_2 (E c114_2 [.lp v114_1 G1, .blk 0, .sj v114_0 c114_0]) := by unfold S114_2; rw [hE c114_2]; kernel_rfl
theorem T114_4 {D m E} (hE : FX x114 D m E) (G1) : S114_4 D m (e114_1 G1) = e114_4 (E (.opq false l114_4 c114_5) [.sj v114_2 c114_2, .lp v114_1 G1, .blk 0, .sj v114_0 c114_0]) := by unfold S114_4; rw [T114_2 hE G1, T114_0 hE, hE (.opq false l114_4 c114_5)]; kernel_rfl
theorem T114_3 {D m E} (hE : FX x114 D m E) (G1) : S114_3 D m (e114_1 G1) = e114_3 (E (.opq false l114_3 c114_5) [.sj v114_2 c114_2, .lp v114_1 G1, .blk 0, .sj v114_0 c114_0]) := by unfold S114_3; rw [T114_4 hE G1, hE (.opq false l114_3 c114_5)]; kernel_rfl
theorem T114_1b {D m E} (hE : FX x114 D m E) (G1) : S114_1b D m (e114_1 G1) = e114_1 (E c114_1b [.lp v114_1 G1, .blk 0, .sj v114_0 c114_0]) := by unfold S114_1b; rw [T114_3 hE G1, hE c114_1b]; kernel_rfl
theorem T114_1 {D m E} (hE : FX x114 D m E) : S114_1 D m = e114_1 (nrec (fun _ => none) (fun _ G1 st => E c114_1b [.lp v114_1 G1, .blk 0, .sj v114_0 c114_0] st) m) :=
  nrec_emb e114_1 (fun _ _ _ _ _ _ => none) (fun g => S114_1b D m g) (fun G1 st => E c114_1b [.lp v114_1 G1, .blk 0, .sj v114_0 c114_0] st) rfl (fun g => T114_1b hE g) m
theorem T114_6 {D m E} (hE : FX x114 D m E) : S114_6 D m = e114_6 (E c114_e []) := by unfold S114_6; rw [T114_1 hE, hE c114_e]; kernel_rfl
theorem X114 (D m args h u) : S114 D m args h u = evFX x114 D m args h u := by unfold S114; rw [T114_6 (fix_ok D m (x114.endOf D))]; show _ = evFXE x114 (evE2 D m (x114.endOf D)) args h u; generalize evE2 D m (x114.endOf D) = E; kernel_rfl
/- 115 -/
def v115_0 : List Pos := [p1, p2]
def c115_0 : XC := (.sO [.fa p8 2 q1, .ld p9 q8 tI, .bn p10 .add q9 (ci 1) tI, .fa p11 2 q1, .st q11 q10] (.sO [.L p12 (.cells 5 q1) .v, .ss 5 q2 q12] (.s .ret)))
def c115_e : XC := (.sO [.al p1 (.box q0), .al p2 (.new [.nils, (kI 0), (kI 0), (kI 0), (kI 0)])] (.sj v115_0 (.sO [.fa p3 2 q1, .ld p4 q3 tI, .bn p5 .geq q4 (ci 40) .b] (.cond q5 (.s (.oX [.L p6 (.cells 5 q1) .v, .cl p7 111 [q6, (ci 12)] .v, .ss 5 q1 q7])) (.s .skip))) c115_0))
def x115 : XFn := ⟨[.v], false, [(.cells 5 p2)], c115_e⟩
def e115_0 (k) (t1 : AV) (t2 : AV) (h) := kN k [(p1, t1), (p2, t2)] h
def S115_0 (D : CallD) (m : Nat) (t1 : AV) (t2 : AV) (h : HP) : Res2 :=
 faC 2 t1 fun t8 =>
 ldI t8 h fun t9 =>
 let t10 : Int := wrQ .i64 (addQ t9 (Int.ofNat 1))
 faC 2 t1 fun t11 =>
 stoC t11 (vI t10) h fun h4 =>
 cellsC 5 t1 h4 fun t12 =>
 stsC 5 t2 t12 h4 fun h5 =>
 XFn.endOf x115 D (.ret ⟨(mkT [(p2, t2)]), h5, [], .no⟩)
def e115_1 (k) (t0 : AV) (h) := kN k [(p0, t0)] h
def S115_1 (D : CallD) (m : Nat) (t0 : AV) (h : HP) : Res2 :=
 let t1 : AV := AV.ptr (HP.nxQ h) 0
 let h2 : HP := HP.newQ h (.cells true (AV.cells t0))
 let t2 : AV := AV.ptr (HP.nxQ h2) 0
 let h3 : HP := HP.newQ h2 (.cells true [.nils, (kI 0), (kI 0), (kI 0), (kI 0)])
 let t3 : AV := (AV.ptr (HP.nxQ h) (Nat.add 0 2))
 ldI t3 h3 fun t4 =>
 let t5 : Bool := leQ (Int.ofNat 40) t4
 br t5 (
 cellsC 5 t1 h3 fun t6 =>
 cal D 111 [t6, (vI (Int.ofNat 12))] h3 fun t7 h6 =>
 stsC 5 t1 t7 h6 fun h7 =>
 S115_0 D m t1 t2 h7) (
 S115_0 D m t1 t2 h3)
def S115 : SFn := fun D m args h u => nou u <| popV args fun t0 args => endA args (S115_1 D m t0 h)
theorem T115_0 {D m E} (hE : FX x115 D m E) : S115_0 D m = e115_0 (E c115_0 []) := by unfold S115_0; rw [hE c115_0]; kernel_rfl
theorem T115_1 {D m E} (hE : FX x115 D m E) : S115_1 D m = e115_1 (E c115_e []) := by unfold S115_1; rw [T115_0 hE, hE c115_e]; kernel_rfl
theorem X115 (D m args h u) : S115 D m args h u = evFX x115 D m args h u := by unfold S115; rw [T115_1 (fix_ok D m (x115.endOf D))]; show _ = evFXE x115 (evE2 D m (x115.endOf D)) args h u; generalize evE2 D m (x115.endOf D) = E; kernel_rfl
/- 116 -/
def c116_e : XC := (.sO [.al p1 (.box q0), .al p2 (.new [.nils, (kI 0), (kI 0), (kI 0), (kI 0)])] (.sO [.fa p3 2 q1, .ld p4 q3 tI, .bn p5 .sub q4 (ci 1) tI, .fa p6 2 q1, .st q6 q5] (.sO [.L p7 (.cells 5 q1) .v, .ss 5 q2 q7] (.s .ret))))
def x116 : XFn := ⟨[.v], false, [(.cells 5 p2)], c116_e⟩
def e116_0 (k) (t0 : AV) (h) := kN k [(p0, t0)] h
def S116_0 (D : CallD) (m : Nat) (t0 : AV) (h : HP) : Res2 :=
 let t1 : AV := AV.ptr (HP.nxQ h) 0
 let h1 : HP := HP.newQ h (.cells true (AV.cells t0))
 let t2 : AV := AV.ptr (HP.nxQ h1) 0
 let h2 : HP := HP.newQ h1 (.cells true [.nils, (kI 0), (kI 0), (kI 0), (kI 0)])
 let t3 : AV := (AV.ptr (HP.nxQ h) (Nat.add 0 2))
 ldI t3 h2 fun t4 =>
 let t5 : Int := wrQ .i64 (t4 - (Int.ofNat 1))
 let t6 : AV := (AV.ptr (HP.nxQ h) (Nat.add 0 2))
 stoC t6 (vI t5) h2 fun h3 =>
 cellsC 5 t1 h3 fun t7 =>
 stsC 5 t2 t7 h3 fun h4 =>
 XFn.endOf x116 D (.ret ⟨(mkT [(p2, t2)]), h4, [], .no⟩)
def S116 : SFn := fun D m args h u => nou u <| popV args fun t0 args => endA args (S116_0 D m t0 h)
theorem T116_0 {D m E} (hE : FX x116 D m E) : S116_0 D m = e116_0 (E c116_e []) := by unfold S116_0; rw [hE c116_e]; kernel_rfl
theorem X116 (D m args h u) : S116 D m args h u = evFX x116 D m args h u := by unfold S116; rw [T116_0 (fix_ok D m (x116.endOf D))]; show _ = evFXE x116 (evE2 D m (x116.endOf D)) args h u; generalize evE2 D m (x116.endOf D) = E; kernel_rfl
/- 117 -/
def v117_3 : List Pos := [p2, p3, p4, p5]
def c117_3 : XC := (.seq (.ops true (XL.of [.L p164 (.cells 7 q2) .v, .L p165 (.cells 8 q3) .v, .o ⟨none, (.e (.stores 7 q4 q164)), none, [⟨none, .cells 8 q3, p165⟩]⟩ .v, .ss 8 q5 q165])) (.s .ret))
def v117_2 : List Pos := [p2, p3, p4, p5]
def c117_2 : XC := (.sO [.mv p12 (ci 0) tI] (.sO [.L p152 (.cells 8 q3) .v, .cl p153 142 [q152] .v, .mv p151 q153 .v, .P p154 (.ext q151 0) .v, .P p155 (.ext q151 1) tI, .ss 8 q3 q154, .mv p12 q155 tI] (.sO [.mv p156 q12 tI, .fa p157 6 q3, .st q157 q156] (.sj v117_3 (.sO [.mv p158 q12 tI, .bn p159 .eql q158 (ci 0) .b] (.cond q159 (.s (.oX [.L p160 (.cells 7 q2) .v, .fa p161 7 q3, .ld p162 q161 tI, .cl p163 54 [q160, (ci 14), q162] .v, .ss 7 q2 q163])) (.s .skip))) c117_3))))
def v117_4 : List Pos := [p2, p3, p4, p5, p9]
def c117_4 : XC := (.sO [.fa p145 0 q9, .fa p146 4 q145, .ld p147 q146 tI, .fa p148 6 q3, .st q148 q147] (.seq (.ops true (XL.of [.L p149 (.cells 7 q2) .v, .L p150 (.cells 8 q3) .v, .o ⟨none, (.e (.stores 7 q4 q149)), none, [⟨none, .cells 8 q3, p150⟩]⟩ .v, .ss 8 q5 q150])) (.s .ret)))
def v117_6 : List Pos := [p2, p3, p4, p5, p9, p114, p115]
def c117_6 : XC := (.s (.oX [.bn p144 .add q115 (ci 1) tI, .mv p115 q144 tI]))
def v117_5 : List Pos := [p2, p3, p4, p5, p9, p114, p115]
def c117_5b : XC := (.sO [.bn p116 .lss q115 q114 .b] (.seq (.cond q116 .skip (.exit 2)) (.sj v117_6 (.block 3 (.sO [.mv p117 q115 tI, .mv p11 q117 tI] (.seq (.ops true (XL.of [.fa p119 5 q3, .ld p120 q119 .v, .mv p121 q11 tI, .fa p122 5 q3, .ld p123 q122 .v, .mv p124 q11 tI, .P p125 (.iaddr (.sl 8) q123 q124) .v, .L p126 (.cells 8 q125) .v, .fa p127 0 q9, .fa p128 8 q127, .ld p129 q128 .v, .mv p130 q11 tI, .P p131 (.iaddr (.sl 3) q129 q130) .v, .fa p132 1 q131, .ld p133 q132 tI, .o ⟨(some p134), (.call (.fn 118) [q126, q133]), none, [⟨none, .cell q119, p120⟩]⟩ .v, .mv p118 q134 .v, .P p135 (.ext q118 0) .v, .P p136 (.ext q118 1) .b, .P p137 (.iaddr (.sl 8) q120 q121) .v, .ss 8 q137 q135, .mv p10 q136 .b])) (.sO [.mv p138 q10 .b, .P p139 (.un .not q138) .b] (.cond q139 (.s (.oX [.L p140 (.cells 7 q2) .v, .fa p141 7 q3, .ld p142 q141 tI, .cl p143 54 [q140, (ci 14), q142] .v, .ss 7 q2 q143])) (.s .skip)))))) c117_6)))
def v117_1 : List Pos := [p2, p3, p4, p5, p9, p10]
def c117_1 : XC := (.sj v117_2 (.sO [.fa p83 0 q3, .ld p84 q83 tI, .bn p85 .eql q84 (ci 7) .b] (.cond q85 (.seq (.seq (.oX [.mv p86 q10 .b, .P p87 (.un .not q86) .b, .mv p88 q87 .b, .ge p88 (XL.of [.G p88 false p89 (.faddr 0 q9) .v, .G p88 false p90 (.faddr 0 q89) .v, .o ⟨(some p91), (.l (.cell q90)), (some (p88, false)), []⟩ .b, .G p88 false p92 (.un .not q91) .b, .P p93 (.pick q88 (cb true) q92) .b]) p93 .b]) (.cond q93 (.seq (.ops true (XL.of [.L p94 (.cells 7 q2) .v, .fa p95 7 q3, .ld p96 q95 tI, .L p98 (.cells 8 q3) .v, .o ⟨(some p97), (.call (.fn 54) [q94, (ci 13), q96]), none, [⟨none, .cells 8 q3, p98⟩]⟩ .v, .o ⟨none, (.e (.stores 7 q4 q97)), none, [⟨none, .cells 8 q3, p98⟩]⟩ .v, .ss 8 q5 q98])) .ret) .skip)) (.seq (.seq (.oX [.fa p99 5 q3, .ld p100 q99 .v, .P p101 (.lenl q100) tI, .fa p102 0 q9, .fa p103 8 q102, .ld p104 q103 .v, .P p105 (.lenl q104) tI, .bn p106 .neq q101 q105 .b]) (.cond q106 (.seq (.ops true (XL.of [.L p107 (.cells 7 q2) .v, .fa p108 7 q3, .ld p109 q108 tI, .L p111 (.cells 8 q3) .v, .o ⟨(some p110), (.call (.fn 54) [q107, (ci 14), q109]), none, [⟨none, .cells 8 q3, p111⟩]⟩ .v, .o ⟨none, (.e (.stores 7 q4 q110)), none, [⟨none, .cells 8 q3, p111⟩]⟩ .v, .ss 8 q5 q111])) .ret) .skip)) (.sj v117_4 (.sO [.fa p112 5 q3, .ld p113 q112 .v, .P p114 (.lenl q113) tI, .mv p115 (ci 0) tI] (.block 2 (.loop v117_5 c117_5b))) c117_4))) (.s .skip))) c117_2)
def v117_7 : List Pos := [p2, p3, p4, p5]
def c117_7 : XC := (.seq (.ops true (XL.of [.L p81 (.cells 7 q2) .v, .L p82 (.cells 8 q3) .v, .o ⟨none, (.e (.stores 7 q4 q81)), none, [⟨none, .cells 8 q3, p82⟩]⟩ .v, .ss 8 q5 q82])) (.s .ret))
def v117_0 : List Pos := [p2, p3, p4, p5, p6]
def c117_0 : XC := (.sO [.mv p35 q6 .v, .fa p36 5 q3, .st q36 q35] (.seq (.seq (.oX [.fa p37 5 q2, .ld p38 q37 tI, .bn p39 .neq q38 (ci 0) .b]) (.cond q39 (.seq (.ops true (XL.of [.L p40 (.cells 7 q2) .v, .L p41 (.cells 8 q3) .v, .o ⟨none, (.e (.stores 7 q4 q40)), none, [⟨none, .cells 8 q3, p41⟩]⟩ .v, .ss 8 q5 q41])) .ret) .skip)) (.sO [.L p43 (.cells 7 q2) .v, .fa p44 2 q3, .ld p45 q44 .s, .cl p46 86 [q43, q45] .v, .mv p42 q46 .v, .P p47 (.ext q42 0) .v, .P p48 (.ext q42 1) .b, .al p9 (.new [(.bool false), (.bool false), (.bool false), (.str []), (kI 0), (kI 0), .nils, (.bool false), .nils, (kI 0), .nils, .nils, (.str []), (kI 0), (kI 0), (kI 0), (kI 0), (.str []), (kI 0)]), .ss 19 q9 q47, .mv p10 q48 .b] (.sj v117_1 (.sO [.fa p49 0 q3, .ld p50 q49 tI, .bn p51 .eql q50 (ci 3) .b] (.cond q51 (.seq (.seq (.oX [.mv p52 q10 .b, .P p53 (.un .not q52) .b, .mv p54 q53 .b, .ge p54 (XL.of [.G p54 false p55 (.faddr 0 q9) .v, .G p54 false p56 (.faddr 0 q55) .v, .o ⟨(some p57), (.l (.cell q56)), (some (p54, false)), []⟩ .b, .P p58 (.pick q54 (cb true) q57) .b]) p58 .b]) (.cond q58 (.seq (.ops true (XL.of [.L p59 (.cells 7 q2) .v, .fa p60 7 q3, .ld p61 q60 tI, .L p63 (.cells 8 q3) .v, .o ⟨(some p62), (.call (.fn 54) [q59, (ci 13), q61]), none, [⟨none, .cells 8 q3, p63⟩]⟩ .v, .o ⟨none, (.e (.stores 7 q4 q62)), none, [⟨none, .cells 8 q3, p63⟩]⟩ .v, .ss 8 q5 q63])) .ret) .skip)) (.sO [.fa p64 17 q9, .ld p65 q64 .s, .fa p66 2 q3, .st q66 q65] (.sO [.fa p67 0 q9, .fa p68 4 q67, .ld p69 q68 tI, .fa p70 6 q3, .st q70 q69] (.sj v117_7 (.sO [.fa p71 0 q9, .fa p72 5 q71, .ld p73 q72 tI, .bn p74 .gtr q73 (ci 0) .b] (.cond q74 (.sO [.fa p75 0 q9, .fa p76 4 q75, .ld p77 q76 tI, .cl p78 141 [q77] tI, .fa p79 6 q3, .st q79 q78] (.s (.oX [.fa p80 3 q3, .st q80 (.c (.int .u32 (.ofNat 1)))]))) (.s .skip))) c117_7)))) (.s .skip))) c117_1))))
def v117_8 : List Pos := [p2, p3, p4, p5, p6, p15, p16]
def c117_8b : XC := (.sO [.bn p17 .lss q16 q15 .b] (.seq (.cond q17 .skip (.exit 0)) (.seq (.block 1 (.seq (.oX [.mv p18 q16 tI, .mv p7 q18 tI]) (.seq (.oX [.P p19 (.build [(kI 0), (.str []), (.str []), (.int .u32 (.ofNat 0)), (.int .u64 (.ofNat 0)), .nils, (kI 0), (kI 0)] []) .v, .al p8 (.new [(kI 0), (.str []), (.str []), (.int .u32 (.ofNat 0)), (.int .u64 (.ofNat 0)), .nils, (kI 0), (kI 0)]), .ss 8 q8 q19]) (.seq (.ops true (XL.of [.L p21 (.cells 7 q2) .v, .fa p22 5 q3, .ld p23 q22 .v, .mv p24 q7 tI, .P p25 (.iaddr (.sl 8) q23 q24) .v, .L p26 (.cells 8 q25) .v, .cl p27 117 [q21, q26] .v, .mv p20 q27 .v, .P p28 (.ext q20 0) .v, .P p29 (.ext q20 1) .v, .ss 7 q2 q28, .ss 8 q8 q29])) (.oX [.mv p30 q6 .v, .L p31 (.cells 8 q8) .v, .al p32 (.bsl [(kI 0), (.str []), (.str []), (.int .u32 (.ofNat 0)), (.int .u64 (.ofNat 0)), .nils, (kI 0), (kI 0)] 1 [⟨0, 8, q31⟩]), .o ⟨(some p33), (.e (.app 8 96 q30 q32)), none, []⟩ .v, .mv p6 q33 .v]))))) (.s (.oX [.bn p34 .add q16 (ci 1) tI, .mv p16 q34 tI])))))
def c117_e : XC := (.sO [.al p2 (.box q0), .al p3 (.box q1), .al p4 (.new [.nils, (kI 0), (kI 0), (kI 0), (kI 0), (kI 0), (kI 0)]), .al p5 (.new [(kI 0), (.str []), (.str []), (.int .u32 (.ofNat 0)), (.int .u64 (.ofNat 0)), .nils, (kI 0), (kI 0)])] (.sO [.mv p6 (.c .nils) .v] (.sj v117_0 (.sO [.fa p13 5 q3, .ld p14 q13 .v, .P p15 (.lenl q14) tI, .mv p16 (ci 0) tI] (.block 0 (.loop v117_8 c117_8b))) c117_0)))
def x117 : XFn := ⟨[.v, .v], false, [(.cells 7 p4), (.cells 8 p5)], c117_e⟩
def e117_3 (k) (t2 : AV) (t3 : AV) (t4 : AV) (t5 : AV) (h) := kN k [(p2, t2), (p3, t3), (p4, t4), (p5, t5)] h
def S117_3 (D : CallD) (m : Nat) (t2 : AV) (t3 : AV) (t4 : AV) (t5 : AV) (h : HP) : Res2 :=
 cellsC 7 t2 h fun t164 =>
 cellsC 8 t3 h fun t165 =>
 stsC 7 t4 t164 h fun h23 =>
 br (again [⟨none, .cells 8 q3, p165⟩] (mkT [(p165, t165), (p3, t3)]) h23) (
 stsC 8 t5 t165 h23 fun h24 =>
 XFn.endOf x117 D (.ret ⟨(mkT [(p4, t4), (p5, t5)]), h24, [], .no⟩)) none
def e117_2 (k) (t2 : AV) (t3 : AV) (t4 : AV) (t5 : AV) (h) := kN k [(p2, t2), (p3, t3), (p4, t4), (p5, t5)] h
def S117_2 (D : CallD) (m : Nat) (t2 : AV) (t3 : AV) (t4 : AV) (t5 : AV) (h : HP) : Res2 :=
 cellsC 8 t3 h fun t152 =>
 cal D 142 [t152] h fun t153 h20 =>
 extC t153 0 fun t154 =>
 extC t153 1 fun vt155 => asI .i64 vt155 fun t155 =>
 stsC 8 t3 t154 h20 fun h21 =>
 faC 6 t3 fun t157 =>
 stoC t157 (vI t155) h21 fun h22 =>
 let t159 : Bool := eqQ t155 (Int.ofNat 0)
 br t159 (
 cellsC 7 t2 h22 fun t160 =>
 faC 7 t3 fun t161 =>
 ldI t161 h22 fun t162 =>
 cal D 54 [t160, (vI (Int.ofNat 14)), (vI t162)] h22 fun t163 h25 =>
 stsC 7 t2 t163 h25 fun h26 =>
 S117_3 D m t2 t3 t4 t5 h26) (
 S117_3 D m t2 t3 t4 t5 h22)
def e117_4 (k) (t2 : AV) (t3 : AV) (t4 : AV) (t5 : AV) (t9 : AV) (h) := kN k [(p2, t2), (p3, t3), (p4, t4), (p5, t5), (p9, t9)] h
def S117_4 (D : CallD) (m : Nat) (t2 : AV) (t3 : AV) (t4 : AV) (t5 : AV) (t9 : AV) (h : HP) : Res2 :=
 faC 0 t9 fun t145 =>
 faC 4 t145 fun t146 =>
 ldI t146 h fun t147 =>
 faC 6 t3 fun t148 =>
 stoC t148 (vI t147) h fun h33 =>
 cellsC 7 t2 h33 fun t149 =>
 cellsC 8 t3 h33 fun t150 =>
 stsC 7 t4 t149 h33 fun h34 =>
 br (again [⟨none, .cells 8 q3, p150⟩] (mkT [(p150, t150), (p3, t3)]) h34) (
 stsC 8 t5 t150 h34 fun h35 =>
 XFn.endOf x117 D (.ret ⟨(mkT [(p4, t4), (p5, t5)]), h35, [], .no⟩)) none
def e117_6 (k) (t2 : AV) (t3 : AV) (t4 : AV) (t5 : AV) (t9 : AV) (t114 : Int) (t115 : Int) (h) := kN k [(p2, t2), (p3, t3), (p4, t4), (p5, t5), (p9, t9), (p114, (vI t114)), (p115, (vI t115))] h
def S117_6 (D : CallD) (m : Nat) (g5 : AV → AV → AV → AV → AV → Int → Int → HP → Res2) (t2 : AV) (t3 : AV) (t4 : AV) (t5 : AV) (t9 : AV) (t114 : Int) (t115 : Int) (h : HP) : Res2 :=
 let t144 : Int := wrQ .i64 (addQ t115 (Int.ofNat 1))
 g5 t2 t3 t4 t5 t9 t114 t144 h
def e117_5 (k) (t2 : AV) (t3 : AV) (t4 : AV) (t5 : AV) (t9 : AV) (t114 : Int) (t115 : Int) (h) := kN k [(p2, t2), (p3, t3), (p4, t4), (p5, t5), (p9, t9), (p114, (vI t114)), (p115, (vI t115))] h
def S117_5b (D : CallD) (m : Nat) (g5 : AV → AV → AV → AV → AV → Int → Int → HP → Res2) (t2 : AV) (t3 : AV) (t4 : AV) (t5 : AV) (t9 : AV) (t114 : Int) (t115 : Int) (h : HP) : Res2 :=
 let t116 : Bool := ltQ t115 t114
 br t116 (
 faC 5 t3 fun t119 =>
 cellC t119 h fun t120 =>
 faC 5 t3 fun t122 =>
 cellC t122 h fun t123 =>
 iasC 8 t123 (vI t115) fun t125 =>
 cellsC 8 t125 h fun t126 =>
 faC 0 t9 fun t127 =>
 faC 8 t127 fun t128 =>
 cellC t128 h fun t129 =>
 iasC 3 t129 (vI t115) fun t131 =>
 faC 1 t131 fun t132 =>
 ldI t132 h fun t133 =>
 cal D 118 [t126, (vI t133)] h fun t134 h36 =>
 br (again [⟨none, .cell q119, p120⟩] (mkT [(p120, t120), (p119, t119)]) h36) (
 extC t134 0 fun t135 =>
 extC t134 1 fun vt136 => asB vt136 fun t136 =>
 iasC 8 t120 (vI t115) fun t137 =>
 stsC 8 t137 t135 h36 fun h37 =>
 let t139 : Bool := !t136
 br t139 (
 cellsC 7 t2 h37 fun t140 =>
 faC 7 t3 fun t141 =>
 ldI t141 h37 fun t142 =>
 cal D 54 [t140, (vI (Int.ofNat 14)), (vI t142)] h37 fun t143 h38 =>
 stsC 7 t2 t143 h38 fun h39 =>
 S117_6 D m g5 t2 t3 t4 t5 t9 t114 t115 h39) (
 S117_6 D m g5 t2 t3 t4 t5 t9 t114 t115 h37)) none) (
 S117_4 D m t2 t3 t4 t5 t9 h)
def S117_5 (D : CallD) (m : Nat) : AV → AV → AV → AV → AV → Int → Int → HP → Res2 := nrec (fun _ _ _ _ _ _ _ _ => none) (fun _ g => S117_5b D m g) m
def e117_1 (k) (t2 : AV) (t3 : AV) (t4 : AV) (t5 : AV) (t9 : AV) (t10 : Bool) (h) := kN k [(p2, t2), (p3, t3), (p4, t4), (p5, t5), (p9, t9), (p10, (vB t10))] h
def S117_1 (D : CallD) (m : Nat) (t2 : AV) (t3 : AV) (t4 : AV) (t5 : AV) (t9 : AV) (t10 : Bool) (h : HP) : Res2 :=
 faC 0 t3 fun t83 =>
 ldI t83 h fun t84 =>
 let t85 : Bool := eqQ t84 (Int.ofNat 7)
 br t85 (
 let t87 : Bool := !t10
 obB (brV t87 (
 some (vB true)) (
 faCV 0 t9 fun t89 =>
 faCV 0 t89 fun t90 =>
 ldBV t90 h fun t91 =>
 let t92 : Bool := !t91
 some (vB t92))) fun t93 =>
 br t93 (
 cellsC 7 t2 h fun t94 =>
 faC 7 t3 fun t95 =>
 ldI t95 h fun t96 =>
 cellsC 8 t3 h fun t98 =>
 cal D 54 [t94, (vI (Int.ofNat 13)), (vI t96)] h fun t97 h27 =>
 br (again [⟨none, .cells 8 q3, p98⟩] (mkT [(p98, t98), (p3, t3)]) h27) (
 stsC 7 t4 t97 h27 fun h28 =>
 br (again [⟨none, .cells 8 q3, p98⟩] (mkT [(p98, t98), (p3, t3)]) h28) (
 stsC 8 t5 t98 h28 fun h29 =>
 XFn.endOf x117 D (.ret ⟨(mkT [(p4, t4), (p5, t5)]), h29, [], .no⟩)) none) none) (
 faC 5 t3 fun t99 =>
 cellC t99 h fun t100 =>
 lenC t100 fun vt101 => asI .i64 vt101 fun t101 =>
 faC 0 t9 fun t102 =>
 faC 8 t102 fun t103 =>
 cellC t103 h fun t104 =>
 lenC t104 fun vt105 => asI .i64 vt105 fun t105 =>
 let t106 : Bool := notQ (eqQ t101 t105)
 br t106 (
 cellsC 7 t2 h fun t107 =>
 faC 7 t3 fun t108 =>
 ldI t108 h fun t109 =>
 cellsC 8 t3 h fun t111 =>
 cal D 54 [t107, (vI (Int.ofNat 14)), (vI t109)] h fun t110 h30 =>
 br (again [⟨none, .cells 8 q3, p111⟩] (mkT [(p111, t111), (p3, t3)]) h30) (
 stsC 7 t4 t110 h30 fun h31 =>
 br (again [⟨none, .cells 8 q3, p111⟩] (mkT [(p111, t111), (p3, t3)]) h31) (
 stsC 8 t5 t111 h31 fun h32 =>
 XFn.endOf x117 D (.ret ⟨(mkT [(p4, t4), (p5, t5)]), h32, [], .no⟩)) none) none) (
 faC 5 t3 fun t112 =>
 cellC t112 h fun t113 =>
 lenC t113 fun vt114 => asI .i64 vt114 fun t114 =>
 S117_5 D m t2 t3 t4 t5 t9 t114 (Int.ofNat 0) h))) (
 S117_2 D m t2 t3 t4 t5 h)
def e117_7 (k) (t2 : AV) (t3 : AV) (t4 : AV) (t5 : AV) (h) := kN k [(p2, t2), (p3, t3), (p4, t4), (p5, t5)] h
def S117_7 (D : CallD) (m : Nat) (t2 : AV) (t3 : AV) (t4 : AV) (t5 : AV) (h : HP) : Res2 :=
 cellsC 7 t2 h fun t81 =>
 cellsC 8 t3 h fun t82 =>
 stsC 7 t4 t81 h fun h45 =>
 br (again [⟨none, .cells 8 q3, p82⟩] (mkT [(p82, t82), (p3, t3)]) h45) (
 stsC 8 t5 t82 h45 fun h46 =>
 XFn.endOf x117 D (.ret ⟨(mkT [(p4, t4), (p5, t5)]), h46, [], .no⟩)) none
def e117_0 (k) (t2 : AV) (t3 : AV) (t4 : AV) (t5 : AV) (t6 : AV) (h) := kN k [(p2, t2), (p3, t3), (p4, t4), (p5, t5), (p6, t6)] h
def S117_0 (D : CallD) (m : Nat) (t2 : AV) (t3 : AV) (t4 : AV) (t5 : AV) (t6 : AV) (h : HP) : Res2 :=
 faC 5 t3 fun t36 =>
 stoC t36 t6 h fun h14 =>
 faC 5 t2 fun t37 =>
 ldI t37 h14 fun t38 =>
 let t39 : Bool := notQ (eqQ t38 (Int.ofNat 0))
 br t39 (
 cellsC 7 t2 h14 fun t40 =>
 cellsC 8 t3 h14 fun t41 =>
 stsC 7 t4 t40 h14 fun h15 =>
 br (again [⟨none, .cells 8 q3, p41⟩] (mkT [(p41, t41), (p3, t3)]) h15) (
 stsC 8 t5 t41 h15 fun h16 =>
 XFn.endOf x117 D (.ret ⟨(mkT [(p4, t4), (p5, t5)]), h16, [], .no⟩)) none) (
 cellsC 7 t2 h14 fun t43 =>
 faC 2 t3 fun t44 =>
 ldS t44 h14 fun t45 =>
 cal D 86 [t43, (vS t45)] h14 fun t46 h17 =>
 extC t46 0 fun t47 =>
 extC t46 1 fun vt48 => asB vt48 fun t48 =>
 let t9 : AV := AV.ptr (HP.nxQ h17) 0
 let h18 : HP := HP.newQ h17 (.cells true [(.bool false), (.bool false), (.bool false), (.str []), (kI 0), (kI 0), .nils, (.bool false), .nils, (kI 0), .nils, .nils, (.str []), (kI 0), (kI 0), (kI 0), (kI 0), (.str []), (kI 0)])
 stsC 19 t9 t47 h18 fun h19 =>
 faC 0 t3 fun t49 =>
 ldI t49 h19 fun t50 =>
 let t51 : Bool := eqQ t50 (Int.ofNat 3)
 br t51 (
 let t53 : Bool := !t48
 obB (brV t53 (
 some (vB true)) (
 let t55 : AV := (AV.ptr (HP.nxQ h17) (Nat.add 0 0))
 let t56 : AV := (AV.ptr (HP.nxQ h17) (Nat.add (Nat.add 0 0) 0))
 ldBV t56 h19 fun t57 =>
 some (vB t57))) fun t58 =>
 br t58 (
 cellsC 7 t2 h19 fun t59 =>
 faC 7 t3 fun t60 =>
 ldI t60 h19 fun t61 =>
 cellsC 8 t3 h19 fun t63 =>
 cal D 54 [t59, (vI (Int.ofNat 13)), (vI t61)] h19 fun t62 h40 =>
 br (again [⟨none, .cells 8 q3, p63⟩] (mkT [(p63, t63), (p3, t3)]) h40) (
 stsC 7 t4 t62 h40 fun h41 =>
 br (again [⟨none, .cells 8 q3, p63⟩] (mkT [(p63, t63), (p3, t3)]) h41) (
 stsC 8 t5 t63 h41 fun h42 =>
 XFn.endOf x117 D (.ret ⟨(mkT [(p4, t4), (p5, t5)]), h42, [], .no⟩)) none) none) (
 let t64 : AV := (AV.ptr (HP.nxQ h17) (Nat.add 0 17))
 ldS t64 h19 fun t65 =>
 faC 2 t3 fun t66 =>
 stoC t66 (vS t65) h19 fun h43 =>
 let t67 : AV := (AV.ptr (HP.nxQ h17) (Nat.add 0 0))
 let t68 : AV := (AV.ptr (HP.nxQ h17) (Nat.add (Nat.add 0 0) 4))
 ldI t68 h43 fun t69 =>
 faC 6 t3 fun t70 =>
 stoC t70 (vI t69) h43 fun h44 =>
 let t71 : AV := (AV.ptr (HP.nxQ h17) (Nat.add 0 0))
 let t72 : AV := (AV.ptr (HP.nxQ h17) (Nat.add (Nat.add 0 0) 5))
 ldI t72 h44 fun t73 =>
 let t74 : Bool := ltQ (Int.ofNat 0) t73
 br t74 (
 let t75 : AV := (AV.ptr (HP.nxQ h17) (Nat.add 0 0))
 let t76 : AV := (AV.ptr (HP.nxQ h17) (Nat.add (Nat.add 0 0) 4))
 ldI t76 h44 fun t77 =>
 cal D 141 [(vI t77)] h44 fun t78 h47 =>
 asI .i64 t78 fun t78a =>
 faC 6 t3 fun t79 =>
 stoC t79 (vI t78a) h47 fun h48 =>
 faC 3 t3 fun t80 =>
 stoC t80 (vW (Int.ofNat 1)) h48 fun h49 =>
 S117_7 D m t2 t3 t4 t5 h49) (
 S117_7 D m t2 t3 t4 t5 h44))) (
 S117_1 D m t2 t3 t4 t5 t9 t48 h19))
def e117_8 (k) (t2 : AV) (t3 : AV) (t4 : AV) (t5 : AV) (t6 : AV) (t15 : Int) (t16 : Int) (h) := kN k [(p2, t2), (p3, t3), (p4, t4), (p5, t5), (p6, t6), (p15, (vI t15)), (p16, (vI t16))] h
def S117_8b (D : CallD) (m : Nat) (g8 : AV → AV → AV → AV → AV → Int → Int → HP → Res2) (t2 : AV) (t3 : AV) (t4 : AV) (t5 : AV) (t6 : AV) (t15 : Int) (t16 : Int) (h : HP) : Res2 :=
 let t17 : Bool := ltQ t16 t15
 br t17 (
 let t19 : AV := (AV.agg [(vI (Int.ofNat 0)), (vS ([] : LN)), (vS ([] : LN)), (vW (Int.ofNat 0)), (AV.int .u64 (Int.ofNat 0)), (.nils : AV), (vI (Int.ofNat 0)), (vI (Int.ofNat 0))])
 let t8 : AV := AV.ptr (HP.nxQ h) 0
 let h50 : HP := HP.newQ h (.cells true [(kI 0), (.str []), (.str []), (.int .u32 (.ofNat 0)), (.int .u64 (.ofNat 0)), .nils, (kI 0), (kI 0)])
 stsC 8 t8 t19 h50 fun h51 =>
 cellsC 7 t2 h51 fun t21 =>
 faC 5 t3 fun t22 =>
 cellC t22 h51 fun t23 =>
 iasC 8 t23 (vI t16) fun t25 =>
 cellsC 8 t25 h51 fun t26 =>
 cal D 117 [t21, t26] h51 fun t27 h52 =>
 extC t27 0 fun t28 =>
 extC t27 1 fun t29 =>
 stsC 7 t2 t28 h52 fun h53 =>
 stsC 8 t8 t29 h53 fun h54 =>
 cellsC 8 t8 h54 fun t31 =>
 obQ (evA (.bsl [(kI 0), (.str []), (.str []), (.int .u32 (.ofNat 0)), (.int .u64 (.ofNat 0)), .nils, (kI 0), (kI 0)] 1 [⟨0, 8, (.c t31)⟩]) .leaf) fun r55 =>
 let t32 : AV := vkV r55.2 (HP.nxQ h54)
 let h56 : HP := HP.newQ h54 r55.1
 eff (.app 8 96 (.c t6) (.c t32)) h56 fun t33 h57 =>
 let t34 : Int := wrQ .i64 (addQ t16 (Int.ofNat 1))
 g8 t2 t3 t4 t5 t33 t15 t34 h57) (
 S117_0 D m t2 t3 t4 t5 t6 h)
def S117_8 (D : CallD) (m : Nat) : AV → AV → AV → AV → AV → Int → Int → HP → Res2 := nrec (fun _ _ _ _ _ _ _ _ => none) (fun _ g => S117_8b D m g) m
def e117_9 (k) (t0 : AV) (t1 : AV) (h) := kN k [(p0, t0), (p1, t1)] h
def S117_9 (D : CallD) (m : Nat) (t0 : AV) (t1 : AV) (h : HP) : Res2 :=
 let t2 : AV := AV.ptr (HP.nxQ h) 0
 let h10 : HP := HP.newQ h (.cells true (AV.cells t0))
 let t3 : AV := AV.ptr (HP.nxQ h10) 0
 let h11 : HP := HP.newQ h10 (.cells true (AV.cells t1))
 let t4 : AV := AV.ptr (HP.nxQ h11) 0
 let h12 : HP := HP.newQ h11 (.cells true [.nils, (kI 0), (kI 0), (kI 0), (kI 0), (kI 0), (kI 0)])
 let t5 : AV := AV.ptr (HP.nxQ h12) 0
 let h13 : HP := HP.newQ h12 (.cells true [(kI 0), (.str []), (.str []), (.int .u32 (.ofNat 0)), (.int .u64 (.ofNat 0)), .nils, (kI 0), (kI 0)])
 let t13 : AV := (AV.ptr (HP.nxQ h10) (Nat.add 0 5))
 cellC t13 h13 fun t14 =>
 lenC t14 fun vt15 => asI .i64 vt15 fun t15 =>
 S117_8 D m t2 t3 t4 t5 (.nils : AV) t15 (Int.ofNat 0) h13
def S117 : SFn := fun D m args h u => nou u <| popV args fun t0 args => popV args fun t1 args => endA args (S117_9 D m t0 t1 h)
theorem T117_3 {D m E} (hE : FX x117 D m E) : S117_3 D m = e117_3 (E c117_3 []) := by unfold S117_3; rw [hE c117_3]; kernel_rfl
theorem T117_2 {D m E} (hE : FX x117 D m E) : S117_2 D m = e117_2 (E c117_2 []) := by unfold S117_2; rw [T117_3 hE, hE c117_2]; kernel_rfl
theorem T117_4 {D m E} (hE : FX x117 D m E) : S117_4 D m = e117_4 (E c117_4 [.sj v117_2 c117_2]) := by unfold S117_4; rw [hE c117_4]; kernel_rfl
theorem T117_6 {D m E} (hE : FX x117 D m E) (G5) : S117_6 D m (e117_5 G5) = e117_6 (E c117_6 [.lp v117_5 G5, .blk 2, .sj v117_4 c117_4, .sj v117_2 c117_2]) := by unfold S117_6; rw [hE c117_6]; kernel_rfl
theorem T117_5b {D m E} (hE : FX x117 D m E) (G5) : S117_5b D m (e117_5 G5) = e117_5 (E c117_5b [.lp v117_5 G5, .blk 2, .sj v117_4 c117_4, .sj v117_2 c117_2]) := by unfold S117_5b; rw [T117_6 hE G5, T117_4 hE, hE c117_5b]; kernel_rfl
theorem T117_5 {D m E} (hE : FX x117 D m E) : S117_5 D m = e117_5 (nrec (fun _ => none) (fun _ G5 st => E c117_5b [.lp v117_5 G5, .blk 2, .sj v117_4 c117_4, .sj v117_2 c117_2] st) m) :=
  nrec_emb e117_5 (fun _ _ _ _ _ _ _ _ => none) (fun g => S117_5b D m g) (fun G5 st => E c117_5b [.lp v117_5 G5, .blk 2, .sj v117_4 c117_4, .sj v117_2 c117_2] st) rfl (fun g => T117_5b hE g) m
theorem T117_1 {D m E} (hE : FX x117 D m E) : S117_1 D m = e117_1 (E c117_1 []) := by unfold S117_1; rw [T117_5 hE, T117_2 hE, hE c117_1]; kernel_rfl
theorem T117_7 {D m E} (hE : FX x117 D m E) : S117_7 D m = e117_7 (E c117_7 [.sj v117_1 c117_1]) := by unfold S117_7; rw [hE c117_7]; kernel_rfl
theorem T117_0 {D m E} (hE : FX x117 D m E) : S117_0 D m = e117_0 (E c117_0 []) := by unfold S117_0; rw [T117_7 hE, T117_1 hE, hE c117_0]; kernel_rfl
theorem T117_8b {D m E} (hE : FX x117 D m E) (G8) : S117_8b D m (e117_8 G8) = e117_8 (E c117_8b [.lp v117_8 G8, .blk 0, .sj v117_0 c117_0]) := by unfold S117_8b; rw [T117_0 hE, hE c117_8b]; kernel_rfl
theorem T117_8 {D m E} (hE : FX x117 D m E) : S117_8 D m = e117_8 (nrec (fun _ => none) (fun _ G8 st => E c117_8b [.lp v117_8 G8, .blk 0, .sj v117_0 c117_0] st) m) :=
  nrec_emb e117_8 (fun _ _ _ _ _ _ _ _ => none) (fun g => S117_8b D m g) (fun G8 st => E c117_8b [.lp v117_8 G8, .blk 0, .sj v117_0 c117_0] st) rfl (fun g => T117_8b hE g) m
theorem T117_9 {D m E} (hE : FX x117 D m E) : S117_9 D m = e117_9 (E c117_e []) := by unfold S117_9; rw [T117_8 hE, hE c117_e]; kernel_rfl
theorem X117 (D m args h u) : S117 D m args h u = evFX x117 D m args h u := by unfold S117; rw [T117_9 (fix_ok D m (x117.endOf D))]; show _ = evFXE x117 (evE2 D m (x117.endOf D)) args h u; generalize evE2 D m (x117.endOf D) = E; kernel_rfl
/- 118 -/
def c118_2 : XC := (.s .ret)
def l118_1 : XL := (XL.of [.o ⟨none, (.e (.stores 8 q4 q21)), none, [⟨(some (p24, true)), .cell q25, p26⟩]⟩ .v, .mv p5 q29 .b])
def v118_0 : List Pos := [p1, p2, p4]
def c118_0 : XC := (.opq true (XL.pre [.L p21 (.cells 8 q2) .v, .mv p22 q1 tI, .bn p23 .neq q22 (ci 0) .b, .mv p24 q23 .b, .sp p24, .G p24 true p25 (.faddr 6 q2) .v, .o ⟨(some p26), (.l (.cell q25)), (some (p24, true)), []⟩ tI, .G p24 true p27 (.mov q1) tI, .G p24 true p28 (.bin .eql q26 q27) .b, .P p29 (.pick q24 q28 (cb false)) .b, .jn p24 [p4, p21, p24, p25, p26, p29]] l118_1) c118_2)
def c118_e : XC := (.sO [.al p2 (.box q0), .al p4 (.new [(kI 0), (.str []), (.str []), (.int .u32 (.ofNat 0)), (.int .u64 (.ofNat 0)), .nils, (kI 0), (kI 0)]), .mv p5 (cb false) .b] (.sj v118_0 (.sO [.mv p6 q1 tI, .cl p7 143 [q6] tI, .bn p8 .neq q7 (ci 0) .b, .mv p9 q8 .b, .ge p9 (XL.of [.G p9 true p10 (.faddr 0 q2) .v, .o ⟨(some p11), (.l (.cell q10)), (some (p9, true)), []⟩ tI, .G p9 true p12 (.bin .eql q11 (ci 1)) .b, .P p13 (.pick q9 q12 (cb false)) .b]) p13 .b, .mv p14 q13 .b, .ge p14 (XL.of [.G p14 true p15 (.faddr 3 q2) .v, .o ⟨(some p16), (.l (.cell q15)), (some (p14, true)), []⟩ tW, .G p14 true p17 (.bin .eql q16 (.c (.int .u32 (.ofNat 0)))) .b, .P p18 (.pick q14 q17 (cb false)) .b]) p18 .b] (.cond q18 (.s (.oX [.mv p19 q1 tI, .fa p20 6 q2, .st q20 q19])) (.s .skip))) c118_0))
def x118 : XFn := ⟨[.v, tI], false, [(.cells 8 p4), (.tmp p5)], c118_e⟩
def e118_1 (k) (t4 : AV) (t21 : AV) (t24 : Bool) (t25 : AV) (t26 : AV) (t29 : Bool) (h) := kN k [(p4, t4), (p21, t21), (p24, (vB t24)), (p25, t25), (p26, t26), (p29, (vB t29))] h
def S118_1 (D : CallD) (m : Nat) (t4 : AV) (t21 : AV) (t24 : Bool) (t25 : AV) (t26 : AV) (t29 : Bool) (h : HP) : Res2 :=
 stsC 8 t4 t21 h fun h6 =>
 br (again [⟨(some (p24, true)), .cell q25, p26⟩] (mkT [(p26, t26), (p24, (vB t24)), (p25, t25)]) h6) (
 XFn.endOf x118 D (.ret ⟨(mkT [(p4, t4), (p5, (vB t29))]), h6, [], .no⟩)) none
def e118_0 (k) (t1 : Int) (t2 : AV) (t4 : AV) (h) := kN k [(p1, (vI t1)), (p2, t2), (p4, t4)] h
def S118_0 (D : CallD) (m : Nat) (t1 : Int) (t2 : AV) (t4 : AV) (h : HP) : Res2 :=
 cellsC 8 t2 h fun t21 =>
 let t23 : Bool := notQ (eqQ t1 (Int.ofNat 0))
 br t23 (
 faC 6 t2 fun t25 =>
 ldI t25 h fun t26 =>
 let t28 : Bool := eqQ t26 t1
 S118_1 D m t4 t21 true t25 (vI t26) t28 h) (
 S118_1 D m t4 t21 false (.tup [] : AV) (.tup [] : AV) false h)
def e118_3 (k) (t0 : AV) (t1 : Int) (h) := kN k [(p0, t0), (p1, (vI t1))] h
def S118_3 (D : CallD) (m : Nat) (t0 : AV) (t1 : Int) (h : HP) : Res2 :=
 let t2 : AV := AV.ptr (HP.nxQ h) 0
 let h4 : HP := HP.newQ h (.cells true (AV.cells t0))
 let t4 : AV := AV.ptr (HP.nxQ h4) 0
 let h5 : HP := HP.newQ h4 (.cells true [(kI 0), (.str []), (.str []), (.int .u32 (.ofNat 0)), (.int .u64 (.ofNat 0)), .nils, (kI 0), (kI 0)])
 cal D 143 [(vI t1)] h5 fun t7 h7 =>
 asI .i64 t7 fun t7a =>
 let t8 : Bool := notQ (eqQ t7a (Int.ofNat 0))
 obB (brV t8 (
 let t10 : AV := (AV.ptr (HP.nxQ h) (Nat.add 0 0))
 ldIV t10 h7 fun t11 =>
 let t12 : Bool := eqQ t11 (Int.ofNat 1)
 some (vB t12)) (
 some (vB false))) fun t13 =>
 obB (brV t13 (
 let t15 : AV := (AV.ptr (HP.nxQ h) (Nat.add 0 3))
 ldWV t15 h7 fun t16 =>
 let t17 : Bool := eqQ t16 (Int.ofNat 0)
 some (vB t17)) (
 some (vB false))) fun t18 =>
 br t18 (
 let t20 : AV := (AV.ptr (HP.nxQ h) (Nat.add 0 6))
 stoC t20 (vI t1) h7 fun h8 =>
 S118_0 D m t1 t2 t4 h8) (
 S118_0 D m t1 t2 t4 h7)
def S118 : SFn := fun D m args h u => nou u <| popV args fun t0 args => popI .i64 args fun t1 args => endA args (S118_3 D m t0 t1 h)
theorem T118_1 {D m E} (hE : FX x118 D m E) : S118_1 D m = e118_1 (E (.opq true l118_1 c118_2) []) := by unfold S118_1; rw [hE (.opq true l118_1 c118_2)]; kernel_rfl
theorem T118_0 {D m E} (hE : FX x118 D m E) : S118_0 D m = e118_0 (E c118_0 []) := by unfold S118_0; rw [T118_1 hE, hE c118_0]; kernel_rfl
theorem T118_3 {D m E} (hE : FX x118 D m E) : S118_3 D m = e118_3 (E c118_e []) := by unfold S118_3; rw [T118_0 hE, hE c118_e]; kernel_rfl
theorem X118 (D m args h u) : S118 D m args h u = evFX x118 D m args h u := by unfold S118; rw [T118_3 (fix_ok D m (x118.endOf D))]; show _ = evFXE x118 (evE2 D m (x118.endOf D)) args h u; generalize evE2 D m (x118.endOf D) = E; kernel_rfl
/- 119 -/
def v119_0 : List Pos := [p2, p3, p4, p5, p6]
def c119_0 : XC := (.sO [.mv p241 q6 .v, .fa p242 1 q3, .st q242 q241] (.seq (.ops true (XL.of [.L p243 (.cells 7 q2) .v, .L p244 (.cells 7 q3) .v, .o ⟨none, (.e (.stores 7 q4 q243)), none, [⟨none, .cells 7 q3, p244⟩]⟩ .v, .ss 7 q5 q244])) (.s .ret)))
def v119_2 : List Pos := [p2, p3, p4, p5, p6, p7]
def c119_2 : XC := (.sO [.mv p86 q7 .v, .fa p87 2 q3, .st q87 q86] (.s (.oX [.fa p88 4 q2, .ld p89 q88 tI, .fa p90 0 q3, .ld p91 q90 tI, .bn p92 .sub q89 q91 tI, .bn p93 .add q92 (ci 2) tI, .fa p94 4 q2, .st q94 q93])))
def v119_3 : List Pos := [p2, p3, p4, p5, p6, p7, p63, p64]
def c119_3b : XC := (.sO [.bn p65 .lss q64 q63 .b] (.seq (.cond q65 .skip (.exit 1)) (.seq (.block 2 (.seq (.oX [.mv p66 q64 tI, .mv p8 q66 tI]) (.seq (.oX [.P p67 (.build [(kI 0), .nils, .nils, (.str []), (kI 0), (kI 0), (kI 0)] []) .v, .al p9 (.new [(kI 0), .nils, .nils, (.str []), (kI 0), (kI 0), (kI 0)]), .ss 7 q9 q67]) (.seq (.ops true (XL.of [.L p69 (.cells 7 q2) .v, .fa p71 2 q3, .ld p72 q71 .v, .mv p73 q8 tI, .P p74 (.iaddr (.sl 7) q72 q73) .v, .L p75 (.cells 7 q74) .v, .o ⟨(some p70), (.call (.fn 85) [q69]), none, [⟨none, .cell q71, p72⟩, ⟨none, .cells 7 q74, p75⟩]⟩ .v, .cl p76 119 [q70, q75] .v, .mv p68 q76 .v, .P p77 (.ext q68 0) .v, .P p78 (.ext q68 1) .v, .ss 7 q2 q77, .ss 7 q9 q78])) (.seq (.oX [.L p79 (.cells 7 q2) .v, .cl p80 90 [q79] .v, .ss 7 q2 q80]) (.oX [.mv p81 q7 .v, .L p82 (.cells 7 q9) .v, .al p83 (.bsl [(kI 0), .nils, .nils, (.str []), (kI 0), (kI 0), (kI 0)] 1 [⟨0, 7, q82⟩]), .o ⟨(some p84), (.e (.app 7 96 q81 q83)), none, []⟩ .v, .mv p7 q84 .v])))))) (.s (.oX [.bn p85 .add q64 (ci 1) tI, .mv p64 q85 tI])))))
def v119_4 : List Pos := [p2, p3, p4, p5, p6]
def c119_4 : XC := (.sO [.mv p109 q6 .v, .P p110 (.lenl q109) tI, .bn p111 .gtr q110 (ci 0) .b] (.cond q111 (.s (.ops true (XL.of [.mv p113 q6 .v, .L p114 (.cells 7 q2) .v, .mv p115 q6 .v, .P p116 (.iaddr (.sl 8) q115 (ci 0)) .v, .L p117 (.cells 8 q116) .v, .fa p118 2 q2, .ld p119 q118 tI, .fa p120 6 q3, .ld p121 q120 tI, .cl p122 88 [q114, q117, q119, q121] .v, .mv p112 q122 .v, .P p123 (.ext q112 0) .v, .P p124 (.ext q112 1) .v, .ss 7 q2 q123, .P p125 (.iaddr (.sl 8) q113 (ci 0)) .v, .ss 8 q125 q124]))) (.s .skip)))
def v119_8 : List Pos := [p2, p3, p4, p5, p6]
def c119_8 : XC := (.s (.oX [.L p229 (.cells 7 q2) .v, .fa p230 3 q3, .ld p231 q230 .s, .fa p232 4 q3, .ld p233 q232 tI, .fa p234 5 q3, .ld p235 q234 tI, .P p236 (.build [(.bool false), (.bool false), (.bool false), (.str []), (kI 0), (kI 0), .nils, (.bool false), .nils, (kI 0), .nils, .nils, (.str []), (kI 0), (kI 0), (kI 0), (kI 0)] [⟨3, 1, q231⟩, ⟨4, 1, q233⟩, ⟨5, 1, q235⟩]) .v, .cl p237 87 [q229, q236] .v, .mv p228 q237 .v, .P p238 (.ext q228 0) .v, .P p239 (.ext q228 1) .s, .ss 7 q2 q238, .fa p240 3 q3, .st q240 q239]))
def c119_11 : XC := (.cond q223 (.s (.oX [.L p224 (.cells 7 q2) .v, .fa p225 6 q3, .ld p226 q225 tI, .cl p227 54 [q224, (ci 14), q226] .v, .ss 7 q2 q227])) (.s .skip))
def l119_10 : XL := (XL.of [])
def l119_9 : XL := (XL.pre [.P p223 (.pick q208 (cb true) q222) .b, .jn p208 [p2, p3, p4, p5, p6, p223]] l119_10)
def v119_7 : List Pos := [p2, p3, p4, p5, p6, p12]
def c119_7 : XC := (.sj v119_8 (.opq false (XL.pre [.mv p201 q12 .b, .P p202 (.un .not q201) .b, .mv p203 q202 .b, .ge p203 (XL.of [.G p203 false p204 (.faddr 4 q3) .v, .o ⟨(some p205), (.l (.cell q204)), (some (p203, false)), []⟩ tI, .G p203 false p206 (.bin .eql q205 (ci 0)) .b, .P p207 (.pick q203 (cb true) q206) .b]) p207 .b, .mv p208 q207 .b, .sp p208, .G p208 false p209 (.faddr 5 q3) .v, .o ⟨(some p210), (.l (.cell q209)), (some (p208, false)), []⟩ tI, .G p208 false p211 (.bin .gtr q210 (ci 0)) .b, .G p208 false p212 (.mov q211) .b, .sp p212, .G p212 true p213 (.faddr 4 q3) .v, .o ⟨(some p214), (.l (.cell q213)), (some (p212, true)), []⟩ tI, .o ⟨(some p215), (.call (.fn 84) [q214]), (some (p212, true)), []⟩ .b, .G p212 true p216 (.un .not q215) .b, .G p212 true p217 (.mov q216) .b, .ge p217 (XL.of [.G p217 false p218 (.mov q6) .v, .G p217 false p219 (.lenl q218) tI, .G p217 false p220 (.bin .gtr q219 (ci 0)) .b, .G p212 true p221 (.pick q217 (cb true) q220) .b]) p221 .b, .G p208 false p222 (.pick q212 q221 (cb false)) .b, .jn p212 [p2, p3, p4, p5, p6, p208, p222]] l119_9) c119_11) c119_8)
def v119_6 : List Pos := [p2, p3, p4, p5, p6]
def c119_6 : XC := (.sO [.mv p12 (cb true) .b] (.sj v119_7 (.sO [.mv p172 q6 .v, .P p173 (.lenl q172) tI, .bn p174 .gtr q173 (ci 0) .b, .mv p175 q174 .b, .ge p175 (XL.of [.G p175 true p176 (.faddr 5 q2) .v, .o ⟨(some p177), (.l (.cell q176)), (some (p175, true)), []⟩ tI, .G p175 true p178 (.bin .eql q177 (ci 0)) .b, .P p179 (.pick q175 q178 (cb false)) .b]) p179 .b] (.cond q179 (.seq (.ops true (XL.of [.mv p181 q6 .v, .L p182 (.cells 7 q2) .v, .mv p183 q6 .v, .P p184 (.iaddr (.sl 8) q183 (ci 0)) .v, .L p185 (.cells 8 q184) .v, .cl p186 117 [q182, q185] .v, .mv p180 q186 .v, .P p187 (.ext q180 0) .v, .P p188 (.ext q180 1) .v, .ss 7 q2 q187, .P p189 (.iaddr (.sl 8) q181 (ci 0)) .v, .ss 8 q189 q188])) (.s (.ops true (XL.of [.mv p191 q6 .v, .mv p192 q6 .v, .P p193 (.iaddr (.sl 8) q192 (ci 0)) .v, .L p194 (.cells 8 q193) .v, .fa p195 4 q3, .ld p196 q195 tI, .cl p197 118 [q194, q196] .v, .mv p190 q197 .v, .P p198 (.ext q190 0) .v, .P p199 (.ext q190 1) .b, .P p200 (.iaddr (.sl 8) q191 (ci 0)) .v, .ss 8 q200 q198, .mv p12 q199 .b])))) (.s .skip))) c119_7))
def v119_5 : List Pos := [p2, p3, p4, p5, p6, p23, p126]
def c119_5 : XC := (.cond q126 (.sO [.fa p129 4 q2, .ld p130 q129 tI, .bn p131 .eql q130 (ci 0) .b] (.cond q131 (.s (.oX [.L p132 (.cells 7 q2) .v, .fa p133 6 q3, .ld p134 q133 tI, .cl p135 54 [q132, (ci 14), q134] .v, .ss 7 q2 q135])) (.s .skip))) (.sO [.bn p137 .eql q23 (ci 7) .b, .mv p136 q137 .b] (.cond q136 (.sO [.mv p138 q6 .v, .P p139 (.lenl q138) tI, .bn p140 .gtr q139 (ci 0) .b] (.cond q140 (.s (.ops true (XL.of [.mv p142 q6 .v, .L p143 (.cells 7 q2) .v, .mv p144 q6 .v, .P p145 (.iaddr (.sl 8) q144 (ci 0)) .v, .L p146 (.cells 8 q145) .v, .cl p147 117 [q143, q146] .v, .mv p141 q147 .v, .P p148 (.ext q141 0) .v, .P p149 (.ext q141 1) .v, .ss 7 q2 q148, .P p150 (.iaddr (.sl 8) q142 (ci 0)) .v, .ss 8 q150 q149]))) (.s .skip))) (.sO [.bn p152 .eql q23 (ci 8) .b, .mv p151 q152 .b] (.cond q151 (.sO [.L p154 (.cells 7 q2) .v, .fa p155 3 q3, .ld p156 q155 .s, .cl p157 86 [q154, q156] .v, .mv p153 q157 .v, .P p158 (.ext q153 0) .v, .P p159 (.ext q153 1) .b, .al p10 (.new [(.bool false), (.bool false), (.bool false), (.str []), (kI 0), (kI 0), .nils, (.bool false), .nils, (kI 0), .nils, .nils, (.str []), (kI 0), (kI 0), (kI 0), (kI 0), (.str []), (kI 0)]), .ss 19 q10 q158, .mv p11 q159 .b] (.sj v119_6 (.sO [.mv p160 q11 .b, .mv p161 q160 .b, .ge p161 (XL.of [.G p161 true p162 (.faddr 18 q10) .v, .o ⟨(some p163), (.l (.cell q162)), (some (p161, true)), []⟩ tI, .G p161 true p164 (.faddr 1 q2) .v, .o ⟨(some p165), (.l (.cell q164)), (some (p161, true)), []⟩ tI, .G p161 true p166 (.bin .eql q163 q165) .b, .P p167 (.pick q161 q166 (cb false)) .b]) p167 .b] (.cond q167 (.s (.oX [.L p168 (.cells 7 q2) .v, .fa p169 6 q3, .ld p170 q169 tI, .cl p171 54 [q168, (ci 13), q170] .v, .ss 7 q2 q171])) (.s .skip))) c119_6)) (.s .skip))))))
def v119_1 : List Pos := [p2, p3, p4, p5, p6, p23, p37]
def c119_1 : XC := (.cond q37 (.seq (.ops true (XL.of [.mv p41 q6 .v, .L p42 (.cells 7 q2) .v, .mv p43 q6 .v, .P p44 (.iaddr (.sl 8) q43 (ci 0)) .v, .L p45 (.cells 8 q44) .v, .mv p46 q6 .v, .P p47 (.iaddr (.sl 8) q46 (ci 0)) .v, .fa p48 7 q47, .ld p49 q48 tI, .cl p50 88 [q42, q45, (ci 1), q49] .v, .mv p40 q50 .v, .P p51 (.ext q40 0) .v, .P p52 (.ext q40 1) .v, .ss 7 q2 q51, .P p53 (.iaddr (.sl 8) q41 (ci 0)) .v, .ss 8 q53 q52])) (.sO [.fa p54 4 q2, .ld p55 q54 tI, .fa p56 0 q3, .ld p57 q56 tI, .bn p58 .add q55 q57 tI, .bn p59 .sub q58 (ci 2) tI, .fa p60 4 q2, .st q60 q59] (.sO [.mv p7 (.c .nils) .v] (.sj v119_2 (.sO [.fa p61 2 q3, .ld p62 q61 .v, .P p63 (.lenl q62) tI, .mv p64 (ci 0) tI] (.block 1 (.loop v119_3 c119_3b))) c119_2)))) (.sO [.bn p96 .eql q23 (ci 4) .b, .mv p95 q96 .b] (.cond q95 (.sj v119_4 (.sO [.mv p97 q6 .v, .P p98 (.lenl q97) tI, .bn p99 .eql q98 (ci 0) .b, .mv p100 q99 .b, .ge p100 (XL.of [.G p100 true p101 (.faddr 2 q2) .v, .o ⟨(some p102), (.l (.cell q101)), (some (p100, true)), []⟩ tI, .G p100 true p103 (.bin .neq q102 (ci 0)) .b, .P p104 (.pick q100 q103 (cb false)) .b]) p104 .b] (.cond q104 (.s (.oX [.L p105 (.cells 7 q2) .v, .fa p106 6 q3, .ld p107 q106 tI, .cl p108 54 [q105, (ci 14), q107] .v, .ss 7 q2 q108])) (.s .skip))) c119_4) (.sj v119_5 (.sO [.bn p127 .eql q23 (ci 5) .b, .mv p126 q127 .b] (.cond q126 (.s .skip) (.s (.oX [.bn p128 .eql q23 (ci 6) .b, .mv p126 q128 .b])))) c119_5))))
def c119_e : XC := (.sO [.al p2 (.box q0), .al p3 (.box q1), .al p4 (.new [.nils, (kI 0), (kI 0), (kI 0), (kI 0), (kI 0), (kI 0)]), .al p5 (.new [(kI 0), .nils, .nils, (.str []), (kI 0), (kI 0), (kI 0)])] (.seq (.seq (.oX [.fa p13 5 q2, .ld p14 q13 tI, .bn p15 .neq q14 (ci 0) .b]) (.cond q15 (.seq (.ops true (XL.of [.L p16 (.cells 7 q2) .v, .L p17 (.cells 7 q3) .v, .o ⟨none, (.e (.stores 7 q4 q16)), none, [⟨none, .cells 7 q3, p17⟩]⟩ .v, .ss 7 q5 q17])) .ret) .skip)) (.sO [.al p18 (.bsl [] 0 []), .fa p19 1 q3, .ld p20 q19 .v, .o ⟨(some p21), (.e (.app 8 96 q18 q20)), none, []⟩ .v, .mv p6 q21 .v] (.sj v119_0 (.sO [.fa p22 0 q3, .ld p23 q22 tI] (.block 0 (.sO [.bn p25 .eql q23 (ci 1) .b, .mv p24 q25 .b] (.cond q24 (.seq (.ops true (XL.of [.L p27 (.cells 7 q2) .v, .fa p29 2 q3, .ld p30 q29 .v, .o ⟨(some p28), (.call (.fn 85) [q27]), none, [⟨none, .cell q29, p30⟩]⟩ .v, .cl p31 89 [q28, q30] .v, .mv p26 q31 .v, .P p32 (.ext q26 0) .v, .P p33 (.ext q26 1) .v, .ss 7 q2 q32, .fa p34 2 q3, .st q34 q33])) (.s (.oX [.L p35 (.cells 7 q2) .v, .cl p36 90 [q35] .v, .ss 7 q2 q36]))) (.sj v119_1 (.sO [.bn p38 .eql q23 (ci 2) .b, .mv p37 q38 .b] (.cond q37 (.s .skip) (.s (.oX [.bn p39 .eql q23 (ci 3) .b, .mv p37 q39 .b])))) c119_1))))) c119_0))))
def x119 : XFn := ⟨[.v, .v], false, [(.cells 7 p4), (.cells 7 p5)], c119_e⟩
def e119_0 (k) (t2 : AV) (t3 : AV) (t4 : AV) (t5 : AV) (t6 : AV) (h) := kN k [(p2, t2), (p3, t3), (p4, t4), (p5, t5), (p6, t6)] h
def S119_0 (D : CallD) (m : Nat) (t2 : AV) (t3 : AV) (t4 : AV) (t5 : AV) (t6 : AV) (h : HP) : Res2 :=
 faC 1 t3 fun t242 =>
 stoC t242 t6 h fun h21 =>
 cellsC 7 t2 h21 fun t243 =>
 cellsC 7 t3 h21 fun t244 =>
 stsC 7 t4 t243 h21 fun h22 =>
 br (again [⟨none, .cells 7 q3, p244⟩] (mkT [(p244, t244), (p3, t3)]) h22) (
 stsC 7 t5 t244 h22 fun h23 =>
 XFn.endOf x119 D (.ret ⟨(mkT [(p4, t4), (p5, t5)]), h23, [], .no⟩)) none
def e119_2 (k) (t2 : AV) (t3 : AV) (t4 : AV) (t5 : AV) (t6 : AV) (t7 : AV) (h) := kN k [(p2, t2), (p3, t3), (p4, t4), (p5, t5), (p6, t6), (p7, t7)] h
def S119_2 (D : CallD) (m : Nat) (t2 : AV) (t3 : AV) (t4 : AV) (t5 : AV) (t6 : AV) (t7 : AV) (h : HP) : Res2 :=
 faC 2 t3 fun t87 =>
 stoC t87 t7 h fun h34 =>
 faC 4 t2 fun t88 =>
 ldI t88 h34 fun t89 =>
 faC 0 t3 fun t90 =>
 ldI t90 h34 fun t91 =>
 let t92 : Int := wrQ .i64 (t89 - t91)
 let t93 : Int := wrQ .i64 (addQ t92 (Int.ofNat 2))
 faC 4 t2 fun t94 =>
 stoC t94 (vI t93) h34 fun h35 =>
 S119_0 D m t2 t3 t4 t5 t6 h35
def e119_3 (k) (t2 : AV) (t3 : AV) (t4 : AV) (t5 : AV) (t6 : AV) (t7 : AV) (t63 : Int) (t64 : Int) (h) := kN k [(p2, t2), (p3, t3), (p4, t4), (p5, t5), (p6, t6), (p7, t7), (p63, (vI t63)), (p64, (vI t64))] h
def S119_3b (D : CallD) (m : Nat) (g3 : AV → AV → AV → AV → AV → AV → Int → Int → HP → Res2) (t2 : AV) (t3 : AV) (t4 : AV) (t5 : AV) (t6 : AV) (t7 : AV) (t63 : Int) (t64 : Int) (h : HP) : Res2 :=
 let t65 : Bool := ltQ t64 t63
 br t65 (
 let t67 : AV := (AV.agg [(vI (Int.ofNat 0)), (.nils : AV), (.nils : AV), (vS ([] : LN)), (vI (Int.ofNat 0)), (vI (Int.ofNat 0)), (vI (Int.ofNat 0))])
 let t9 : AV := AV.ptr (HP.nxQ h) 0
 let h36 : HP := HP.newQ h (.cells true [(kI 0), .nils, .nils, (.str []), (kI 0), (kI 0), (kI 0)])
 stsC 7 t9 t67 h36 fun h37 =>
 cellsC 7 t2 h37 fun t69 =>
 faC 2 t3 fun t71 =>
 cellC t71 h37 fun t72 =>
 iasC 7 t72 (vI t64) fun t74 =>
 cellsC 7 t74 h37 fun t75 =>
 cal D 85 [t69] h37 fun t70 h38 =>
 br (again [⟨none, .cell q71, p72⟩, ⟨none, .cells 7 q74, p75⟩] (mkT [(p75, t75), (p74, t74), (p72, t72), (p71, t71)]) h38) (
 cal D 119 [t70, t75] h38 fun t76 h39 =>
 extC t76 0 fun t77 =>
 extC t76 1 fun t78 =>
 stsC 7 t2 t77 h39 fun h40 =>
 stsC 7 t9 t78 h40 fun h41 =>
 cellsC 7 t2 h41 fun t79 =>
 cal D 90 [t79] h41 fun t80 h42 =>
 stsC 7 t2 t80 h42 fun h43 =>
 cellsC 7 t9 h43 fun t82 =>
 obQ (evA (.bsl [(kI 0), .nils, .nils, (.str []), (kI 0), (kI 0), (kI 0)] 1 [⟨0, 7, (.c t82)⟩]) .leaf) fun r44 =>
 let t83 : AV := vkV r44.2 (HP.nxQ h43)
 let h45 : HP := HP.newQ h43 r44.1
 eff (.app 7 96 (.c t7) (.c t83)) h45 fun t84 h46 =>
 let t85 : Int := wrQ .i64 (addQ t64 (Int.ofNat 1))
 g3 t2 t3 t4 t5 t6 t84 t63 t85 h46) none) (
 S119_2 D m t2 t3 t4 t5 t6 t7 h)
def S119_3 (D : CallD) (m : Nat) : AV → AV → AV → AV → AV → AV → Int → Int → HP → Res2 := nrec (fun _ _ _ _ _ _ _ _ _ => none) (fun _ g => S119_3b D m g) m
def e119_4 (k) (t2 : AV) (t3 : AV) (t4 : AV) (t5 : AV) (t6 : AV) (h) := kN k [(p2, t2), (p3, t3), (p4, t4), (p5, t5), (p6, t6)] h
def S119_4 (D : CallD) (m : Nat) (t2 : AV) (t3 : AV) (t4 : AV) (t5 : AV) (t6 : AV) (h : HP) : Res2 :=
 lenC t6 fun vt110 => asI .i64 vt110 fun t110 =>
 let t111 : Bool := ltQ (Int.ofNat 0) t110
 br t111 (
 cellsC 7 t2 h fun t114 =>
 iasC 8 t6 (vI (Int.ofNat 0)) fun t116 =>
 cellsC 8 t116 h fun t117 =>
 faC 2 t2 fun t118 =>
 ldI t118 h fun t119 =>
 faC 6 t3 fun t120 =>
 ldI t120 h fun t121 =>
 cal D 88 [t114, t117, (vI t119), (vI t121)] h fun t122 h47 =>
 extC t122 0 fun t123 =>
 extC t122 1 fun t124 =>
 stsC 7 t2 t123 h47 fun h48 =>
 iasC 8 t6 (vI (Int.ofNat 0)) fun t125 =>
 stsC 8 t125 t124 h48 fun h49 =>
 S119_0 D m t2 t3 t4 t5 t6 h49) (
 S119_0 D m t2 t3 t4 t5 t6 h)
def e119_8 (k) (t2 : AV) (t3 : AV) (t4 : AV) (t5 : AV) (t6 : AV) (h) := kN k [(p2, t2), (p3, t3), (p4, t4), (p5, t5), (p6, t6)] h
def S119_8 (D : CallD) (m : Nat) (t2 : AV) (t3 : AV) (t4 : AV) (t5 : AV) (t6 : AV) (h : HP) : Res2 :=
 cellsC 7 t2 h fun t229 =>
 faC 3 t3 fun t230 =>
 ldS t230 h fun t231 =>
 faC 4 t3 fun t232 =>
 ldI t232 h fun t233 =>
 faC 5 t3 fun t234 =>
 ldI t234 h fun t235 =>
 let t236 : AV := (AV.agg [(vB false), (vB false), (vB false), (vS t231), (vI t233), (vI t235), (.nils : AV), (vB false), (.nils : AV), (vI (Int.ofNat 0)), (.nils : AV), (.nils : AV), (vS ([] : LN)), (vI (Int.ofNat 0)), (vI (Int.ofNat 0)), (vI (Int.ofNat 0)), (vI (Int.ofNat 0))])
 cal D 87 [t229, t236] h fun t237 h60 =>
 extC t237 0 fun t238 =>
 extC t237 1 fun vt239 => asS vt239 fun t239 =>
 stsC 7 t2 t238 h60 fun h61 =>
 faC 3 t3 fun t240 =>
 stoC t240 (vS t239) h61 fun h62 =>
 S119_0 D m t2 t3 t4 t5 t6 h62
def e119_10 (k) (t2 : AV) (t3 : AV) (t4 : AV) (t5 : AV) (t6 : AV) (t223 : Bool) (h) := kN k [(p2, t2), (p3, t3), (p4, t4), (p5, t5), (p6, t6), (p223, (vB t223))] h
def S119_10 (D : CallD) (m : Nat) (t2 : AV) (t3 : AV) (t4 : AV) (t5 : AV) (t6 : AV) (t223 : Bool) (h : HP) : Res2 :=
 br t223 (
 cellsC 7 t2 h fun t224 =>
 faC 6 t3 fun t225 =>
 ldI t225 h fun t226 =>
 cal D 54 [t224, (vI (Int.ofNat 14)), (vI t226)] h fun t227 h63 =>
 stsC 7 t2 t227 h63 fun h64 =>
 S119_8 D m t2 t3 t4 t5 t6 h64) (
 S119_8 D m t2 t3 t4 t5 t6 h)
def e119_9 (k) (t2 : AV) (t3 : AV) (t4 : AV) (t5 : AV) (t6 : AV) (t208 : Bool) (t222 : Bool) (h) := kN k [(p2, t2), (p3, t3), (p4, t4), (p5, t5), (p6, t6), (p208, (vB t208)), (p222, (vB t222))] h
def S119_9 (D : CallD) (m : Nat) (t2 : AV) (t3 : AV) (t4 : AV) (t5 : AV) (t6 : AV) (t208 : Bool) (t222 : Bool) (h : HP) : Res2 :=
 obB (brV t208 (some (vB true)) (some (vB t222))) fun t223 =>
 S119_10 D m t2 t3 t4 t5 t6 t223 h
def e119_7 (k) (t2 : AV) (t3 : AV) (t4 : AV) (t5 : AV) (t6 : AV) (t12 : Bool) (h) := kN k [(p2, t2), (p3, t3), (p4, t4), (p5, t5), (p6, t6), (p12, (vB t12))] h
def S119_7 (D : CallD) (m : Nat) (t2 : AV) (t3 : AV) (t4 : AV) (t5 : AV) (t6 : AV) (t12 : Bool) (h : HP) : Res2 :=
 let t202 : Bool := !t12
 obB (brV t202 (
 some (vB true)) (
 faCV 4 t3 fun t204 =>
 ldIV t204 h fun t205 =>
 let t206 : Bool := eqQ t205 (Int.ofNat 0)
 some (vB t206))) fun t207 =>
 br t207 (
 S119_10 D m t2 t3 t4 t5 t6 true h) (
 faC 5 t3 fun t209 =>
 ldI t209 h fun t210 =>
 let t211 : Bool := ltQ (Int.ofNat 0) t210
 br t211 (
 faC 4 t3 fun t213 =>
 ldI t213 h fun t214 =>
 cal D 84 [(vI t214)] h fun t215 h65 =>
 asB t215 fun t215a =>
 let t216 : Bool := !t215a
 obB (brV t216 (
 some (vB true)) (
 lenCV t6 fun vt219 => asIV .i64 vt219 fun t219 =>
 let t220 : Bool := ltQ (Int.ofNat 0) t219
 some (vB t220))) fun t221 =>
 S119_9 D m t2 t3 t4 t5 t6 false t221 h65) (
 S119_9 D m t2 t3 t4 t5 t6 false false h))
def e119_6 (k) (t2 : AV) (t3 : AV) (t4 : AV) (t5 : AV) (t6 : AV) (h) := kN k [(p2, t2), (p3, t3), (p4, t4), (p5, t5), (p6, t6)] h
def S119_6 (D : CallD) (m : Nat) (t2 : AV) (t3 : AV) (t4 : AV) (t5 : AV) (t6 : AV) (h : HP) : Res2 :=
 lenC t6 fun vt173 => asI .i64 vt173 fun t173 =>
 let t174 : Bool := ltQ (Int.ofNat 0) t173
 obB (brV t174 (
 faCV 5 t2 fun t176 =>
 ldIV t176 h fun t177 =>
 let t178 : Bool := eqQ t177 (Int.ofNat 0)
 some (vB t178)) (
 some (vB false))) fun t179 =>
 br t179 (
 cellsC 7 t2 h fun t182 =>
 iasC 8 t6 (vI (Int.ofNat 0)) fun t184 =>
 cellsC 8 t184 h fun t185 =>
 cal D 117 [t182, t185] h fun t186 h66 =>
 extC t186 0 fun t187 =>
 extC t186 1 fun t188 =>
 stsC 7 t2 t187 h66 fun h67 =>
 iasC 8 t6 (vI (Int.ofNat 0)) fun t189 =>
 stsC 8 t189 t188 h67 fun h68 =>
 iasC 8 t6 (vI (Int.ofNat 0)) fun t193 =>
 cellsC 8 t193 h68 fun t194 =>
 faC 4 t3 fun t195 =>
 ldI t195 h68 fun t196 =>
 cal D 118 [t194, (vI t196)] h68 fun t197 h69 =>
 extC t197 0 fun t198 =>
 extC t197 1 fun vt199 => asB vt199 fun t199 =>
 iasC 8 t6 (vI (Int.ofNat 0)) fun t200 =>
 stsC 8 t200 t198 h69 fun h70 =>
 S119_7 D m t2 t3 t4 t5 t6 t199 h70) (
 S119_7 D m t2 t3 t4 t5 t6 true h)
def e119_5 (k) (t2 : AV) (t3 : AV) (t4 : AV) (t5 : AV) (t6 : AV) (t23 : Int) (t126 : Bool) (h) := kN k [(p2, t2), (p3, t3), (p4, t4), (p5, t5), (p6, t6), (p23, (vI t23)), (p126, (vB t126))] h
def S119_5 (D : CallD) (m : Nat) (t2 : AV) (t3 : AV) (t4 : AV) (t5 : AV) (t6 : AV) (t23 : Int) (t126 : Bool) (h : HP) : Res2 :=
 br t126 (
 faC 4 t2 fun t129 =>
 ldI t129 h fun t130 =>
 let t131 : Bool := eqQ t130 (Int.ofNat 0)
 br t131 (
 cellsC 7 t2 h fun t132 =>
 faC 6 t3 fun t133 =>
 ldI t133 h fun t134 =>
 cal D 54 [t132, (vI (Int.ofNat 14)), (vI t134)] h fun t135 h52 =>
 stsC 7 t2 t135 h52 fun h53 =>
 S119_0 D m t2 t3 t4 t5 t6 h53) (
 S119_0 D m t2 t3 t4 t5 t6 h)) (
 let t137 : Bool := eqQ t23 (Int.ofNat 7)
 br t137 (
 lenC t6 fun vt139 => asI .i64 vt139 fun t139 =>
 let t140 : Bool := ltQ (Int.ofNat 0) t139
 br t140 (
 cellsC 7 t2 h fun t143 =>
 iasC 8 t6 (vI (Int.ofNat 0)) fun t145 =>
 cellsC 8 t145 h fun t146 =>
 cal D 117 [t143, t146] h fun t147 h54 =>
 extC t147 0 fun t148 =>
 extC t147 1 fun t149 =>
 stsC 7 t2 t148 h54 fun h55 =>
 iasC 8 t6 (vI (Int.ofNat 0)) fun t150 =>
 stsC 8 t150 t149 h55 fun h56 =>
 S119_0 D m t2 t3 t4 t5 t6 h56) (
 S119_0 D m t2 t3 t4 t5 t6 h)) (
 let t152 : Bool := eqQ t23 (Int.ofNat 8)
 br t152 (
 cellsC 7 t2 h fun t154 =>
 faC 3 t3 fun t155 =>
 ldS t155 h fun t156 =>
 cal D 86 [t154, (vS t156)] h fun t157 h57 =>
 extC t157 0 fun t158 =>
 extC t157 1 fun vt159 => asB vt159 fun t159 =>
 let t10 : AV := AV.ptr (HP.nxQ h57) 0
 let h58 : HP := HP.newQ h57 (.cells true [(.bool false), (.bool false), (.bool false), (.str []), (kI 0), (kI 0), .nils, (.bool false), .nils, (kI 0), .nils, .nils, (.str []), (kI 0), (kI 0), (kI 0), (kI 0), (.str []), (kI 0)])
 stsC 19 t10 t158 h58 fun h59 =>
 obB (brV t159 (
 let t162 : AV := (AV.ptr (HP.nxQ h57) (Nat.add 0 18))
 ldIV t162 h59 fun t163 =>
 faCV 1 t2 fun t164 =>
 ldIV t164 h59 fun t165 =>
 let t166 : Bool := eqQ t163 t165
 some (vB t166)) (
 some (vB false))) fun t167 =>
 br t167 (
 cellsC 7 t2 h59 fun t168 =>
 faC 6 t3 fun t169 =>
 ldI t169 h59 fun t170 =>
 cal D 54 [t168, (vI (Int.ofNat 13)), (vI t170)] h59 fun t171 h71 =>
 stsC 7 t2 t171 h71 fun h72 =>
 S119_6 D m t2 t3 t4 t5 t6 h72) (
 S119_6 D m t2 t3 t4 t5 t6 h59)) (
 S119_0 D m t2 t3 t4 t5 t6 h)))
def e119_1 (k) (t2 : AV) (t3 : AV) (t4 : AV) (t5 : AV) (t6 : AV) (t23 : Int) (t37 : Bool) (h) := kN k [(p2, t2), (p3, t3), (p4, t4), (p5, t5), (p6, t6), (p23, (vI t23)), (p37, (vB t37))] h
def S119_1 (D : CallD) (m : Nat) (t2 : AV) (t3 : AV) (t4 : AV) (t5 : AV) (t6 : AV) (t23 : Int) (t37 : Bool) (h : HP) : Res2 :=
 br t37 (
 cellsC 7 t2 h fun t42 =>
 iasC 8 t6 (vI (Int.ofNat 0)) fun t44 =>
 cellsC 8 t44 h fun t45 =>
 iasC 8 t6 (vI (Int.ofNat 0)) fun t47 =>
 faC 7 t47 fun t48 =>
 ldI t48 h fun t49 =>
 cal D 88 [t42, t45, (vI (Int.ofNat 1)), (vI t49)] h fun t50 h30 =>
 extC t50 0 fun t51 =>
 extC t50 1 fun t52 =>
 stsC 7 t2 t51 h30 fun h31 =>
 iasC 8 t6 (vI (Int.ofNat 0)) fun t53 =>
 stsC 8 t53 t52 h31 fun h32 =>
 faC 4 t2 fun t54 =>
 ldI t54 h32 fun t55 =>
 faC 0 t3 fun t56 =>
 ldI t56 h32 fun t57 =>
 let t58 : Int := wrQ .i64 (addQ t55 t57)
 let t59 : Int := wrQ .i64 (t58 - (Int.ofNat 2))
 faC 4 t2 fun t60 =>
 stoC t60 (vI t59) h32 fun h33 =>
 faC 2 t3 fun t61 =>
 cellC t61 h33 fun t62 =>
 lenC t62 fun vt63 => asI .i64 vt63 fun t63 =>
 S119_3 D m t2 t3 t4 t5 t6 (.nils : AV) t63 (Int.ofNat 0) h33) (
 let t96 : Bool := eqQ t23 (Int.ofNat 4)
 br t96 (
 lenC t6 fun vt98 => asI .i64 vt98 fun t98 =>
 let t99 : Bool := eqQ t98 (Int.ofNat 0)
 obB (brV t99 (
 faCV 2 t2 fun t101 =>
 ldIV t101 h fun t102 =>
 let t103 : Bool := notQ (eqQ t102 (Int.ofNat 0))
 some (vB t103)) (
 some (vB false))) fun t104 =>
 br t104 (
 cellsC 7 t2 h fun t105 =>
 faC 6 t3 fun t106 =>
 ldI t106 h fun t107 =>
 cal D 54 [t105, (vI (Int.ofNat 14)), (vI t107)] h fun t108 h50 =>
 stsC 7 t2 t108 h50 fun h51 =>
 S119_4 D m t2 t3 t4 t5 t6 h51) (
 S119_4 D m t2 t3 t4 t5 t6 h)) (
 let t127 : Bool := eqQ t23 (Int.ofNat 5)
 br t127 (
 S119_5 D m t2 t3 t4 t5 t6 t23 t127 h) (
 let t128 : Bool := eqQ t23 (Int.ofNat 6)
 S119_5 D m t2 t3 t4 t5 t6 t23 t128 h)))
def e119_12 (k) (t0 : AV) (t1 : AV) (h) := kN k [(p0, t0), (p1, t1)] h
def S119_12 (D : CallD) (m : Nat) (t0 : AV) (t1 : AV) (h : HP) : Res2 :=
 let t2 : AV := AV.ptr (HP.nxQ h) 0
 let h13 : HP := HP.newQ h (.cells true (AV.cells t0))
 let t3 : AV := AV.ptr (HP.nxQ h13) 0
 let h14 : HP := HP.newQ h13 (.cells true (AV.cells t1))
 let t4 : AV := AV.ptr (HP.nxQ h14) 0
 let h15 : HP := HP.newQ h14 (.cells true [.nils, (kI 0), (kI 0), (kI 0), (kI 0), (kI 0), (kI 0)])
 let t5 : AV := AV.ptr (HP.nxQ h15) 0
 let h16 : HP := HP.newQ h15 (.cells true [(kI 0), .nils, .nils, (.str []), (kI 0), (kI 0), (kI 0)])
 let t13 : AV := (AV.ptr (HP.nxQ h) (Nat.add 0 5))
 ldI t13 h16 fun t14 =>
 let t15 : Bool := notQ (eqQ t14 (Int.ofNat 0))
 br t15 (
 cellsC 7 t2 h16 fun t16 =>
 cellsC 7 t3 h16 fun t17 =>
 stsC 7 t4 t16 h16 fun h17 =>
 br (again [⟨none, .cells 7 q3, p17⟩] (mkT [(p17, t17), (p3, t3)]) h17) (
 stsC 7 t5 t17 h17 fun h18 =>
 XFn.endOf x119 D (.ret ⟨(mkT [(p4, t4), (p5, t5)]), h18, [], .no⟩)) none) (
 let t18 : AV := AV.slice (HP.nxQ h16) 0 0 (.exact 0)
 let h19 : HP := HP.newQ h16 (.cells true [])
 let t19 : AV := (AV.ptr (HP.nxQ h13) (Nat.add 0 1))
 cellC t19 h19 fun t20 =>
 eff (.app 8 96 (.c t18) (.c t20)) h19 fun t21 h20 =>
 let t22 : AV := (AV.ptr (HP.nxQ h13) (Nat.add 0 0))
 ldI t22 h20 fun t23 =>
 let t25 : Bool := eqQ t23 (Int.ofNat 1)
 br t25 (
 cellsC 7 t2 h20 fun t27 =>
 let t29 : AV := (AV.ptr (HP.nxQ h13) (Nat.add 0 2))
 cellC t29 h20 fun t30 =>
 cal D 85 [t27] h20 fun t28 h24 =>
 br (again [⟨none, .cell q29, p30⟩] (mkT [(p30, t30), (p29, t29)]) h24) (
 cal D 89 [t28, t30] h24 fun t31 h25 =>
 extC t31 0 fun t32 =>
 extC t31 1 fun t33 =>
 stsC 7 t2 t32 h25 fun h26 =>
 let t34 : AV := (AV.ptr (HP.nxQ h13) (Nat.add 0 2))
 stoC t34 t33 h26 fun h27 =>
 cellsC 7 t2 h27 fun t35 =>
 cal D 90 [t35] h27 fun t36 h28 =>
 stsC 7 t2 t36 h28 fun h29 =>
 S119_0 D m t2 t3 t4 t5 t21 h29) none) (
 let t38 : Bool := eqQ t23 (Int.ofNat 2)
 br t38 (
 S119_1 D m t2 t3 t4 t5 t21 t23 t38 h20) (
 let t39 : Bool := eqQ t23 (Int.ofNat 3)
 S119_1 D m t2 t3 t4 t5 t21 t23 t39 h20)))
def S119 : SFn := fun D m args h u => nou u <| popV args fun t0 args => popV args fun t1 args => endA args (S119_12 D m t0 t1 h)
theorem T119_0 {D m E} (hE : FX x119 D m E) : S119_0 D m = e119_0 (E c119_0 []) := by unfold S119_0; rw [hE c119_0]; kernel_rfl
theorem T119_2 {D m E} (hE : FX x119 D m E) : S119_2 D m = e119_2 (E c119_2 [.blk 0, .sj v119_0 c119_0]) := by unfold S119_2; rw [T119_0 hE, hE c119_2]; kernel_rfl
theorem T119_3b {D m E} (hE : FX x119 D m E) (G3) : S119_3b D m (e119_3 G3) = e119_3 (E c119_3b [.lp v119_3 G3, .blk 1, .sj v119_2 c119_2, .blk 0, .sj v119_0 c119_0]) := by unfold S119_3b; rw [T119_2 hE, hE c119_3b]; kernel_rfl
theorem T119_3 {D m E} (hE : FX x119 D m E) : S119_3 D m = e119_3 (nrec (fun _ => none) (fun _ G3 st => E c119_3b [.lp v119_3 G3, .blk 1, .sj v119_2 c119_2, .blk 0, .sj v119_0 c119_0] st) m) :=
  nrec_emb e119_3 (fun _ _ _ _ _ _ _ _ _ => none) (fun g => S119_3b D m g) (fun G3 st => E c119_3b [.lp v119_3 G3, .blk 1, .sj v119_2 c119_2, .blk 0, .sj v119_0 c119_0] st) rfl (fun g => T119_3b hE g) m
theorem T119_4 {D m E} (hE : FX x119 D m E) : S119_4 D m = e119_4 (E c119_4 [.blk 0, .sj v119_0 c119_0]) := by unfold S119_4; rw [T119_0 hE, hE c119_4]; kernel_rfl
theorem T119_8 {D m E} (hE : FX x119 D m E) : S119_8 D m = e119_8 (E c119_8 [.blk 0, .sj v119_0 c119_0]) := by unfold S119_8; rw [T119_0 hE, hE c119_8]; kernel_rfl
theorem T119_10 {D m E} (hE : FX x119 D m E) : S119_10 D m = e119_10 (E (.opq false l119_10 c119_11) [.sj v119_8 c119_8, .blk 0, .sj v119_0 c119_0]) := by unfold S119_10; rw [T119_8 hE, hE (.opq false l119_10 c119_11)]; kernel_rfl
theorem T119_9 {D m E} (hE : FX x119 D m E) : S119_9 D m = e119_9 (E (.opq false l119_9 c119_11) [.sj v119_8 c119_8, .blk 0, .sj v119_0 c119_0]) := by unfold S119_9; rw [T119_10 hE, hE (.opq false l119_9 c119_11)]; kernel_rfl
theorem T119_7 {D m E} (hE : FX x119 D m E) : S119_7 D m = e119_7 (E c119_7 [.blk 0, .sj v119_0 c119_0]) := by unfold S119_7; rw [T119_10 hE, T119_9 hE, hE c119_7]; kernel_rfl
theorem T119_6 {D m E} (hE : FX x119 D m E) : S119_6 D m = e119_6 (E c119_6 [.blk 0, .sj v119_0 c119_0]) := by unfold S119_6; rw [T119_7 hE, hE c119_6]; kernel_rfl
theorem T119_5 {D m E} (hE : FX x119 D m E) : S119_5 D m = e119_5 (E c119_5 [.blk 0, .sj v119_0 c119_0]) := by unfold S119_5; rw [T119_0 hE, T119_6 hE, hE c119_5]; kernel_rfl
theorem T119_1 {D m E} (hE : FX x119 D m E) : S119_1 D m = e119_1 (E c119_1 [.blk 0, .sj v119_0 c119_0]) := by unfold S119_1; rw [T119_3 hE, T119_4 hE, T119_5 hE, hE c119_1]; kernel_rfl
theorem T119_12 {D m E} (hE : FX x119 D m E) : S119_12 D m = e119_12 (E c119_e []) := by unfold S119_12; rw [T119_0 hE, T119_1 hE, hE c119_e]; kernel_rfl
theorem X119 (D m args h u) : S119 D m args h u = evFX x119 D m args h u := by unfold S119; rw [T119_12 (fix_ok D m (x119.endOf D))]; show _ = evFXE x119 (evE2 D m (x119.endOf D)) args h u; generalize evE2 D m (x119.endOf D) = E; kernel_rfl
/- 122 -/
def v122_0 : List Pos := [p3]
def c122_0 : XC := (.sO [.mv p24 q3 tI, .mv p2 q24 tI] (.s .ret))
def v122_1 : List Pos := [p3, p4]
def c122_1b : XC := (.seq (.seq (.oX [.mv p18 q4 tI, .bn p19 .gtr q18 (ci 0) .b]) (.cond q19 .skip (.exit 0))) (.seq (.block 1 (.oX [.mv p22 q3 tI, .bn p23 .add q22 (ci 1) tI, .mv p3 q23 tI])) (.s (.oX [.mv p20 q4 tI, .bn p21 .quo q20 (ci 2) tI, .mv p4 q21 tI]))))
def c122_e : XC := (.sO [.mv p2 (ci 0) tI] (.seq (.seq (.oX [.mv p5 q0 .v, .P p6 (.lenl q5) tI, .bn p7 .eql q6 (ci 0) .b]) (.cond q7 (.seq (.oX [.mv p2 (ci 0) tI]) .ret) .skip)) (.sO [.mv p8 q0 .v, .P p9 (.lenl q8) tI, .bn p10 .sub q9 (ci 1) tI, .bn p11 .mul (ci 16) q10 tI, .mv p3 q11 tI] (.sj v122_0 (.sO [.mv p12 q0 .v, .mv p13 q0 .v, .P p14 (.lenl q13) tI, .bn p15 .sub q14 (ci 1) tI, .P p16 (.iaddr (.sl 1) q12 q15) .v, .ld p17 q16 tI, .mv p4 q17 tI] (.block 0 (.loop v122_1 c122_1b))) c122_0))))
def x122 : XFn := ⟨[.v], false, [(.tmp p2)], c122_e⟩
def e122_0 (k) (t3 : Int) (h) := kN k [(p3, (vI t3))] h
def S122_0 (D : CallD) (m : Nat) (t3 : Int) (h : HP) : Res2 :=
 some (.ret (vI t3) h, .no)
def e122_1 (k) (t3 : Int) (t4 : Int) (h) := kN k [(p3, (vI t3)), (p4, (vI t4))] h
def S122_1b (D : CallD) (m : Nat) (g1 : Int → Int → HP → Res2) (t3 : Int) (t4 : Int) (h : HP) : Res2 :=
 let t19 : Bool := ltQ (Int.ofNat 0) t4
 br t19 (
 let t23 : Int := wrQ .i64 (addQ t3 (Int.ofNat 1))
 let t21 : Int := wrapF .i64 (Int.tdiv t4 (Int.ofNat 2))
 g1 t23 t21 h) (
 S122_0 D m t3 h)
def S122_1 (D : CallD) (m : Nat) : Int → Int → HP → Res2 := nrec (fun _ _ _ => none) (fun _ g => S122_1b D m g) m
def e122_2 (k) (t0 : AV) (h) := kN k [(p0, t0)] h
def S122_2 (D : CallD) (m : Nat) (t0 : AV) (h : HP) : Res2 :=
 lenC t0 fun vt6 => asI .i64 vt6 fun t6 =>
 let t7 : Bool := eqQ t6 (Int.ofNat 0)
 br t7 (
 some (.ret (vI (Int.ofNat 0)) h, .no)) (
 lenC t0 fun vt9 => asI .i64 vt9 fun t9 =>
 let t10 : Int := wrQ .i64 (t9 - (Int.ofNat 1))
 let t11 : Int := wrQ .i64 ((Int.ofNat 16) * t10)
 lenC t0 fun vt14 => asI .i64 vt14 fun t14 =>
 let t15 : Int := wrQ .i64 (t14 - (Int.ofNat 1))
 iasC 1 t0 (vI t15) fun t16 =>
 ldI t16 h fun t17 =>
 S122_1 D m t11 t17 h)
def S122 : SFn := fun D m args h u => nou u <| popV args fun t0 args => endA args (S122_2 D m t0 h)
theorem T122_0 {D m E} (hE : FX x122 D m E) : S122_0 D m = e122_0 (E c122_0 []) := by unfold S122_0; rw [hE c122_0]; kernel_rfl
theorem T122_1b {D m E} (hE : FX x122 D m E) (G1) : S122_1b D m (e122_1 G1) = e122_1 (E c122_1b [.lp v122_1 G1, .blk 0, .sj v122_0 c122_0]) := by unfold S122_1b; rw [T122_0 hE, hE c122_1b]; kernel_rfl
theorem T122_1 {D m E} (hE : FX x122 D m E) : S122_1 D m = e122_1 (nrec (fun _ => none) (fun _ G1 st => E c122_1b [.lp v122_1 G1, .blk 0, .sj v122_0 c122_0] st) m) :=
  nrec_emb e122_1 (fun _ _ _ => none) (fun g => S122_1b D m g) (fun G1 st => E c122_1b [.lp v122_1 G1, .blk 0, .sj v122_0 c122_0] st) rfl (fun g => T122_1b hE g) m
theorem T122_2 {D m E} (hE : FX x122 D m E) : S122_2 D m = e122_2 (E c122_e []) := by unfold S122_2; rw [T122_1 hE, hE c122_e]; kernel_rfl
theorem X122 (D m args h u) : S122 D m args h u = evFX x122 D m args h u := by unfold S122; rw [T122_2 (fix_ok D m (x122.endOf D))]; show _ = evFXE x122 (evE2 D m (x122.endOf D)) args h u; generalize evE2 D m (x122.endOf D) = E; kernel_rfl
/- 123 -/
def v123_2 : List Pos := [p5]
def c123_2 : XC := (.sO [.mv p47 q5 .v, .mv p4 q47 .v] (.s .ret))
def v123_3 : List Pos := [p5, p9, p35, p36]
def c123_3b : XC := (.sO [.bn p37 .lss q36 q35 .b] (.seq (.cond q37 .skip (.exit 4)) (.seq (.block 5 (.seq (.oX [.mv p38 q36 tI, .mv p10 q38 tI]) (.oX [.mv p39 q5 .v, .mv p40 q9 .v, .mv p41 q10 tI, .P p42 (.iaddr (.sl 1) q40 q41) .v, .ld p43 q42 tI, .al p44 (.bsl [(kI 0)] 1 [⟨0, 1, q43⟩]), .o ⟨(some p45), (.e (.app 1 8 q39 q44)), none, []⟩ .v, .mv p5 q45 .v]))) (.s (.oX [.bn p46 .add q36 (ci 1) tI, .mv p36 q46 tI])))))
def v123_1 : List Pos := [p0, p5, p7]
def c123_1 : XC := (.sO [.mv p31 q0 .v, .mv p32 q7 tI, .cl p33 146 [q31, q32] .v, .mv p9 q33 .v] (.sj v123_2 (.sO [.mv p34 q9 .v, .P p35 (.lenl q34) tI, .mv p36 (ci 0) tI] (.block 4 (.loop v123_3 c123_3b))) c123_2))
def v123_4 : List Pos := [p0, p1, p5, p7, p8]
def c123_4b : XC := (.seq (.seq (.oX [.mv p23 q8 tI, .mv p24 q1 tI, .bn p25 .rem q24 (ci 16) tI, .bn p26 .lss q23 q25 .b]) (.cond q26 .skip (.exit 2))) (.seq (.block 3 (.oX [.mv p29 q7 tI, .bn p30 .mul q29 (ci 2) tI, .mv p7 q30 tI])) (.s (.oX [.mv p27 q8 tI, .bn p28 .add q27 (ci 1) tI, .mv p8 q28 tI]))))
def v123_0 : List Pos := [p0, p1, p5]
def c123_0 : XC := (.sO [.mv p7 (ci 1) tI] (.sj v123_1 (.sO [.mv p8 (ci 0) tI] (.block 2 (.loop v123_4 c123_4b))) c123_1))
def v123_5 : List Pos := [p0, p1, p5, p6]
def c123_5b : XC := (.seq (.seq (.oX [.mv p14 q6 tI, .mv p15 q1 tI, .bn p16 .quo q15 (ci 16) tI, .bn p17 .lss q14 q16 .b]) (.cond q17 .skip (.exit 0))) (.seq (.block 1 (.oX [.mv p20 q5 .v, .al p21 (.bsl [(kI 0)] 1 [⟨0, 1, (ci 0)⟩]), .o ⟨(some p22), (.e (.app 1 8 q20 q21)), none, []⟩ .v, .mv p5 q22 .v])) (.s (.oX [.mv p18 q6 tI, .bn p19 .add q18 (ci 1) tI, .mv p6 q19 tI]))))
def c123_e : XC := (.sO [.mv p4 (.c .nils) .v] (.seq (.seq (.oX [.mv p11 q0 .v, .P p12 (.lenl q11) tI, .bn p13 .eql q12 (ci 0) .b]) (.cond q13 (.seq (.oX [.mv p4 (.c .nils) .v]) .ret) .skip)) (.sO [.mv p5 (.c .nils) .v] (.sj v123_0 (.sO [.mv p6 (ci 0) tI] (.block 0 (.loop v123_5 c123_5b))) c123_0))))
def x123 : XFn := ⟨[.v, tI], false, [(.tmp p4)], c123_e⟩
def e123_2 (k) (t5 : AV) (h) := kN k [(p5, t5)] h
def S123_2 (D : CallD) (m : Nat) (t5 : AV) (h : HP) : Res2 :=
 some (.ret t5 h, .no)
def e123_3 (k) (t5 : AV) (t9 : AV) (t35 : Int) (t36 : Int) (h) := kN k [(p5, t5), (p9, t9), (p35, (vI t35)), (p36, (vI t36))] h
def S123_3b (D : CallD) (m : Nat) (g3 : AV → AV → Int → Int → HP → Res2) (t5 : AV) (t9 : AV) (t35 : Int) (t36 : Int) (h : HP) : Res2 :=
 let t37 : Bool := ltQ t36 t35
 br t37 (
 iasC 1 t9 (vI t36) fun t42 =>
 ldI t42 h fun t43 =>
 let t44 : AV := AV.slice (HP.nxQ h) 0 1 (.exact 1)
 let h8 : HP := HP.newQ h (.cells true [(vI t43)])
 eff (.app 1 8 (.c t5) (.c t44)) h8 fun t45 h9 =>
 let t46 : Int := wrQ .i64 (addQ t36 (Int.ofNat 1))
 g3 t45 t9 t35 t46 h9) (
 S123_2 D m t5 h)
def S123_3 (D : CallD) (m : Nat) : AV → AV → Int → Int → HP → Res2 := nrec (fun _ _ _ _ _ => none) (fun _ g => S123_3b D m g) m
def e123_1 (k) (t0 : AV) (t5 : AV) (t7 : Int) (h) := kN k [(p0, t0), (p5, t5), (p7, (vI t7))] h
def S123_1 (D : CallD) (m : Nat) (t0 : AV) (t5 : AV) (t7 : Int) (h : HP) : Res2 :=
 cal D 146 [t0, (vI t7)] h fun t33 h7 =>
 lenC t33 fun vt35 => asI .i64 vt35 fun t35 =>
 S123_3 D m t5 t33 t35 (Int.ofNat 0) h7
def e123_4 (k) (t0 : AV) (t1 : Int) (t5 : AV) (t7 : Int) (t8 : Int) (h) := kN k [(p0, t0), (p1, (vI t1)), (p5, t5), (p7, (vI t7)), (p8, (vI t8))] h
def S123_4b (D : CallD) (m : Nat) (g4 : AV → Int → AV → Int → Int → HP → Res2) (t0 : AV) (t1 : Int) (t5 : AV) (t7 : Int) (t8 : Int) (h : HP) : Res2 :=
 let t25 : Int := Int.tmod t1 (Int.ofNat 16)
 let t26 : Bool := ltQ t8 t25
 br t26 (
 let t30 : Int := wrQ .i64 (t7 * (Int.ofNat 2))
 let t28 : Int := wrQ .i64 (addQ t8 (Int.ofNat 1))
 g4 t0 t1 t5 t30 t28 h) (
 S123_1 D m t0 t5 t7 h)
def S123_4 (D : CallD) (m : Nat) : AV → Int → AV → Int → Int → HP → Res2 := nrec (fun _ _ _ _ _ _ => none) (fun _ g => S123_4b D m g) m
def e123_0 (k) (t0 : AV) (t1 : Int) (t5 : AV) (h) := kN k [(p0, t0), (p1, (vI t1)), (p5, t5)] h
def S123_0 (D : CallD) (m : Nat) (t0 : AV) (t1 : Int) (t5 : AV) (h : HP) : Res2 :=
 S123_4 D m t0 t1 t5 (Int.ofNat 1) (Int.ofNat 0) h
def e123_5 (k) (t0 : AV) (t1 : Int) (t5 : AV) (t6 : Int) (h) := kN k [(p0, t0), (p1, (vI t1)), (p5, t5), (p6, (vI t6))] h
def S123_5b (D : CallD) (m : Nat) (g5 : AV → Int → AV → Int → HP → Res2) (t0 : AV) (t1 : Int) (t5 : AV) (t6 : Int) (h : HP) : Res2 :=
 let t16 : Int := wrapF .i64 (Int.tdiv t1 (Int.ofNat 16))
 let t17 : Bool := ltQ t6 t16
 br t17 (
 let t21 : AV := AV.slice (HP.nxQ h) 0 1 (.exact 1)
 let h10 : HP := HP.newQ h (.cells true [(vI (Int.ofNat 0))])
 eff (.app 1 8 (.c t5) (.c t21)) h10 fun t22 h11 =>
 let t19 : Int := wrQ .i64 (addQ t6 (Int.ofNat 1))
 g5 t0 t1 t22 t19 h11) (
 S123_0 D m t0 t1 t5 h)
def S123_5 (D : CallD) (m : Nat) : AV → Int → AV → Int → HP → Res2 := nrec (fun _ _ _ _ _ => none) (fun _ g => S123_5b D m g) m
def e123_6 (k) (t0 : AV) (t1 : Int) (h) := kN k [(p0, t0), (p1, (vI t1))] h
def S123_6 (D : CallD) (m : Nat) (t0 : AV) (t1 : Int) (h : HP) : Res2 :=
 lenC t0 fun vt12 => asI .i64 vt12 fun t12 =>
 let t13 : Bool := eqQ t12 (Int.ofNat 0)
 br t13 (
 some (.ret (.nils : AV) h, .no)) (
 S123_5 D m t0 t1 (.nils : AV) (Int.ofNat 0) h)
def S123 : SFn := fun D m args h u => nou u <| popV args fun t0 args => popI .i64 args fun t1 args => endA args (S123_6 D m t0 t1 h)
theorem T123_2 {D m E} (hE : FX x123 D m E) : S123_2 D m = e123_2 (E c123_2 []) := by unfold S123_2; rw [hE c123_2]; kernel_rfl
theorem T123_3b {D m E} (hE : FX x123 D m E) (G3) : S123_3b D m (e123_3 G3) = e123_3 (E c123_3b [.lp v123_3 G3, .blk 4, .sj v123_2 c123_2]) := by unfold S123_3b; rw [T123_2 hE, hE c123_3b]; kernel_rfl
theorem T123_3 {D m E} (hE : FX x123 D m E) : S123_3 D m = e123_3 (nrec (fun _ => none) (fun _ G3 st => E c123_3b [.lp v123_3 G3, .blk 4, .sj v123_2 c123_2] st) m) :=
  nrec_emb e123_3 (fun _ _ _ _ _ => none) (fun g => S123_3b D m g) (fun G3 st => E c123_3b [.lp v123_3 G3, .blk 4, .sj v123_2 c123_2] st) rfl (fun g => T123_3b hE g) m
theorem T123_1 {D m E} (hE : FX x123 D m E) : S123_1 D m = e123_1 (E c123_1 []) := by unfold S123_1; rw [T123_3 hE, hE c123_1]; kernel_rfl
theorem T123_4b {D m E} (hE : FX x123 D m E) (G4) : S123_4b D m (e123_4 G4) = e123_4 (E c123_4b [.lp v123_4 G4, .blk 2, .sj v123_1 c123_1]) := by unfold S123_4b; rw [T123_1 hE, hE c123_4b]; kernel_rfl
theorem T123_4 {D m E} (hE : FX x123 D m E) : S123_4 D m = e123_4 (nrec (fun _ => none) (fun _ G4 st => E c123_4b [.lp v123_4 G4, .blk 2, .sj v123_1 c123_1] st) m) :=
  nrec_emb e123_4 (fun _ _ _ _ _ _ => none) (fun g => S123_4b D m g) (fun G4 st => E c123_4b [.lp v123_4 G4, .blk 2, .sj v123_1 c123_1] st) rfl (fun g => T123_4b hE g) m
theorem T123_0 {D m E} (hE : FX x123 D m E) : S123_0 D m = e123_0 (E c123_0 []) := by unfold S123_0; rw [T123_4 hE, hE c123_0]; kernel_rfl
theorem T123_5b {D m E} (hE : FX x123 D m E) (G5) : S123_5b D m (e123_5 G5) = e123_5 (E c123_5b [.lp v123_5 G5, .blk 0, .sj v123_0 c123_0]) := by unfold S123_5b; rw [T123_0 hE, hE c123_5b]; kernel_rfl
theorem T123_5 {D m E} (hE : FX x123 D m E) : S123_5 D m = e123_5 (nrec (fun _ => none) (fun _ G5 st => E c123_5b [.lp v123_5 G5, .blk 0, .sj v123_0 c123_0] st) m) :=
  nrec_emb e123_5 (fun _ _ _ _ _ => none) (fun g => S123_5b D m g) (fun G5 st => E c123_5b [.lp v123_5 G5, .blk 0, .sj v123_0 c123_0] st) rfl (fun g => T123_5b hE g) m
theorem T123_6 {D m E} (hE : FX x123 D m E) : S123_6 D m = e123_6 (E c123_e []) := by unfold S123_6; rw [T123_5 hE, hE c123_e]; kernel_rfl
theorem X123 (D m args h u) : S123 D m args h u = evFX x123 D m args h u := by unfold S123; rw [T123_6 (fix_ok D m (x123.endOf D))]; show _ = evFXE x123 (evE2 D m (x123.endOf D)) args h u; generalize evE2 D m (x123.endOf D) = E; kernel_rfl
/- 124 -/
def v124_0 : List Pos := [p0, p6]
def c124_0 : XC := (.sO [.mv p27 q6 tI, .mv p28 q0 .v, .mv p4 q27 tI, .mv p5 q28 .v] (.s .ret))
def v124_2 : List Pos := [p0, p6, p7, p8]
def c124_2 : XC := (.sO [.mv p23 q8 .v, .cl p24 148 [q23] .v, .mv p8 q24 .v] (.s (.oX [.mv p25 q7 tI, .bn p26 .quo q25 (ci 2) tI, .mv p7 q26 tI])))
def v124_1 : List Pos := [p0, p6, p7, p8]
def c124_1b : XC := (.seq (.seq (.oX [.mv p11 q7 tI, .bn p12 .gtr q11 (ci 0) .b]) (.cond q12 .skip (.exit 0))) (.block 1 (.sj v124_2 (.sO [.mv p13 q0 .v, .mv p14 q8 .v, .cl p15 125 [q13, q14] tI, .bn p16 .geq q15 (ci 0) .b] (.cond q16 (.sO [.mv p17 q0 .v, .mv p18 q8 .v, .cl p19 147 [q17, q18] .v, .mv p0 q19 .v] (.s (.oX [.mv p20 q6 tI, .mv p21 q7 tI, .bn p22 .add q20 q21 tI, .mv p6 q22 tI]))) (.s .skip))) c124_2)))
def c124_e : XC := (.sO [.mv p4 (ci 0) tI, .mv p5 (.c .nils) .v] (.sO [.mv p6 (ci 0) tI, .mv p7 (ci 72057594037927936) tI] (.sO [.mv p9 q1 .v, .cl p10 123 [q9, (ci 56)] .v, .mv p8 q10 .v] (.sj v124_0 (.block 0 (.loop v124_1 c124_1b)) c124_0))))
def x124 : XFn := ⟨[.v, .v], false, [(.tmp p4), (.tmp p5)], c124_e⟩
def e124_0 (k) (t0 : AV) (t6 : Int) (h) := kN k [(p0, t0), (p6, (vI t6))] h
def S124_0 (D : CallD) (m : Nat) (t0 : AV) (t6 : Int) (h : HP) : Res2 :=
 some (.ret (.tup [(vI t6), t0]) h, .no)
def e124_2 (k) (t0 : AV) (t6 : Int) (t7 : Int) (t8 : AV) (h) := kN k [(p0, t0), (p6, (vI t6)), (p7, (vI t7)), (p8, t8)] h
def S124_2 (D : CallD) (m : Nat) (g1 : AV → Int → Int → AV → HP → Res2) (t0 : AV) (t6 : Int) (t7 : Int) (t8 : AV) (h : HP) : Res2 :=
 cal D 148 [t8] h fun t24 h5 =>
 let t26 : Int := wrapF .i64 (Int.tdiv t7 (Int.ofNat 2))
 g1 t0 t6 t26 t24 h5
def e124_1 (k) (t0 : AV) (t6 : Int) (t7 : Int) (t8 : AV) (h) := kN k [(p0, t0), (p6, (vI t6)), (p7, (vI t7)), (p8, t8)] h
def S124_1b (D : CallD) (m : Nat) (g1 : AV → Int → Int → AV → HP → Res2) (t0 : AV) (t6 : Int) (t7 : Int) (t8 : AV) (h : HP) : Res2 :=
 let t12 : Bool := ltQ (Int.ofNat 0) t7
 br t12 (
 cal D 125 [t0, t8] h fun t15 h6 =>
 asI .i64 t15 fun t15a =>
 let t16 : Bool := leQ (Int.ofNat 0) t15a
 br t16 (
 cal D 147 [t0, t8] h6 fun t19 h7 =>
 let t22 : Int := wrQ .i64 (addQ t6 t7)
 S124_2 D m g1 t19 t22 t7 t8 h7) (
 S124_2 D m g1 t0 t6 t7 t8 h6)) (
 S124_0 D m t0 t6 h)
def S124_1 (D : CallD) (m : Nat) : AV → Int → Int → AV → HP → Res2 := nrec (fun _ _ _ _ _ => none) (fun _ g => S124_1b D m g) m
def e124_3 (k) (t0 : AV) (t1 : AV) (h) := kN k [(p0, t0), (p1, t1)] h
def S124_3 (D : CallD) (m : Nat) (t0 : AV) (t1 : AV) (h : HP) : Res2 :=
 cal D 123 [t1, (vI (Int.ofNat 56))] h fun t10 h4 =>
 S124_1 D m t0 (Int.ofNat 0) (Int.ofNat 72057594037927936) t10 h4
def S124 : SFn := fun D m args h u => nou u <| popV args fun t0 args => popV args fun t1 args => endA args (S124_3 D m t0 t1 h)
theorem T124_0 {D m E} (hE : FX x124 D m E) : S124_0 D m = e124_0 (E c124_0 []) := by unfold S124_0; rw [hE c124_0]; kernel_rfl
theorem T124_2 {D m E} (hE : FX x124 D m E) (G1) : S124_2 D m (e124_1 G1) = e124_2 (E c124_2 [.blk 1, .lp v124_1 G1, .blk 0, .sj v124_0 c124_0]) := by unfold S124_2; rw [hE c124_2]; kernel_rfl
theorem T124_1b {D m E} (hE : FX x124 D m E) (G1) : S124_1b D m (e124_1 G1) = e124_1 (E c124_1b [.lp v124_1 G1, .blk 0, .sj v124_0 c124_0]) := by unfold S124_1b; rw [T124_2 hE G1, T124_0 hE, hE c124_1b]; kernel_rfl
theorem T124_1 {D m E} (hE : FX x124 D m E) : S124_1 D m = e124_1 (nrec (fun _ => none) (fun _ G1 st => E c124_1b [.lp v124_1 G1, .blk 0, .sj v124_0 c124_0] st) m) :=
  nrec_emb e124_1 (fun _ _ _ _ _ => none) (fun g => S124_1b D m g) (fun G1 st => E c124_1b [.lp v124_1 G1, .blk 0, .sj v124_0 c124_0] st) rfl (fun g => T124_1b hE g) m
theorem T124_3 {D m E} (hE : FX x124 D m E) : S124_3 D m = e124_3 (E c124_e []) := by unfold S124_3; rw [T124_1 hE, hE c124_e]; kernel_rfl
theorem X124 (D m args h u) : S124 D m args h u = evFX x124 D m args h u := by unfold S124; rw [T124_3 (fix_ok D m (x124.endOf D))]; show _ = evFXE x124 (evE2 D m (x124.endOf D)) args h u; generalize evE2 D m (x124.endOf D) = E; kernel_rfl
/- 125 -/
def v125_1 : List Pos := []
def c125_1 : XC := (.sO [.mv p4 (ci 0) tI] (.s .ret))
def v125_2 : List Pos := [p0, p1, p6]
def c125_2b : XC := (.seq (.seq (.oX [.mv p19 q6 tI, .bn p20 .geq q19 (ci 0) .b]) (.cond q20 .skip (.exit 0))) (.seq (.block 1 (.seq (.oX [.mv p23 q0 .v, .mv p24 q6 tI, .cl p25 149 [q23, q24] tI, .mv p26 q1 .v, .mv p27 q6 tI, .cl p28 149 [q26, q27] tI, .mv p7 q25 tI, .mv p8 q28 tI]) (.seq (.seq (.oX [.mv p29 q7 tI, .mv p30 q8 tI, .bn p31 .lss q29 q30 .b]) (.cond q31 (.seq (.oX [.mv p4 (.c (.int .i64 (.negSucc 0))) tI]) .ret) .skip)) (.seq (.oX [.mv p32 q7 tI, .mv p33 q8 tI, .bn p34 .gtr q32 q33 .b]) (.cond q34 (.seq (.oX [.mv p4 (ci 1) tI]) .ret) .skip))))) (.s (.oX [.mv p21 q6 tI, .bn p22 .sub q21 (ci 1) tI, .mv p6 q22 tI]))))
def v125_0 : List Pos := [p0, p1, p5]
def c125_0 : XC := (.sj v125_1 (.sO [.mv p17 q5 tI, .bn p18 .sub q17 (ci 1) tI, .mv p6 q18 tI] (.block 0 (.loop v125_2 c125_2b))) c125_1)
def c125_e : XC := (.sO [.mv p4 (ci 0) tI] (.sO [.mv p9 q0 .v, .P p10 (.lenl q9) tI, .mv p5 q10 tI] (.sj v125_0 (.sO [.mv p11 q1 .v, .P p12 (.lenl q11) tI, .mv p13 q5 tI, .bn p14 .gtr q12 q13 .b] (.cond q14 (.s (.oX [.mv p15 q1 .v, .P p16 (.lenl q15) tI, .mv p5 q16 tI])) (.s .skip))) c125_0)))
def x125 : XFn := ⟨[.v, .v], false, [(.tmp p4)], c125_e⟩
def e125_1 (k) (h) := kN k [] h
def S125_1 (D : CallD) (m : Nat) (h : HP) : Res2 :=
 some (.ret (vI (Int.ofNat 0)) h, .no)
def e125_2 (k) (t0 : AV) (t1 : AV) (t6 : Int) (h) := kN k [(p0, t0), (p1, t1), (p6, (vI t6))] h
def S125_2b (D : CallD) (m : Nat) (g2 : AV → AV → Int → HP → Res2) (t0 : AV) (t1 : AV) (t6 : Int) (h : HP) : Res2 :=
 let t20 : Bool := leQ (Int.ofNat 0) t6
 br t20 (
 cal D 149 [t0, (vI t6)] h fun t25 h4 =>
 asI .i64 t25 fun t25a =>
 cal D 149 [t1, (vI t6)] h4 fun t28 h5 =>
 asI .i64 t28 fun t28a =>
 let t31 : Bool := ltQ t25a t28a
 br t31 (
 some (.ret (vI (Int.negSucc 0)) h5, .no)) (
 let t34 : Bool := ltQ t28a t25a
 br t34 (
 some (.ret (vI (Int.ofNat 1)) h5, .no)) (
 let t22 : Int := wrQ .i64 (t6 - (Int.ofNat 1))
 g2 t0 t1 t22 h5))) (
 S125_1 D m h)
def S125_2 (D : CallD) (m : Nat) : AV → AV → Int → HP → Res2 := nrec (fun _ _ _ _ => none) (fun _ g => S125_2b D m g) m
def e125_0 (k) (t0 : AV) (t1 : AV) (t5 : Int) (h) := kN k [(p0, t0), (p1, t1), (p5, (vI t5))] h
def S125_0 (D : CallD) (m : Nat) (t0 : AV) (t1 : AV) (t5 : Int) (h : HP) : Res2 :=
 let t18 : Int := wrQ .i64 (t5 - (Int.ofNat 1))
 S125_2 D m t0 t1 t18 h
def e125_3 (k) (t0 : AV) (t1 : AV) (h) := kN k [(p0, t0), (p1, t1)] h
def S125_3 (D : CallD) (m : Nat) (t0 : AV) (t1 : AV) (h : HP) : Res2 :=
 lenC t0 fun vt10 => asI .i64 vt10 fun t10 =>
 lenC t1 fun vt12 => asI .i64 vt12 fun t12 =>
 let t14 : Bool := ltQ t10 t12
 br t14 (
 lenC t1 fun vt16 => asI .i64 vt16 fun t16 =>
 S125_0 D m t0 t1 t16 h) (
 S125_0 D m t0 t1 t10 h)
def S125 : SFn := fun D m args h u => nou u <| popV args fun t0 args => popV args fun t1 args => endA args (S125_3 D m t0 t1 h)
theorem T125_1 {D m E} (hE : FX x125 D m E) : S125_1 D m = e125_1 (E c125_1 []) := by unfold S125_1; rw [hE c125_1]; kernel_rfl
theorem T125_2b {D m E} (hE : FX x125 D m E) (G2) : S125_2b D m (e125_2 G2) = e125_2 (E c125_2b [.lp v125_2 G2, .blk 0, .sj v125_1 c125_1]) := by unfold S125_2b; rw [T125_1 hE, hE c125_2b]; kernel_rfl
theorem T125_2 {D m E} (hE : FX x125 D m E) : S125_2 D m = e125_2 (nrec (fun _ => none) (fun _ G2 st => E c125_2b [.lp v125_2 G2, .blk 0, .sj v125_1 c125_1] st) m) :=
  nrec_emb e125_2 (fun _ _ _ _ => none) (fun g => S125_2b D m g) (fun G2 st => E c125_2b [.lp v125_2 G2, .blk 0, .sj v125_1 c125_1] st) rfl (fun g => T125_2b hE g) m
theorem T125_0 {D m E} (hE : FX x125 D m E) : S125_0 D m = e125_0 (E c125_0 []) := by unfold S125_0; rw [T125_2 hE, hE c125_0]; kernel_rfl
theorem T125_3 {D m E} (hE : FX x125 D m E) : S125_3 D m = e125_3 (E c125_e []) := by unfold S125_3; rw [T125_0 hE, hE c125_e]; kernel_rfl
theorem X125 (D m args h u) : S125 D m args h u = evFX x125 D m args h u := by unfold S125; rw [T125_3 (fix_ok D m (x125.endOf D))]; show _ = evFXE x125 (evE2 D m (x125.endOf D)) args h u; generalize evE2 D m (x125.endOf D) = E; kernel_rfl
/- 126 -/
def c126_e : XC := (.sO [.mv p4 (.c (.int .u64 (.ofNat 0))) (.i .u64), .mv p5 (.c (.int .u64 (.ofNat 0))) (.i .u64)] (.seq (.cond (cb false) (.seq (.oX [.mv p11 q0 (.i .u64), .P p12 (.conv (.ii .u32) q11) tW, .mv p13 q1 (.i .u64), .P p14 (.conv (.ii .u32) q13) tW, .cl p15 150 [q12, q14] .v, .mv p10 q15 .v, .P p16 (.ext q10 0) tW, .P p17 (.ext q10 1) tW, .mv p6 q16 tW, .mv p7 q17 tW]) (.seq (.oX [.mv p18 q6 tW, .P p19 (.conv (.ii .u64) q18) (.i .u64), .mv p20 q7 tW, .P p21 (.conv (.ii .u64) q20) (.i .u64), .mv p4 q19 (.i .u64), .mv p5 q21 (.i .u64)]) .ret)) .skip) (.sO [.mv p23 q0 (.i .u64), .mv p24 q1 (.i .u64), .cl p25 151 [q23, q24] .v, .mv p22 q25 .v, .P p26 (.ext q22 0) (.i .u64), .P p27 (.ext q22 1) (.i .u64), .mv p8 q26 (.i .u64), .mv p9 q27 (.i .u64)] (.sO [.mv p28 q8 (.i .u64), .mv p29 q9 (.i .u64), .mv p4 q28 (.i .u64), .mv p5 q29 (.i .u64)] (.s .ret)))))
def x126 : XFn := ⟨[(.i .u64), (.i .u64)], false, [(.tmp p4), (.tmp p5)], c126_e⟩
def e126_0 (k) (t0 : Int) (t1 : Int) (h) := kN k [(p0, (AV.int .u64 t0)), (p1, (AV.int .u64 t1))] h
def S126_0 (D : CallD) (m : Nat) (t0 : Int) (t1 : Int) (h : HP) : Res2 :=
 cal D 151 [(AV.int .u64 t0), (AV.int .u64 t1)] h fun t25 h1 =>
 extC t25 0 fun vt26 => asI .u64 vt26 fun t26 =>
 extC t25 1 fun vt27 => asI .u64 vt27 fun t27 =>
 some (.ret (.tup [(AV.int .u64 t26), (AV.int .u64 t27)]) h1, .no)
def S126 : SFn := fun D m args h u => nou u <| popI .u64 args fun t0 args => popI .u64 args fun t1 args => endA args (S126_0 D m t0 t1 h)
theorem T126_0 {D m E} (hE : FX x126 D m E) : S126_0 D m = e126_0 (E c126_e []) := by unfold S126_0; rw [hE c126_e]; kernel_rfl
theorem X126 (D m args h u) : S126 D m args h u = evFX x126 D m args h u := by unfold S126; rw [T126_0 (fix_ok D m (x126.endOf D))]; show _ = evFXE x126 (evE2 D m (x126.endOf D)) args h u; generalize evE2 D m (x126.endOf D) = E; kernel_rfl
/- 129 -/
def c129_e : XC := (.sO [.al p3 (.box q1), .al p4 (.new [(kI 0), (.int .u32 (.ofNat 0)), (.int .u64 (.ofNat 0)), (.str []), (kI 0)]), .mv p5 (ci 0) tI] (.seq (.block 0 (.seq (.oX [.mv p7 q0 .s, .bn p8 .eql q7 (.c (.str [45])) .b, .mv p9 q8 .b, .ge p9 (XL.of [.G p9 true p10 (.faddr 0 q3) .v, .o ⟨(some p11), (.l (.cell q10)), (some (p9, true)), []⟩ tI, .G p9 true p12 (.bin .eql q11 (ci 2)) .b, .P p13 (.pick q9 q12 (cb false)) .b]) p13 .b, .mv p6 q13 .b]) (.cond q6 (.seq (.oX [.fa p14 2 q3, .ld p15 q14 (.i .u64), .cl p16 154 [q15] (.i .u64), .P p17 (.build [(kI 0), (.int .u32 (.ofNat 0)), (.int .u64 (.ofNat 0)), (.str []), (kI 0)] [⟨0, 1, (ci 2)⟩, ⟨2, 1, q16⟩]) .v, .ss 5 q4 q17, .mv p5 (ci 0) tI]) .ret) (.seq (.oX [.mv p19 q0 .s, .bn p20 .eql q19 (.c (.str [45])) .b, .mv p21 q20 .b, .ge p21 (XL.of [.G p21 true p22 (.faddr 0 q3) .v, .o ⟨(some p23), (.l (.cell q22)), (some (p21, true)), []⟩ tI, .G p21 true p24 (.bin .eql q23 (ci 1)) .b, .P p25 (.pick q21 q24 (cb false)) .b]) p25 .b, .mv p18 q25 .b]) (.cond q18 (.seq (.oX [.fa p26 1 q3, .ld p27 q26 tW, .cl p28 155 [(.c (.str [45])), (.c (.int .u32 (.ofNat 0))), q27] .v, .P p29 (.ext q28 0) .v, .P p30 (.ext q28 1) tI, .ss 5 q4 q29, .mv p5 q30 tI]) .ret) (.seq (.oX [.mv p32 q0 .s, .bn p33 .eql q32 (.c (.str [33])) .b, .mv p34 q33 .b, .ge p34 (XL.of [.G p34 true p35 (.faddr 0 q3) .v, .o ⟨(some p36), (.l (.cell q35)), (some (p34, true)), []⟩ tI, .G p34 true p37 (.bin .eql q36 (ci 1)) .b, .P p38 (.pick q34 q37 (cb false)) .b]) p38 .b, .mv p31 q38 .b]) (.cond q31 (.seq (.oX [.fa p39 1 q3, .ld p40 q39 tW, .bn p41 .eql q40 (.c (.int .u32 (.ofNat 0))) .b, .cl p42 156 [q41] .v, .ss 5 q4 q42, .mv p5 (ci 0) tI]) .ret) (.seq (.oX [.mv p44 q0 .s, .bn p45 .eql q44 (.c (.str [126])) .b, .mv p46 q45 .b, .ge p46 (XL.of [.G p46 true p47 (.faddr 0 q3) .v, .o ⟨(some p48), (.l (.cell q47)), (some (p46, true)), []⟩ tI, .G p46 true p49 (.bin .eql q48 (ci 1)) .b, .P p50 (.pick q46 q49 (cb false)) .b]) p50 .b, .mv p43 q50 .b]) (.cond q43 (.seq (.oX [.fa p51 1 q3, .ld p52 q51 tW, .cl p53 155 [(.c (.str [94])), q52, (.c (.int .u32 (.ofNat 4294967295)))] .v, .P p54 (.ext q53 0) .v, .P p55 (.ext q53 1) tI, .ss 5 q4 q54, .mv p5 q55 tI]) .ret) .skip))))))))) (.sO [.P p56 (.build [(kI 0), (.int .u32 (.ofNat 0)), (.int .u64 (.ofNat 0)), (.str []), (kI 0)] []) .v, .ss 5 q4 q56, .mv p5 (ci 15) tI] (.s .ret))))
def x129 : XFn := ⟨[.s, .v], false, [(.cells 5 p4), (.tmp p5)], c129_e⟩
def e129_0 (k) (t0 : LN) (t1 : AV) (h) := kN k [(p0, (vS t0)), (p1, t1)] h
def S129_0 (D : CallD) (m : Nat) (t0 : LN) (t1 : AV) (h : HP) : Res2 :=
 let t3 : AV := AV.ptr (HP.nxQ h) 0
 let h1 : HP := HP.newQ h (.cells true (AV.cells t1))
 let t4 : AV := AV.ptr (HP.nxQ h1) 0
 let h2 : HP := HP.newQ h1 (.cells true [(kI 0), (.int .u32 (.ofNat 0)), (.int .u64 (.ofNat 0)), (.str []), (kI 0)])
 let t8 : Bool := eqL t0 ([45] : LN)
 obB (brV t8 (
 let t10 : AV := (AV.ptr (HP.nxQ h) (Nat.add 0 0))
 ldIV t10 h2 fun t11 =>
 let t12 : Bool := eqQ t11 (Int.ofNat 2)
 some (vB t12)) (
 some (vB false))) fun t13 =>
 br t13 (
 let t14 : AV := (AV.ptr (HP.nxQ h) (Nat.add 0 2))
 cellC t14 h2 fun vt15 => asI .u64 vt15 fun t15 =>
 cal D 154 [(AV.int .u64 t15)] h2 fun t16 h3 =>
 asI .u64 t16 fun t16a =>
 let t17 : AV := (AV.agg [(vI (Int.ofNat 2)), (vW (Int.ofNat 0)), (AV.int .u64 t16a), (vS ([] : LN)), (vI (Int.ofNat 0))])
 stsC 5 t4 t17 h3 fun h4 =>
 XFn.endOf x129 D (.ret ⟨(mkT [(p4, t4), (p5, (vI (Int.ofNat 0)))]), h4, [], .no⟩)) (
 let t20 : Bool := eqL t0 ([45] : LN)
 obB (brV t20 (
 let t22 : AV := (AV.ptr (HP.nxQ h) (Nat.add 0 0))
 ldIV t22 h2 fun t23 =>
 let t24 : Bool := eqQ t23 (Int.ofNat 1)
 some (vB t24)) (
 some (vB false))) fun t25 =>
 br t25 (
 let t26 : AV := (AV.ptr (HP.nxQ h) (Nat.add 0 1))
 ldW t26 h2 fun t27 =>
 cal D 155 [(vS ([45] : LN)), (vW (Int.ofNat 0)), (vW t27)] h2 fun t28 h5 =>
 extC t28 0 fun t29 =>
 extC t28 1 fun vt30 => asI .i64 vt30 fun t30 =>
 stsC 5 t4 t29 h5 fun h6 =>
 XFn.endOf x129 D (.ret ⟨(mkT [(p4, t4), (p5, (vI t30))]), h6, [], .no⟩)) (
 let t33 : Bool := eqL t0 ([33] : LN)
 obB (brV t33 (
 let t35 : AV := (AV.ptr (HP.nxQ h) (Nat.add 0 0))
 ldIV t35 h2 fun t36 =>
 let t37 : Bool := eqQ t36 (Int.ofNat 1)
 some (vB t37)) (
 some (vB false))) fun t38 =>
 br t38 (
 let t39 : AV := (AV.ptr (HP.nxQ h) (Nat.add 0 1))
 ldW t39 h2 fun t40 =>
 let t41 : Bool := eqQ t40 (Int.ofNat 0)
 cal D 156 [(vB t41)] h2 fun t42 h7 =>
 stsC 5 t4 t42 h7 fun h8 =>
 XFn.endOf x129 D (.ret ⟨(mkT [(p4, t4), (p5, (vI (Int.ofNat 0)))]), h8, [], .no⟩)) (
 let t45 : Bool := eqL t0 ([126] : LN)
 obB (brV t45 (
 let t47 : AV := (AV.ptr (HP.nxQ h) (Nat.add 0 0))
 ldIV t47 h2 fun t48 =>
 let t49 : Bool := eqQ t48 (Int.ofNat 1)
 some (vB t49)) (
 some (vB false))) fun t50 =>
 br t50 (
 let t51 : AV := (AV.ptr (HP.nxQ h) (Nat.add 0 1))
 ldW t51 h2 fun t52 =>
 cal D 155 [(vS ([94] : LN)), (vW t52), (vW (Int.ofNat 4294967295))] h2 fun t53 h9 =>
 extC t53 0 fun t54 =>
 extC t53 1 fun vt55 => asI .i64 vt55 fun t55 =>
 stsC 5 t4 t54 h9 fun h10 =>
 XFn.endOf x129 D (.ret ⟨(mkT [(p4, t4), (p5, (vI t55))]), h10, [], .no⟩)) (
 let t56 : AV := (AV.agg [(vI (Int.ofNat 0)), (vW (Int.ofNat 0)), (AV.int .u64 (Int.ofNat 0)), (vS ([] : LN)), (vI (Int.ofNat 0))])
 stsC 5 t4 t56 h2 fun h11 =>
 XFn.endOf x129 D (.ret ⟨(mkT [(p4, t4), (p5, (vI (Int.ofNat 15)))]), h11, [], .no⟩)))))
def S129 : SFn := fun D m args h u => nou u <| popS args fun t0 args => popV args fun t1 args => endA args (S129_0 D m t0 t1 h)
theorem T129_0 {D m E} (hE : FX x129 D m E) : S129_0 D m = e129_0 (E c129_e []) := by unfold S129_0; rw [hE c129_e]; kernel_rfl
theorem X129 (D m args h u) : S129 D m args h u = evFX x129 D m args h u := by unfold S129; rw [T129_0 (fix_ok D m (x129.endOf D))]; show _ = evFXE x129 (evE2 D m (x129.endOf D)) args h u; generalize evE2 D m (x129.endOf D) = E; kernel_rfl
/- 132 -/
def c132_e : XC := (.sO [.al p4 (.box q1), .al p5 (.box q2), .al p6 (.new [(kI 0), (.int .u32 (.ofNat 0)), (.int .u64 (.ofNat 0)), (.str []), (kI 0)]), .mv p7 (ci 0) tI] (.seq (.block 0 (.seq (.oX [.fa p9 0 q4, .ld p10 q9 tI, .bn p11 .eql q10 (ci 1) .b, .mv p12 q11 .b, .ge p12 (XL.of [.G p12 true p13 (.faddr 0 q5) .v, .o ⟨(some p14), (.l (.cell q13)), (some (p12, true)), []⟩ tI, .G p12 true p15 (.bin .eql q14 (ci 1)) .b, .P p16 (.pick q12 q15 (cb false)) .b]) p16 .b, .mv p8 q16 .b]) (.cond q8 (.seq (.oX [.mv p17 q0 .s, .fa p18 1 q4, .ld p19 q18 tW, .fa p20 1 q5, .ld p21 q20 tW, .cl p22 155 [q17, q19, q21] .v, .P p23 (.ext q22 0) .v, .P p24 (.ext q22 1) tI, .ss 5 q6 q23, .mv p7 q24 tI]) .ret) (.seq (.oX [.fa p26 0 q4, .ld p27 q26 tI, .bn p28 .eql q27 (ci 2) .b, .mv p29 q28 .b, .ge p29 (XL.of [.G p29 true p30 (.faddr 0 q5) .v, .o ⟨(some p31), (.l (.cell q30)), (some (p29, true)), []⟩ tI, .G p29 true p32 (.bin .eql q31 (ci 2)) .b, .P p33 (.pick q29 q32 (cb false)) .b]) p33 .b, .mv p25 q33 .b]) (.cond q25 (.seq (.oX [.mv p34 q0 .s, .fa p35 2 q4, .ld p36 q35 (.i .u64), .fa p37 2 q5, .ld p38 q37 (.i .u64), .cl p39 158 [q34, q36, q38] .v, .P p40 (.ext q39 0) .v, .P p41 (.ext q39 1) tI, .ss 5 q6 q40, .mv p7 q41 tI]) .ret) .skip))))) (.sO [.P p42 (.build [(kI 0), (.int .u32 (.ofNat 0)), (.int .u64 (.ofNat 0)), (.str []), (kI 0)] []) .v, .ss 5 q6 q42, .mv p7 (ci 15) tI] (.s .ret))))
def x132 : XFn := ⟨[.s, .v, .v], false, [(.cells 5 p6), (.tmp p7)], c132_e⟩
def e132_0 (k) (t0 : LN) (t1 : AV) (t2 : AV) (h) := kN k [(p0, (vS t0)), (p1, t1), (p2, t2)] h
def S132_0 (D : CallD) (m : Nat) (t0 : LN) (t1 : AV) (t2 : AV) (h : HP) : Res2 :=
 let t4 : AV := AV.ptr (HP.nxQ h) 0
 let h1 : HP := HP.newQ h (.cells true (AV.cells t1))
 let t5 : AV := AV.ptr (HP.nxQ h1) 0
 let h2 : HP := HP.newQ h1 (.cells true (AV.cells t2))
 let t6 : AV := AV.ptr (HP.nxQ h2) 0
 let h3 : HP := HP.newQ h2 (.cells true [(kI 0), (.int .u32 (.ofNat 0)), (.int .u64 (.ofNat 0)), (.str []), (kI 0)])
 let t9 : AV := (AV.ptr (HP.nxQ h) (Nat.add 0 0))
 ldI t9 h3 fun t10 =>
 let t11 : Bool := eqQ t10 (Int.ofNat 1)
 obB (brV t11 (
 let t13 : AV := (AV.ptr (HP.nxQ h1) (Nat.add 0 0))
 ldIV t13 h3 fun t14 =>
 let t15 : Bool := eqQ t14 (Int.ofNat 1)
 some (vB t15)) (
 some (vB false))) fun t16 =>
 br t16 (
 let t18 : AV := (AV.ptr (HP.nxQ h) (Nat.add 0 1))
 ldW t18 h3 fun t19 =>
 let t20 : AV := (AV.ptr (HP.nxQ h1) (Nat.add 0 1))
 ldW t20 h3 fun t21 =>
 cal D 155 [(vS t0), (vW t19), (vW t21)] h3 fun t22 h4 =>
 extC t22 0 fun t23 =>
 extC t22 1 fun vt24 => asI .i64 vt24 fun t24 =>
 stsC 5 t6 t23 h4 fun h5 =>
 XFn.endOf x132 D (.ret ⟨(mkT [(p6, t6), (p7, (vI t24))]), h5, [], .no⟩)) (
 let t26 : AV := (AV.ptr (HP.nxQ h) (Nat.add 0 0))
 ldI t26 h3 fun t27 =>
 let t28 : Bool := eqQ t27 (Int.ofNat 2)
 obB (brV t28 (
 let t30 : AV := (AV.ptr (HP.nxQ h1) (Nat.add 0 0))
 ldIV t30 h3 fun t31 =>
 let t32 : Bool := eqQ t31 (Int.ofNat 2)
 some (vB t32)) (
 some (vB false))) fun t33 =>
 br t33 (
 let t35 : AV := (AV.ptr (HP.nxQ h) (Nat.add 0 2))
 cellC t35 h3 fun vt36 => asI .u64 vt36 fun t36 =>
 let t37 : AV := (AV.ptr (HP.nxQ h1) (Nat.add 0 2))
 cellC t37 h3 fun vt38 => asI .u64 vt38 fun t38 =>
 cal D 158 [(vS t0), (AV.int .u64 t36), (AV.int .u64 t38)] h3 fun t39 h6 =>
 extC t39 0 fun t40 =>
 extC t39 1 fun vt41 => asI .i64 vt41 fun t41 =>
 stsC 5 t6 t40 h6 fun h7 =>
 XFn.endOf x132 D (.ret ⟨(mkT [(p6, t6), (p7, (vI t41))]), h7, [], .no⟩)) (
 let t42 : AV := (AV.agg [(vI (Int.ofNat 0)), (vW (Int.ofNat 0)), (AV.int .u64 (Int.ofNat 0)), (vS ([] : LN)), (vI (Int.ofNat 0))])
 stsC 5 t6 t42 h3 fun h8 =>
 XFn.endOf x132 D (.ret ⟨(mkT [(p6, t6), (p7, (vI (Int.ofNat 15)))]), h8, [], .no⟩)))
def S132 : SFn := fun D m args h u => nou u <| popS args fun t0 args => popV args fun t1 args => popV args fun t2 args => endA args (S132_0 D m t0 t1 t2 h)
theorem T132_0 {D m E} (hE : FX x132 D m E) : S132_0 D m = e132_0 (E c132_e []) := by unfold S132_0; rw [hE c132_e]; kernel_rfl
theorem X132 (D m args h u) : S132 D m args h u = evFX x132 D m args h u := by unfold S132; rw [T132_0 (fix_ok D m (x132.endOf D))]; show _ = evFXE x132 (evE2 D m (x132.endOf D)) args h u; generalize evE2 D m (x132.endOf D) = E; kernel_rfl
/- 134 -/
def v134_0 : List Pos := [p0]
def c134_0 : XC := (.s (.oX [.mv p12 q0 .v, .P p13 (.nilck q12) .v, .fa p14 5 q13, .ld p15 q14 tI, .bn p16 .add q15 (ci 1) tI, .P p17 (.nilck q12) .v, .fa p18 5 q17, .st q18 q16]))
def c134_e : XC := (.sj v134_0 (.seq (.ops true (XL.of [.mv p2 q0 .v, .P p3 (.nilck q2) .v, .fa p4 5 q3, .ld p5 q4 tI, .mv p6 q0 .v, .P p7 (.nilck q6) .v, .fa p8 4 q7, .ld p9 q8 tI, .bn p10 .geq q5 q9 .b])) (.cond q10 (.s (.oX [.P p11 (.mkif 119 (ci 0)) .v, .o ⟨none, (.panic q11), none, []⟩ .v])) (.s .skip))) c134_0)
def x134 : XFn := ⟨[.v], false, [], c134_e⟩
def e134_0 (k) (t0 : AV) (h) := kN k [(p0, t0)] h
def S134_0 (D : CallD) (m : Nat) (t0 : AV) (h : HP) : Res2 :=
 nilckC t0 fun t13 =>
 faC 5 t13 fun t14 =>
 ldI t14 h fun t15 =>
 let t16 : Int := wrQ .i64 (addQ t15 (Int.ofNat 1))
 nilckC t0 fun t17 =>
 faC 5 t17 fun t18 =>
 stoC t18 (vI t16) h fun h2 =>
 some (.ret (.tup []) h2, .no)
def e134_1 (k) (t0 : AV) (h) := kN k [(p0, t0)] h
def S134_1 (D : CallD) (m : Nat) (t0 : AV) (h : HP) : Res2 :=
 nilckC t0 fun t3 =>
 faC 5 t3 fun t4 =>
 ldI t4 h fun t5 =>
 nilckC t0 fun t7 =>
 faC 4 t7 fun t8 =>
 ldI t8 h fun t9 =>
 let t10 : Bool := leQ t9 t5
 br t10 (
 let t11 : AV := (AV.iface 119 (vI (Int.ofNat 0)))
 some (.pan [(.iface 119 (vI (Int.ofNat 0)), false)] h, .no)) (
 S134_0 D m t0 h)
def S134 : SFn := fun D m args h u => nou u <| popV args fun t0 args => endA args (S134_1 D m t0 h)
theorem T134_0 {D m E} (hE : FX x134 D m E) : S134_0 D m = e134_0 (E c134_0 []) := by unfold S134_0; rw [hE c134_0]; kernel_rfl
theorem T134_1 {D m E} (hE : FX x134 D m E) : S134_1 D m = e134_1 (E c134_e []) := by unfold S134_1; rw [T134_0 hE, hE c134_e]; kernel_rfl
theorem X134 (D m args h u) : S134 D m args h u = evFX x134 D m args h u := by unfold S134; rw [T134_1 (fix_ok D m (x134.endOf D))]; show _ = evFXE x134 (evE2 D m (x134.endOf D)) args h u; generalize evE2 D m (x134.endOf D) = E; kernel_rfl
/- 135 -/
def c135_e : XC := (.sO [.al p3 (.box q1), .al p4 (.new [(kI 0), (.int .u32 (.ofNat 0)), (.int .u64 (.ofNat 0)), (.str []), (kI 0), .nilp, (kI 0)])] (.seq (.block 0 (.seq (.oX [.fa p11 0 q3, .ld p12 q11 tI, .bn p13 .eql q12 (ci 3) .b, .mv p14 q13 .b, .ge p14 (XL.of [.G p14 true p15 (.faddr 3 q3) .v, .o ⟨(some p16), (.l (.cell q15)), (some (p14, true)), []⟩ tW, .G p14 true p17 (.bin .eql q16 (.c (.int .u32 (.ofNat 1)))) .b, .P p18 (.pick q14 q17 (cb false)) .b]) p18 .b, .mv p10 q18 .b]) (.cond q10 (.seq (.oX [.mv p19 q0 .v, .P p20 (.nilck q19) .v, .fa p21 0 q20, .ld p22 q21 .v, .cl p23 134 [q22] .v]) (.seq (.ops true (XL.of [.fa p24 6 q3, .ld p25 q24 tI, .P p26 (.build [(kI 0), (.int .u32 (.ofNat 0)), (.int .u64 (.ofNat 0)), (.str []), (kI 0)] [⟨0, 1, q25⟩]) .v, .mv p27 q0 .v, .fa p28 2 q3, .ld p29 q28 .s, .o ⟨(some p30), (.call (.fn 161) [q27, q29]), none, [⟨none, .cell q24, p25⟩]⟩ .v, .P p31 (.build [(kI 0), (.int .u32 (.ofNat 0)), (.int .u64 (.ofNat 0)), (.str []), (kI 0), .nilp, (kI 0)] [⟨0, 5, q26⟩, ⟨5, 1, q30⟩]) .v, .ss 7 q4 q31])) .ret)) (.seq (.oX [.fa p33 0 q3, .ld p34 q33 tI, .bn p35 .eql q34 (ci 3) .b, .mv p36 q35 .b, .ge p36 (XL.of [.G p36 false p37 (.faddr 0 q3) .v, .o ⟨(some p38), (.l (.cell q37)), (some (p36, false)), []⟩ tI, .G p36 false p39 (.bin .eql q38 (ci 8)) .b, .P p40 (.pick q36 (cb true) q39) .b]) p40 .b, .mv p41 q40 .b, .ge p41 (XL.of [.G p41 false p42 (.faddr 0 q3) .v, .o ⟨(some p43), (.l (.cell q42)), (some (p41, false)), []⟩ tI, .G p41 false p44 (.bin .eql q43 (ci 4)) .b, .G p41 false p45 (.mov q44) .b, .ge p45 (XL.of [.G p45 true p46 (.faddr 1 q3) .v, .o ⟨(some p47), (.l (.cell q46)), (some (p45, true)), []⟩ .s, .G p45 true p48 (.bin .eql q47 (.c (.str [42]))) .b, .G p41 false p49 (.pick q45 q48 (cb false)) .b]) p49 .b, .P p50 (.pick q41 (cb true) q49) .b]) p50 .b, .mv p32 q50 .b]) (.cond q32 (.seq (.oX [.mv p51 q0 .v, .L p52 (.cells 8 q3) .v, .cl p53 163 [q51, q52] .v, .cl p54 162 [q53] .v, .P p55 (.nilck q54) .v, .L p56 (.cells 7 q55) .v, .ss 7 q4 q56]) .ret) .skip))))) (.sO [.mv p57 q0 .v, .P p58 (.nilck q57) .v, .fa p59 0 q58, .ld p60 q59 .v, .cl p61 134 [q60] .v] (.seq (.seq (.oX [.fa p62 0 q3, .ld p63 q62 tI]) (.block 1 (.seq (.oX [.bn p65 .eql q63 (ci 1) .b, .mv p64 q65 .b]) (.cond q64 (.seq (.oX [.fa p66 6 q3, .ld p67 q66 tI, .fa p68 3 q3, .ld p69 q68 tW, .P p70 (.build [(kI 0), (.int .u32 (.ofNat 0)), (.int .u64 (.ofNat 0)), (.str []), (kI 0)] [⟨0, 1, q67⟩, ⟨1, 1, q69⟩]) .v, .P p71 (.build [(kI 0), (.int .u32 (.ofNat 0)), (.int .u64 (.ofNat 0)), (.str []), (kI 0), .nilp, (kI 0)] [⟨0, 5, q70⟩]) .v, .ss 7 q4 q71]) .ret) (.seq (.oX [.bn p73 .eql q63 (ci 2) .b, .mv p72 q73 .b]) (.cond q72 (.seq (.oX [.fa p74 4 q3, .ld p75 q74 (.i .u64), .P p76 (.build [(kI 0), (.int .u32 (.ofNat 0)), (.int .u64 (.ofNat 0)), (.str []), (kI 0)] [⟨0, 1, (ci 2)⟩, ⟨2, 1, q75⟩]) .v, .P p77 (.build [(kI 0), (.int .u32 (.ofNat 0)), (.int .u64 (.ofNat 0)), (.str []), (kI 0), .nilp, (kI 0)] [⟨0, 5, q76⟩]) .v, .ss 7 q4 q77]) .ret) (.seq (.oX [.bn p79 .eql q63 (ci 4) .b, .mv p78 q79 .b]) (.cond q78 (.seq (.seq (.oX [.fa p80 1 q3, .ld p81 q80 .s, .bn p82 .eql q81 (.c (.str [38])) .b]) (.cond q82 (.seq (.oX [.mv p83 q0 .v, .fa p84 5 q3, .ld p85 q84 .v, .P p86 (.iaddr (.sl 8) q85 (ci 0)) .v, .L p87 (.cells 8 q86) .v, .cl p88 163 [q83, q87] .v, .al p5 (.new [(kI 0), (.int .u32 (.ofNat 0)), (.int .u64 (.ofNat 0)), (.str []), (kI 0), .nilp, (kI 0)]), .ss 7 q5 q88]) (.seq (.oX [.fa p89 6 q3, .ld p90 q89 tI, .P p91 (.build [(kI 0), (.int .u32 (.ofNat 0)), (.int .u64 (.ofNat 0)), (.str []), (kI 0)] [⟨0, 1, q90⟩]) .v, .fa p92 0 q5, .ss 5 q92 q91]) (.seq (.oX [.L p93 (.cells 7 q5) .v, .ss 7 q4 q93]) .ret))) .skip)) (.seq (.ops true (XL.of [.fa p95 1 q3, .ld p96 q95 .s, .mv p97 q0 .v, .fa p98 5 q3, .ld p99 q98 .v, .P p100 (.iaddr (.sl 8) q99 (ci 0)) .v, .L p101 (.cells 8 q100) .v, .al p6 (.new [(kI 0), (.int .u32 (.ofNat 0)), (.int .u64 (.ofNat 0)), (.str []), (kI 0)]), .o ⟨(some p102), (.call (.fn 135) [q97, q101]), none, [⟨none, .cell q95, p96⟩]⟩ .v, .P p103 (.field 0 5 true q102) .v, .cl p104 129 [q96, q103] .v, .mv p94 q104 .v, .P p105 (.ext q94 0) .v, .P p106 (.ext q94 1) tI, .ss 5 q6 q105, .mv p7 q106 tI])) (.seq (.oX [.L p107 (.cells 5 q6) .v, .P p108 (.build [(kI 0), (.int .u32 (.ofNat 0)), (.int .u64 (.ofNat 0)), (.str []), (kI 0), .nilp, (kI 0)] [⟨0, 5, q107⟩]) .v, .ss 7 q4 q108]) .ret))) (.seq (.oX [.bn p110 .eql q63 (ci 5) .b, .mv p109 q110 .b]) (.cond q109 (.seq (.oX [.mv p111 q0 .v, .L p112 (.cells 8 q3) .v, .cl p113 164 [q111, q112] .v, .ss 7 q4 q113]) .ret) (.seq (.oX [.bn p115 .eql q63 (ci 6) .b, .mv p114 q115 .b]) (.cond q114 (.seq (.oX [.mv p116 q0 .v, .fa p117 5 q3, .ld p118 q117 .v, .P p119 (.iaddr (.sl 8) q118 (ci 0)) .v, .L p120 (.cells 8 q119) .v, .cl p121 163 [q116, q120] .v, .al p8 (.new [(kI 0), (.int .u32 (.ofNat 0)), (.int .u64 (.ofNat 0)), (.str []), (kI 0), .nilp, (kI 0)]), .ss 7 q8 q121]) (.seq (.oX [.mv p122 q0 .v, .fa p123 5 q3, .ld p124 q123 .v, .P p125 (.iaddr (.sl 8) q124 (ci 1)) .v, .L p126 (.cells 8 q125) .v, .cl p127 135 [q122, q126] .v, .al p9 (.new [(kI 0), (.int .u32 (.ofNat 0)), (.int .u64 (.ofNat 0)), (.str []), (kI 0), .nilp, (kI 0)]), .ss 7 q9 q127]) (.seq (.ops true (XL.of [.L p128 (.cells 7 q8) .v, .L p130 (.cells 7 q9) .v, .o ⟨(some p129), (.call (.fn 162) [q128]), none, [⟨none, .cells 7 q9, p130⟩]⟩ .v, .P p131 (.nilck q129) .v, .ss 7 q131 q130])) (.seq (.oX [.L p132 (.cells 7 q9) .v, .ss 7 q4 q132]) .ret)))) (.seq (.oX [.bn p134 .eql q63 (ci 9) .b, .mv p133 q134 .b]) (.cond q133 (.seq (.ops true (XL.of [.mv p135 q0 .v, .fa p136 5 q3, .ld p137 q136 .v, .P p138 (.iaddr (.sl 8) q137 (ci 0)) .v, .L p139 (.cells 8 q138) .v, .fa p142 3 q3, .ld p143 q142 tW, .P p144 (.conv (.ii .i64) q143) tI, .o ⟨(some p140), (.call (.fn 135) [q135, q139]), none, [⟨none, .cell q142, p143⟩]⟩ .v, .P p141 (.field 0 5 true q140) .v, .cl p145 165 [q141, q144] .v, .P p146 (.build [(kI 0), (.int .u32 (.ofNat 0)), (.int .u64 (.ofNat 0)), (.str []), (kI 0), .nilp, (kI 0)] [⟨0, 5, q145⟩]) .v, .ss 7 q4 q146])) .ret) .skip)))))))))))))) (.sO [.mv p147 q0 .v, .L p148 (.cells 8 q3) .v, .cl p149 166 [q147, q148] .v, .ss 7 q4 q149] (.s .ret))))))
def x135 : XFn := ⟨[.v, .v], false, [(.cells 7 p4)], c135_e⟩
def e135_0 (k) (t0 : AV) (t1 : AV) (h) := kN k [(p0, t0), (p1, t1)] h
def S135_0 (D : CallD) (m : Nat) (t0 : AV) (t1 : AV) (h : HP) : Res2 :=
 let t3 : AV := AV.ptr (HP.nxQ h) 0
 let h1 : HP := HP.newQ h (.cells true (AV.cells t1))
 let t4 : AV := AV.ptr (HP.nxQ h1) 0
 let h2 : HP := HP.newQ h1 (.cells true [(kI 0), (.int .u32 (.ofNat 0)), (.int .u64 (.ofNat 0)), (.str []), (kI 0), .nilp, (kI 0)])
 let t11 : AV := (AV.ptr (HP.nxQ h) (Nat.add 0 0))
 ldI t11 h2 fun t12 =>
 let t13 : Bool := eqQ t12 (Int.ofNat 3)
 obB (brV t13 (
 let t15 : AV := (AV.ptr (HP.nxQ h) (Nat.add 0 3))
 ldWV t15 h2 fun t16 =>
 let t17 : Bool := eqQ t16 (Int.ofNat 1)
 some (vB t17)) (
 some (vB false))) fun t18 =>
 br t18 (
 nilckC t0 fun t20 =>
 faC 0 t20 fun t21 =>
 cellC t21 h2 fun t22 =>
 cal D 134 [t22] h2 fun t23 h3 =>
 let t24 : AV := (AV.ptr (HP.nxQ h) (Nat.add 0 6))
 ldI t24 h3 fun t25 =>
 let t26 : AV := (AV.agg [(vI t25), (vW (Int.ofNat 0)), (AV.int .u64 (Int.ofNat 0)), (vS ([] : LN)), (vI (Int.ofNat 0))])
 let t28 : AV := (AV.ptr (HP.nxQ h) (Nat.add 0 2))
 ldS t28 h3 fun t29 =>
 cal D 161 [t0, (vS t29)] h3 fun t30 h4 =>
 br (again [⟨none, .cell q24, p25⟩] (mkT [(p25, (vI t25)), (p24, t24)]) h4) (
 obQ (evP (.build [(kI 0), (.int .u32 (.ofNat 0)), (.int .u64 (.ofNat 0)), (.str []), (kI 0), .nilp, (kI 0)] [⟨0, 5, (.c t26)⟩, ⟨5, 1, (.c t30)⟩]) .leaf) fun t31 =>
 stsC 7 t4 t31 h4 fun h5 =>
 XFn.endOf x135 D (.ret ⟨(mkT [(p4, t4)]), h5, [], .no⟩)) none) (
 let t33 : AV := (AV.ptr (HP.nxQ h) (Nat.add 0 0))
 ldI t33 h2 fun t34 =>
 let t35 : Bool := eqQ t34 (Int.ofNat 3)
 obB (brV t35 (
 some (vB true)) (
 let t37 : AV := (AV.ptr (HP.nxQ h) (Nat.add 0 0))
 ldIV t37 h2 fun t38 =>
 let t39 : Bool := eqQ t38 (Int.ofNat 8)
 some (vB t39))) fun t40 =>
 obB (brV t40 (
 some (vB true)) (
 let t42 : AV := (AV.ptr (HP.nxQ h) (Nat.add 0 0))
 ldIV t42 h2 fun t43 =>
 let t44 : Bool := eqQ t43 (Int.ofNat 4)
 obBV (brV t44 (
 let t46 : AV := (AV.ptr (HP.nxQ h) (Nat.add 0 1))
 ldSV t46 h2 fun t47 =>
 let t48 : Bool := eqL t47 ([42] : LN)
 some (vB t48)) (
 some (vB false))) fun t49 =>
 some (vB t49))) fun t50 =>
 br t50 (
 cellsC 8 t3 h2 fun t52 =>
 cal D 163 [t0, t52] h2 fun t53 h6 =>
 cal D 162 [t53] h6 fun t54 h7 =>
 nilckC t54 fun t55 =>
 cellsC 7 t55 h7 fun t56 =>
 stsC 7 t4 t56 h7 fun h8 =>
 XFn.endOf x135 D (.ret ⟨(mkT [(p4, t4)]), h8, [], .no⟩)) (
 nilckC t0 fun t58 =>
 faC 0 t58 fun t59 =>
 cellC t59 h2 fun t60 =>
 cal D 134 [t60] h2 fun t61 h9 =>
 let t62 : AV := (AV.ptr (HP.nxQ h) (Nat.add 0 0))
 ldI t62 h9 fun t63 =>
 let t65 : Bool := eqQ t63 (Int.ofNat 1)
 br t65 (
 let t66 : AV := (AV.ptr (HP.nxQ h) (Nat.add 0 6))
 ldI t66 h9 fun t67 =>
 let t68 : AV := (AV.ptr (HP.nxQ h) (Nat.add 0 3))
 ldW t68 h9 fun t69 =>
 let t70 : AV := (AV.agg [(vI t67), (vW t69), (AV.int .u64 (Int.ofNat 0)), (vS ([] : LN)), (vI (Int.ofNat 0))])
 let t71 : AV := (AV.agg [(vI t67), (vW t69), (AV.int .u64 (Int.ofNat 0)), (vS ([] : LN)), (vI (Int.ofNat 0)), (.nilp : AV), (vI (Int.ofNat 0))])
 stsC 7 t4 t71 h9 fun h10 =>
 XFn.endOf x135 D (.ret ⟨(mkT [(p4, t4)]), h10, [], .no⟩)) (
 let t73 : Bool := eqQ t63 (Int.ofNat 2)
 br t73 (
 let t74 : AV := (AV.ptr (HP.nxQ h) (Nat.add 0 4))
 cellC t74 h9 fun vt75 => asI .u64 vt75 fun t75 =>
 let t76 : AV := (AV.agg [(vI (Int.ofNat 2)), (vW (Int.ofNat 0)), (AV.int .u64 t75), (vS ([] : LN)), (vI (Int.ofNat 0))])
 let t77 : AV := (AV.agg [(vI (Int.ofNat 2)), (vW (Int.ofNat 0)), (AV.int .u64 t75), (vS ([] : LN)), (vI (Int.ofNat 0)), (.nilp : AV), (vI (Int.ofNat 0))])
 stsC 7 t4 t77 h9 fun h11 =>
 XFn.endOf x135 D (.ret ⟨(mkT [(p4, t4)]), h11, [], .no⟩)) (
 let t79 : Bool := eqQ t63 (Int.ofNat 4)
 br t79 (
 let t80 : AV := (AV.ptr (HP.nxQ h) (Nat.add 0 1))
 ldS t80 h9 fun t81 =>
 let t82 : Bool := eqL t81 ([38] : LN)
 br t82 (
 let t84 : AV := (AV.ptr (HP.nxQ h) (Nat.add 0 5))
 cellC t84 h9 fun t85 =>
 iasC 8 t85 (vI (Int.ofNat 0)) fun t86 =>
 cellsC 8 t86 h9 fun t87 =>
 cal D 163 [t0, t87] h9 fun t88 h12 =>
 let t5 : AV := AV.ptr (HP.nxQ h12) 0
 let h13 : HP := HP.newQ h12 (.cells true [(kI 0), (.int .u32 (.ofNat 0)), (.int .u64 (.ofNat 0)), (.str []), (kI 0), .nilp, (kI 0)])
 stsC 7 t5 t88 h13 fun h14 =>
 let t89 : AV := (AV.ptr (HP.nxQ h) (Nat.add 0 6))
 ldI t89 h14 fun t90 =>
 let t91 : AV := (AV.agg [(vI t90), (vW (Int.ofNat 0)), (AV.int .u64 (Int.ofNat 0)), (vS ([] : LN)), (vI (Int.ofNat 0))])
 let t92 : AV := (AV.ptr (HP.nxQ h12) (Nat.add 0 0))
 stsC 5 t92 t91 h14 fun h15 =>
 cellsC 7 t5 h15 fun t93 =>
 stsC 7 t4 t93 h15 fun h16 =>
 XFn.endOf x135 D (.ret ⟨(mkT [(p4, t4)]), h16, [], .no⟩)) (
 let t95 : AV := (AV.ptr (HP.nxQ h) (Nat.add 0 1))
 ldS t95 h9 fun t96 =>
 let t98 : AV := (AV.ptr (HP.nxQ h) (Nat.add 0 5))
 cellC t98 h9 fun t99 =>
 iasC 8 t99 (vI (Int.ofNat 0)) fun t100 =>
 cellsC 8 t100 h9 fun t101 =>
 let t6 : AV := AV.ptr (HP.nxQ h9) 0
 let h17 : HP := HP.newQ h9 (.cells true [(kI 0), (.int .u32 (.ofNat 0)), (.int .u64 (.ofNat 0)), (.str []), (kI 0)])
 cal D 135 [t0, t101] h17 fun t102 h18 =>
 br (again [⟨none, .cell q95, p96⟩] (mkT [(p96, (vS t96)), (p95, t95)]) h18) (
 fldC 0 5 true t102 fun t103 =>
 cal D 129 [(vS t96), t103] h18 fun t104 h19 =>
 extC t104 0 fun t105 =>
 extC t104 1 fun vt106 => asI .i64 vt106 fun t106 =>
 stsC 5 t6 t105 h19 fun h20 =>
 cellsC 5 t6 h20 fun t107 =>
 obQ (evP (.build [(kI 0), (.int .u32 (.ofNat 0)), (.int .u64 (.ofNat 0)), (.str []), (kI 0), .nilp, (kI 0)] [⟨0, 5, (.c t107)⟩]) .leaf) fun t108 =>
 stsC 7 t4 t108 h20 fun h21 =>
 XFn.endOf x135 D (.ret ⟨(mkT [(p4, t4)]), h21, [], .no⟩)) none)) (
 let t110 : Bool := eqQ t63 (Int.ofNat 5)
 br t110 (
 cellsC 8 t3 h9 fun t112 =>
 cal D 164 [t0, t112] h9 fun t113 h22 =>
 stsC 7 t4 t113 h22 fun h23 =>
 XFn.endOf x135 D (.ret ⟨(mkT [(p4, t4)]), h23, [], .no⟩)) (
 let t115 : Bool := eqQ t63 (Int.ofNat 6)
 br t115 (
 let t117 : AV := (AV.ptr (HP.nxQ h) (Nat.add 0 5))
 cellC t117 h9 fun t118 =>
 iasC 8 t118 (vI (Int.ofNat 0)) fun t119 =>
 cellsC 8 t119 h9 fun t120 =>
 cal D 163 [t0, t120] h9 fun t121 h24 =>
 let t8 : AV := AV.ptr (HP.nxQ h24) 0
 let h25 : HP := HP.newQ h24 (.cells true [(kI 0), (.int .u32 (.ofNat 0)), (.int .u64 (.ofNat 0)), (.str []), (kI 0), .nilp, (kI 0)])
 stsC 7 t8 t121 h25 fun h26 =>
 let t123 : AV := (AV.ptr (HP.nxQ h) (Nat.add 0 5))
 cellC t123 h26 fun t124 =>
 iasC 8 t124 (vI (Int.ofNat 1)) fun t125 =>
 cellsC 8 t125 h26 fun t126 =>
 cal D 135 [t0, t126] h26 fun t127 h27 =>
 let t9 : AV := AV.ptr (HP.nxQ h27) 0
 let h28 : HP := HP.newQ h27 (.cells true [(kI 0), (.int .u32 (.ofNat 0)), (.int .u64 (.ofNat 0)), (.str []), (kI 0), .nilp, (kI 0)])
 stsC 7 t9 t127 h28 fun h29 =>
 cellsC 7 t8 h29 fun t128 =>
 cellsC 7 t9 h29 fun t130 =>
 cal D 162 [t128] h29 fun t129 h30 =>
 br (again [⟨none, .cells 7 q9, p130⟩] (mkT [(p130, t130), (p9, t9)]) h30) (
 nilckC t129 fun t131 =>
 stsC 7 t131 t130 h30 fun h31 =>
 cellsC 7 t9 h31 fun t132 =>
 stsC 7 t4 t132 h31 fun h32 =>
 XFn.endOf x135 D (.ret ⟨(mkT [(p4, t4)]), h32, [], .no⟩)) none) (
 let t134 : Bool := eqQ t63 (Int.ofNat 9)
 br t134 (
 let t136 : AV := (AV.ptr (HP.nxQ h) (Nat.add 0 5))
 cellC t136 h9 fun t137 =>
 iasC 8 t137 (vI (Int.ofNat 0)) fun t138 =>
 cellsC 8 t138 h9 fun t139 =>
 let t142 : AV := (AV.ptr (HP.nxQ h) (Nat.add 0 3))
 ldW t142 h9 fun t143 =>
 let t144 : Int := wrapF .i64 t143
 cal D 135 [t0, t139] h9 fun t140 h33 =>
 br (again [⟨none, .cell q142, p143⟩] (mkT [(p143, (vW t143)), (p142, t142)]) h33) (
 fldC 0 5 true t140 fun t141 =>
 cal D 165 [t141, (vI t144)] h33 fun t145 h34 =>
 obQ (evP (.build [(kI 0), (.int .u32 (.ofNat 0)), (.int .u64 (.ofNat 0)), (.str []), (kI 0), .nilp, (kI 0)] [⟨0, 5, (.c t145)⟩]) .leaf) fun t146 =>
 stsC 7 t4 t146 h34 fun h35 =>
 XFn.endOf x135 D (.ret ⟨(mkT [(p4, t4)]), h35, [], .no⟩)) none) (
 cellsC 8 t3 h9 fun t148 =>
 cal D 166 [t0, t148] h9 fun t149 h36 =>
 stsC 7 t4 t149 h36 fun h37 =>
 XFn.endOf x135 D (.ret ⟨(mkT [(p4, t4)]), h37, [], .no⟩)))))))))
def S135 : SFn := fun D m args h u => nou u <| popV args fun t0 args => popV args fun t1 args => endA args (S135_0 D m t0 t1 h)
theorem T135_0 {D m E} (hE : FX x135 D m E) : S135_0 D m = e135_0 (E c135_e []) := by unfold S135_0; rw [hE c135_e]; kernel_rfl
theorem X135 (D m args h u) : S135 D m args h u = evFX x135 D m args h u := by unfold S135; rw [T135_0 (fix_ok D m (x135.endOf D))]; show _ = evFXE x135 (evE2 D m (x135.endOf D)) args h u; generalize evE2 D m (x135.endOf D) = E; kernel_rfl
/- 136 -/
def v136_0 : List Pos := [p1]
def c136_0 : XC := (.sO [.mv p17 q1 tI, .mv p4 q17 tI] (.s .ret))
def v136_2 : List Pos := [p0, p1]
def c136_2 : XC := (.block 1 (.s (.oX [.mv p15 q1 tI, .bn p16 .add q15 (ci 1) tI, .mv p1 q16 tI])))
def c136_4 : XC := (.cond q14 (.s .skip) (.s (.exit 0)))
def l136_3 : XL := (XL.of [])
def v136_1 : List Pos := [p0, p1]
def c136_1b : XC := (.sj v136_2 (.opq false (XL.pre [.mv p5 q1 tI, .mv p6 q0 .s, .P p7 (.lens q6) tI, .bn p8 .lss q5 q7 .b, .mv p9 q8 .b, .sp p9, .G p9 true p10 (.mov q0) .s, .G p9 true p11 (.mov q1) tI, .G p9 true p12 (.idxs q10 q11) tC, .o ⟨(some p13), (.call (.fn 108) [q12]), (some (p9, true)), []⟩ .b, .P p14 (.pick q9 q13 (cb false)) .b, .jn p9 [p0, p1, p14]] l136_3) c136_4) c136_2)
def c136_e : XC := (.sO [.mv p4 (ci 0) tI] (.sj v136_0 (.block 0 (.loop v136_1 c136_1b)) c136_0))
def x136 : XFn := ⟨[.s, tI], false, [(.tmp p4)], c136_e⟩
def e136_0 (k) (t1 : Int) (h) := kN k [(p1, (vI t1))] h
def S136_0 (D : CallD) (m : Nat) (t1 : Int) (h : HP) : Res2 :=
 some (.ret (vI t1) h, .no)
def e136_2 (k) (t0 : LN) (t1 : Int) (h) := kN k [(p0, (vS t0)), (p1, (vI t1))] h
def S136_2 (D : CallD) (m : Nat) (g1 : LN → Int → HP → Res2) (t0 : LN) (t1 : Int) (h : HP) : Res2 :=
 let t16 : Int := wrQ .i64 (addQ t1 (Int.ofNat 1))
 g1 t0 t16 h
def e136_3 (k) (t0 : LN) (t1 : Int) (t14 : Bool) (h) := kN k [(p0, (vS t0)), (p1, (vI t1)), (p14, (vB t14))] h
def S136_3 (D : CallD) (m : Nat) (g1 : LN → Int → HP → Res2) (t0 : LN) (t1 : Int) (t14 : Bool) (h : HP) : Res2 :=
 br t14 (
 S136_2 D m g1 t0 t1 h) (
 S136_0 D m t1 h)
def e136_1 (k) (t0 : LN) (t1 : Int) (h) := kN k [(p0, (vS t0)), (p1, (vI t1))] h
def S136_1b (D : CallD) (m : Nat) (g1 : LN → Int → HP → Res2) (t0 : LN) (t1 : Int) (h : HP) : Res2 :=
 let t7 : Int := Int.ofNat (lenL t0)
 let t8 : Bool := ltQ t1 t7
 br t8 (
 ixC (vS t0) (vI t1) fun vt12 => asI .u8 vt12 fun t12 =>
 cal D 108 [(vC t12)] h fun t13 h6 =>
 asB t13 fun t13a =>
 S136_3 D m g1 t0 t1 t13a h6) (
 S136_3 D m g1 t0 t1 false h)
def S136_1 (D : CallD) (m : Nat) : LN → Int → HP → Res2 := nrec (fun _ _ _ => none) (fun _ g => S136_1b D m g) m
def e136_5 (k) (t0 : LN) (t1 : Int) (h) := kN k [(p0, (vS t0)), (p1, (vI t1))] h
def S136_5 (D : CallD) (m : Nat) (t0 : LN) (t1 : Int) (h : HP) : Res2 :=
 S136_1 D m t0 t1 h
def S136 : SFn := fun D m args h u => nou u <| popS args fun t0 args => popI .i64 args fun t1 args => endA args (S136_5 D m t0 t1 h)
theorem T136_0 {D m E} (hE : FX x136 D m E) : S136_0 D m = e136_0 (E c136_0 []) := by unfold S136_0; rw [hE c136_0]; kernel_rfl
theorem T136_2 {D m E} (hE : FX x136 D m E) (G1) : S136_2 D m (e136_1 G1) = e136_2 (E c136_2 [.lp v136_1 G1, .blk 0, .sj v136_0 c136_0]) := by unfold S136_2; rw [hE c136_2]; kernel_rfl
theorem T136_3 {D m E} (hE : FX x136 D m E) (G1) : S136_3 D m (e136_1 G1) = e136_3 (E (.opq false l136_3 c136_4) [.sj v136_2 c136_2, .lp v136_1 G1, .blk 0, .sj v136_0 c136_0]) := by unfold S136_3; rw [T136_2 hE G1, T136_0 hE, hE (.opq false l136_3 c136_4)]; kernel_rfl
theorem T136_1b {D m E} (hE : FX x136 D m E) (G1) : S136_1b D m (e136_1 G1) = e136_1 (E c136_1b [.lp v136_1 G1, .blk 0, .sj v136_0 c136_0]) := by unfold S136_1b; rw [T136_3 hE G1, hE c136_1b]; kernel_rfl
theorem T136_1 {D m E} (hE : FX x136 D m E) : S136_1 D m = e136_1 (nrec (fun _ => none) (fun _ G1 st => E c136_1b [.lp v136_1 G1, .blk 0, .sj v136_0 c136_0] st) m) :=
  nrec_emb e136_1 (fun _ _ _ => none) (fun g => S136_1b D m g) (fun G1 st => E c136_1b [.lp v136_1 G1, .blk 0, .sj v136_0 c136_0] st) rfl (fun g => T136_1b hE g) m
theorem T136_5 {D m E} (hE : FX x136 D m E) : S136_5 D m = e136_5 (E c136_e []) := by unfold S136_5; rw [T136_1 hE, hE c136_e]; kernel_rfl
theorem X136 (D m args h u) : S136 D m args h u = evFX x136 D m args h u := by unfold S136; rw [T136_5 (fix_ok D m (x136.endOf D))]; show _ = evFXE x136 (evE2 D m (x136.endOf D)) args h u; generalize evE2 D m (x136.endOf D) = E; kernel_rfl
/- 137 -/
def v137_0 : List Pos := [p0, p4]
def c137_0 : XC := (.sO [.mv p70 q4 tI, .mv p71 q0 .s, .P p72 (.lens q71) tI, .bn p73 .eql q70 q72 .b, .mv p2 q73 .b] (.s .ret))
def v137_1 : List Pos := [p0, p3]
def c137_1 : XC := (.sO [.mv p64 q0 .s, .mv p65 q3 tI, .cl p66 167 [q64, q65] tI, .mv p4 q66 tI] (.sO [.mv p67 q4 tI, .mv p68 q3 tI, .bn p69 .eql q67 q68 .b] (.cond q69 (.sO [.mv p2 (cb false) .b] (.s .ret)) (.s .skip))))
def c137_e : XC := (.sO [.mv p2 (cb false) .b] (.sO [.mv p5 q0 .s, .cl p6 167 [q5, (ci 0)] tI, .mv p3 q6 tI] (.seq (.seq (.oX [.mv p7 q0 .s, .P p8 (.lens q7) tI, .bn p9 .gtr q8 (ci 40) .b, .mv p10 q9 .b, .ge p10 (XL.of [.G p10 false p11 (.mov q3) tI, .G p10 false p12 (.bin .eql q11 (ci 0)) .b, .P p13 (.pick q10 (cb true) q12) .b]) p13 .b, .mv p14 q13 .b, .ge p14 (XL.of [.G p14 false p15 (.mov q3) tI, .G p14 false p16 (.mov q0) .s, .G p14 false p17 (.lens q16) tI, .G p14 false p18 (.bin .eql q15 q17) .b, .P p19 (.pick q14 (cb true) q18) .b]) p19 .b, .mv p20 q19 .b, .ge p20 (XL.of [.G p20 false p21 (.mov q0) .s, .G p20 false p22 (.mov q3) tI, .G p20 false p23 (.idxs q21 q22) tC, .G p20 false p24 (.bin .neq q23 (.c (.int .u8 (.ofNat 46)))) .b, .P p25 (.pick q20 (cb true) q24) .b]) p25 .b]) (.cond q25 (.seq (.oX [.mv p2 (cb false) .b]) .ret) .skip)) (.sO [.mv p26 q0 .s, .mv p27 q3 tI, .bn p28 .add q27 (ci 1) tI, .cl p29 167 [q26, q28] tI, .mv p4 q29 tI] (.seq (.seq (.oX [.mv p30 q4 tI, .mv p31 q3 tI, .bn p32 .add q31 (ci 1) tI, .bn p33 .eql q30 q32 .b]) (.cond q33 (.seq (.oX [.mv p2 (cb false) .b]) .ret) .skip)) (.sj v137_0 (.sO [.mv p34 q4 tI, .mv p35 q0 .s, .P p36 (.lens q35) tI, .bn p37 .lss q34 q36 .b, .mv p38 q37 .b, .ge p38 (XL.of [.G p38 true p39 (.mov q0) .s, .G p38 true p40 (.mov q4) tI, .G p38 true p41 (.idxs q39 q40) tC, .G p38 true p42 (.bin .eql q41 (.c (.int .u8 (.ofNat 101)))) .b, .P p43 (.pick q38 q42 (cb false)) .b]) p43 .b] (.cond q43 (.sO [.mv p44 q4 tI, .bn p45 .add q44 (ci 1) tI, .mv p3 q45 tI] (.sj v137_1 (.sO [.mv p46 q3 tI, .mv p47 q0 .s, .P p48 (.lens q47) tI, .bn p49 .lss q46 q48 .b, .mv p50 q49 .b, .ge p50 (XL.of [.G p50 true p51 (.mov q0) .s, .G p50 true p52 (.mov q3) tI, .G p50 true p53 (.idxs q51 q52) tC, .G p50 true p54 (.bin .eql q53 (.c (.int .u8 (.ofNat 43)))) .b, .G p50 true p55 (.mov q54) .b, .ge p55 (XL.of [.G p55 false p56 (.mov q0) .s, .G p55 false p57 (.mov q3) tI, .G p55 false p58 (.idxs q56 q57) tC, .G p55 false p59 (.bin .eql q58 (.c (.int .u8 (.ofNat 45)))) .b, .G p50 true p60 (.pick q55 (cb true) q59) .b]) p60 .b, .P p61 (.pick q50 q60 (cb false)) .b]) p61 .b] (.cond q61 (.s (.oX [.mv p62 q3 tI, .bn p63 .add q62 (ci 1) tI, .mv p3 q63 tI])) (.s .skip))) c137_1)) (.s .skip))) c137_0))))))
def x137 : XFn := ⟨[.s], false, [(.tmp p2)], c137_e⟩
def e137_0 (k) (t0 : LN) (t4 : Int) (h) := kN k [(p0, (vS t0)), (p4, (vI t4))] h
def S137_0 (D : CallD) (m : Nat) (t0 : LN) (t4 : Int) (h : HP) : Res2 :=
 let t72 : Int := Int.ofNat (lenL t0)
 let t73 : Bool := eqQ t4 t72
 some (.ret (vB t73) h, .no)
def e137_1 (k) (t0 : LN) (t3 : Int) (h) := kN k [(p0, (vS t0)), (p3, (vI t3))] h
def S137_1 (D : CallD) (m : Nat) (t0 : LN) (t3 : Int) (h : HP) : Res2 :=
 cal D 167 [(vS t0), (vI t3)] h fun t66 h5 =>
 asI .i64 t66 fun t66a =>
 let t69 : Bool := eqQ t66a t3
 br t69 (
 some (.ret (vB false) h5, .no)) (
 S137_0 D m t0 t66a h5)
def e137_2 (k) (t0 : LN) (h) := kN k [(p0, (vS t0))] h
def S137_2 (D : CallD) (m : Nat) (t0 : LN) (h : HP) : Res2 :=
 cal D 167 [(vS t0), (vI (Int.ofNat 0))] h fun t6 h3 =>
 asI .i64 t6 fun t6a =>
 let t8 : Int := Int.ofNat (lenL t0)
 let t9 : Bool := ltQ (Int.ofNat 40) t8
 obB (brV t9 (
 some (vB true)) (
 let t12 : Bool := eqQ t6a (Int.ofNat 0)
 some (vB t12))) fun t13 =>
 obB (brV t13 (
 some (vB true)) (
 let t17 : Int := Int.ofNat (lenL t0)
 let t18 : Bool := eqQ t6a t17
 some (vB t18))) fun t19 =>
 obB (brV t19 (
 some (vB true)) (
 ixCV (vS t0) (vI t6a) fun vt23 => asIV .u8 vt23 fun t23 =>
 let t24 : Bool := notQ (eqQ t23 (Int.ofNat 46))
 some (vB t24))) fun t25 =>
 br t25 (
 some (.ret (vB false) h3, .no)) (
 let t28 : Int := wrQ .i64 (addQ t6a (Int.ofNat 1))
 cal D 167 [(vS t0), (vI t28)] h3 fun t29 h4 =>
 asI .i64 t29 fun t29a =>
 let t32 : Int := wrQ .i64 (addQ t6a (Int.ofNat 1))
 let t33 : Bool := eqQ t29a t32
 br t33 (
 some (.ret (vB false) h4, .no)) (
 let t36 : Int := Int.ofNat (lenL t0)
 let t37 : Bool := ltQ t29a t36
 obB (brV t37 (
 ixCV (vS t0) (vI t29a) fun vt41 => asIV .u8 vt41 fun t41 =>
 let t42 : Bool := eqQ t41 (Int.ofNat 101)
 some (vB t42)) (
 some (vB false))) fun t43 =>
 br t43 (
 let t45 : Int := wrQ .i64 (addQ t29a (Int.ofNat 1))
 let t48 : Int := Int.ofNat (lenL t0)
 let t49 : Bool := ltQ t45 t48
 obB (brV t49 (
 ixCV (vS t0) (vI t45) fun vt53 => asIV .u8 vt53 fun t53 =>
 let t54 : Bool := eqQ t53 (Int.ofNat 43)
 obBV (brV t54 (
 some (vB true)) (
 ixCV (vS t0) (vI t45) fun vt58 => asIV .u8 vt58 fun t58 =>
 let t59 : Bool := eqQ t58 (Int.ofNat 45)
 some (vB t59))) fun t60 =>
 some (vB t60)) (
 some (vB false))) fun t61 =>
 br t61 (
 let t63 : Int := wrQ .i64 (addQ t45 (Int.ofNat 1))
 S137_1 D m t0 t63 h4) (
 S137_1 D m t0 t45 h4)) (
 S137_0 D m t0 t29a h4)))
def S137 : SFn := fun D m args h u => nou u <| popS args fun t0 args => endA args (S137_2 D m t0 h)
theorem T137_0 {D m E} (hE : FX x137 D m E) : S137_0 D m = e137_0 (E c137_0 []) := by unfold S137_0; rw [hE c137_0]; kernel_rfl
theorem T137_1 {D m E} (hE : FX x137 D m E) : S137_1 D m = e137_1 (E c137_1 [.sj v137_0 c137_0]) := by unfold S137_1; rw [T137_0 hE, hE c137_1]; kernel_rfl
theorem T137_2 {D m E} (hE : FX x137 D m E) : S137_2 D m = e137_2 (E c137_e []) := by unfold S137_2; rw [T137_1 hE, T137_0 hE, hE c137_e]; kernel_rfl
theorem X137 (D m args h u) : S137 D m args h u = evFX x137 D m args h u := by unfold S137; rw [T137_2 (fix_ok D m (x137.endOf D))]; show _ = evFXE x137 (evE2 D m (x137.endOf D)) args h u; generalize evE2 D m (x137.endOf D) = E; kernel_rfl
/- 138 -/
def v138_4 : List Pos := [p1, p2, p3, p4]
def c138_4 : XC := (.seq (.ops true (XL.of [.L p151 (.cells 5 q1) .v, .L p153 (.cells 7 q4) .v, .o ⟨(some p152), (.call (.fn 79) [q151, (.c (.str [59]))]), none, [⟨none, .cells 7 q4, p153⟩]⟩ .v, .o ⟨none, (.e (.stores 5 q2 q152)), none, [⟨none, .cells 7 q4, p153⟩]⟩ .v, .ss 7 q3 q153])) (.s .ret))
def v138_3 : List Pos := [p1, p2, p3, p4, p5]
def c138_3 : XC := (.sj v138_4 (.sO [.L p140 (.cells 5 q1) .v, .cl p141 73 [q140, (.c (.str [59]))] .b, .P p142 (.un .not q141) .b] (.cond q142 (.sO [.L p144 (.cells 5 q1) .v, .cl p145 81 [q144] .v, .mv p143 q145 .v, .P p146 (.ext q143 0) .v, .P p147 (.ext q143 1) .v, .ss 5 q1 q146, .ss 8 q5 q147] (.s (.oX [.L p148 (.cells 8 q5) .v, .al p149 (.bsl [(kI 0), (.str []), (.str []), (.int .u32 (.ofNat 0)), (.int .u64 (.ofNat 0)), .nils, (kI 0), (kI 0)] 1 [⟨0, 8, q148⟩]), .fa p150 1 q4, .st q150 q149]))) (.s .skip))) c138_4)
def v138_2 : List Pos := [p1, p2, p3, p4, p5]
def c138_2 : XC := (.sO [.fa p134 0 q4, .st q134 (ci 7)] (.sj v138_3 (.sO [.L p135 (.cells 5 q1) .v, .cl p136 73 [q135, (.c (.str [114, 101, 116, 117, 114, 110]))] .b] (.cond q136 (.sO [.fa p137 0 q4, .st q137 (ci 4)] (.s (.oX [.L p138 (.cells 5 q1) .v, .cl p139 74 [q138] .v, .ss 5 q1 q139]))) (.s .skip))) c138_3))
def v138_6 : List Pos := [p1, p2, p3, p4]
def c138_6 : XC := (.seq (.ops true (XL.of [.L p130 (.cells 5 q1) .v, .L p133 (.cells 7 q4) .v, .o ⟨(some p131), (.call (.fn 74) [q130]), none, [⟨none, .cells 7 q4, p133⟩]⟩ .v, .o ⟨(some p132), (.call (.fn 79) [q131, (.c (.str [59]))]), none, [⟨none, .cells 7 q4, p133⟩]⟩ .v, .o ⟨none, (.e (.stores 5 q2 q132)), none, [⟨none, .cells 7 q4, p133⟩]⟩ .v, .ss 7 q3 q133])) (.s .ret))
def c138_7 : XC := (.cond q125 (.sO [.fa p126 0 q4, .st q126 (ci 5)] (.sj v138_6 (.sO [.L p127 (.cells 5 q1) .v, .cl p128 73 [q127, (.c (.str [99, 111, 110, 116, 105, 110, 117, 101]))] .b] (.cond q128 (.s (.oX [.fa p129 0 q4, .st q129 (ci 6)])) (.s .skip))) c138_6)) (.s .skip))
def l138_5 : XL := (XL.of [])
def v138_1 : List Pos := [p1, p2, p3, p4, p5]
def c138_1 : XC := (.sj v138_2 (.opq false (XL.pre [.L p120 (.cells 5 q1) .v, .cl p121 73 [q120, (.c (.str [98, 114, 101, 97, 107]))] .b, .mv p122 q121 .b, .sp p122, .o ⟨(some p123), (.l (.cells 5 q1)), (some (p122, false)), []⟩ .v, .o ⟨(some p124), (.call (.fn 73) [q123, (.c (.str [99, 111, 110, 116, 105, 110, 117, 101]))]), (some (p122, false)), []⟩ .b, .P p125 (.pick q122 (cb true) q124) .b, .jn p122 [p1, p2, p3, p4, p5, p125]] l138_5) c138_7) c138_2)
def v138_10 : List Pos := [p1, p2, p3, p4]
def c138_10 : XC := (.seq (.ops true (XL.of [.L p117 (.cells 5 q1) .v, .L p119 (.cells 7 q4) .v, .o ⟨(some p118), (.call (.fn 79) [q117, (.c (.str [59]))]), none, [⟨none, .cells 7 q4, p119⟩]⟩ .v, .o ⟨none, (.e (.stores 5 q2 q118)), none, [⟨none, .cells 7 q4, p119⟩]⟩ .v, .ss 7 q3 q119])) (.s .ret))
def c138_11 : XC := (.cond q86 (.sO [.fa p87 0 q4, .st q87 (ci 8)] (.sO [.L p89 (.cells 5 q1) .v, .cl p90 75 [q89] .v, .mv p88 q90 .v, .P p91 (.ext q88 0) .v, .P p92 (.ext q88 1) tI, .ss 5 q1 q91, .fa p93 4 q4, .st q93 q92] (.sO [.L p95 (.cells 5 q1) .v, .cl p96 76 [q95, (ci 1)] .v, .mv p94 q96 .v, .P p97 (.ext q94 0) .v, .P p98 (.ext q94 1) .s, .ss 5 q1 q97, .fa p99 3 q4, .st q99 q98] (.sO [.L p101 (.cells 5 q1) .v, .cl p102 80 [q101] .v, .mv p100 q102 .v, .P p103 (.ext q100 0) .v, .P p104 (.ext q100 1) tI, .ss 5 q1 q103, .fa p105 5 q4, .st q105 q104] (.sj v138_10 (.sO [.L p106 (.cells 5 q1) .v, .cl p107 73 [q106, (.c (.str [61]))] .b] (.cond q107 (.sO [.L p109 (.cells 5 q1) .v, .cl p110 74 [q109] .v, .cl p111 81 [q110] .v, .mv p108 q111 .v, .P p112 (.ext q108 0) .v, .P p113 (.ext q108 1) .v, .ss 5 q1 q112, .ss 8 q5 q113] (.s (.oX [.L p114 (.cells 8 q5) .v, .al p115 (.bsl [(kI 0), (.str []), (.str []), (.int .u32 (.ofNat 0)), (.int .u64 (.ofNat 0)), .nils, (kI 0), (kI 0)] 1 [⟨0, 8, q114⟩]), .fa p116 1 q4, .st q116 q115]))) (.s .skip))) c138_10))))) (.s .skip))
def l138_9 : XL := (XL.of [])
def l138_8 : XL := (XL.pre [.mv p83 q82 .b, .sp p83, .o ⟨(some p84), (.l (.cells 5 q1)), (some (p83, false)), []⟩ .v, .o ⟨(some p85), (.call (.fn 73) [q84, (.c (.str [118, 111, 105, 100]))]), (some (p83, false)), []⟩ .b, .P p86 (.pick q83 (cb true) q85) .b, .jn p83 [p1, p2, p3, p4, p5, p86]] l138_9)
def v138_0 : List Pos := [p1, p2, p3, p4, p5]
def c138_0 : XC := (.sj v138_1 (.opq false (XL.pre [.L p77 (.cells 5 q1) .v, .cl p78 73 [q77, (.c (.str [105, 110, 116]))] .b, .mv p79 q78 .b, .sp p79, .o ⟨(some p80), (.l (.cells 5 q1)), (some (p79, false)), []⟩ .v, .o ⟨(some p81), (.call (.fn 73) [q80, (.c (.str [100, 111, 117, 98, 108, 101]))]), (some (p79, false)), []⟩ .b, .P p82 (.pick q79 (cb true) q81) .b, .jn p79 [p1, p2, p3, p4, p5, p82]] l138_8) c138_11) c138_1)
def v138_14 : List Pos := [p1, p2, p3, p4]
def c138_14 : XC := (.seq (.ops true (XL.of [.L p75 (.cells 5 q1) .v, .L p76 (.cells 7 q4) .v, .o ⟨none, (.e (.stores 5 q2 q75)), none, [⟨none, .cells 7 q4, p76⟩]⟩ .v, .ss 7 q3 q76])) (.s .ret))
def c138_16 : XC := (.cond q62 (.sO [.L p64 (.cells 5 q1) .v, .cl p65 74 [q64] .v, .cl p66 112 [q65] .v, .mv p63 q66 .v, .P p67 (.ext q63 0) .v, .P p68 (.ext q63 1) .v, .ss 5 q1 q67, .ss 7 q6 q68] (.s (.oX [.fa p69 2 q4, .ld p70 q69 .v, .L p71 (.cells 7 q6) .v, .al p72 (.bsl [(kI 0), .nils, .nils, (.str []), (kI 0), (kI 0), (kI 0)] 1 [⟨0, 7, q71⟩]), .o ⟨(some p73), (.e (.app 7 96 q70 q72)), none, []⟩ .v, .fa p74 2 q4, .st q74 q73]))) (.s .skip))
def l138_15 : XL := (XL.of [])
def v138_13 : List Pos := [p1, p2, p3, p4, p5, p6]
def c138_13 : XC := (.sO [.L p35 (.cells 5 q1) .v, .cl p36 74 [q35] .v, .cl p37 79 [q36, (.c (.str [40]))] .v, .cl p38 81 [q37] .v, .mv p34 q38 .v, .P p39 (.ext q34 0) .v, .P p40 (.ext q34 1) .v, .ss 5 q1 q39, .ss 8 q5 q40] (.sO [.L p41 (.cells 8 q5) .v, .al p42 (.bsl [(kI 0), (.str []), (.str []), (.int .u32 (.ofNat 0)), (.int .u64 (.ofNat 0)), .nils, (kI 0), (kI 0)] 1 [⟨0, 8, q41⟩]), .fa p43 1 q4, .st q43 q42] (.sO [.L p45 (.cells 5 q1) .v, .cl p46 79 [q45, (.c (.str [41]))] .v, .cl p47 112 [q46] .v, .mv p44 q47 .v, .P p48 (.ext q44 0) .v, .P p49 (.ext q44 1) .v, .ss 5 q1 q48, .ss 7 q6 q49] (.sO [.fa p50 2 q4, .ld p51 q50 .v, .L p52 (.cells 7 q6) .v, .al p53 (.bsl [(kI 0), .nils, .nils, (.str []), (kI 0), (kI 0), (kI 0)] 1 [⟨0, 7, q52⟩]), .o ⟨(some p54), (.e (.app 7 96 q51 q53)), none, []⟩ .v, .fa p55 2 q4, .st q55 q54] (.sj v138_14 (.opq false (XL.pre [.fa p56 0 q4, .ld p57 q56 tI, .bn p58 .eql q57 (ci 2) .b, .mv p59 q58 .b, .sp p59, .o ⟨(some p60), (.l (.cells 5 q1)), (some (p59, true)), []⟩ .v, .o ⟨(some p61), (.call (.fn 73) [q60, (.c (.str [101, 108, 115, 101]))]), (some (p59, true)), []⟩ .b, .P p62 (.pick q59 q61 (cb false)) .b, .jn p59 [p1, p2, p3, p4, p6, p62]] l138_15) c138_16) c138_14)))))
def c138_17 : XC := (.cond q29 (.sO [.fa p30 0 q4, .st q30 (ci 2)] (.sj v138_13 (.sO [.L p31 (.cells 5 q1) .v, .cl p32 73 [q31, (.c (.str [119, 104, 105, 108, 101]))] .b] (.cond q32 (.s (.oX [.fa p33 0 q4, .st q33 (ci 3)])) (.s .skip))) c138_13)) (.s .skip))
def l138_12 : XL := (XL.of [])
def c138_e : XC := (.sO [.al p1 (.box q0), .al p2 (.new [.nils, (kI 0), (kI 0), (kI 0), (kI 0)]), .al p3 (.new [(kI 0), .nils, .nils, (.str []), (kI 0), (kI 0), (kI 0)])] (.sO [.L p7 (.cells 5 q1) .v, .cl p8 50 [q7] .v, .P p9 (.field 2 1 false q8) tI, .P p10 (.build [(kI 0), .nils, .nils, (.str []), (kI 0), (kI 0), (kI 0)] [⟨6, 1, q9⟩]) .v, .al p4 (.new [(kI 0), .nils, .nils, (.str []), (kI 0), (kI 0), (kI 0)]), .ss 7 q4 q10] (.sO [.P p11 (.build [(kI 0), (.str []), (.str []), (.int .u32 (.ofNat 0)), (.int .u64 (.ofNat 0)), .nils, (kI 0), (kI 0)] []) .v, .al p5 (.new [(kI 0), (.str []), (.str []), (.int .u32 (.ofNat 0)), (.int .u64 (.ofNat 0)), .nils, (kI 0), (kI 0)]), .ss 8 q5 q11] (.sO [.P p12 (.build [(kI 0), .nils, .nils, (.str []), (kI 0), (kI 0), (kI 0)] []) .v, .al p6 (.new [(kI 0), .nils, .nils, (.str []), (kI 0), (kI 0), (kI 0)]), .ss 7 q6 q12] (.seq (.seq (.oX [.fa p13 3 q1, .ld p14 q13 tI, .bn p15 .neq q14 (ci 0) .b]) (.cond q15 (.seq (.ops true (XL.of [.L p16 (.cells 5 q1) .v, .L p17 (.cells 7 q4) .v, .o ⟨none, (.e (.stores 5 q2 q16)), none, [⟨none, .cells 7 q4, p17⟩]⟩ .v, .ss 7 q3 q17])) .ret) .skip)) (.seq (.seq (.oX [.L p18 (.cells 5 q1) .v, .cl p19 73 [q18, (.c (.str [123]))] .b]) (.cond q19 (.seq (.oX [.L p20 (.cells 5 q1) .v, .cl p21 78 [q20] .v, .P p22 (.ext q21 0) .v, .P p23 (.ext q21 1) .v, .ss 5 q2 q22, .ss 7 q3 q23]) .ret) .skip)) (.sj v138_0 (.opq false (XL.pre [.L p24 (.cells 5 q1) .v, .cl p25 73 [q24, (.c (.str [105, 102]))] .b, .mv p26 q25 .b, .sp p26, .o ⟨(some p27), (.l (.cells 5 q1)), (some (p26, false)), []⟩ .v, .o ⟨(some p28), (.call (.fn 73) [q27, (.c (.str [119, 104, 105, 108, 101]))]), (some (p26, false)), []⟩ .b, .P p29 (.pick q26 (cb true) q28) .b, .jn p26 [p1, p2, p3, p4, p5, p6, p29]] l138_12) c138_17) c138_0)))))))
def x138 : XFn := ⟨[.v], false, [(.cells 5 p2), (.cells 7 p3)], c138_e⟩
def e138_4 (k) (t1 : AV) (t2 : AV) (t3 : AV) (t4 : AV) (h) := kN k [(p1, t1), (p2, t2), (p3, t3), (p4, t4)] h
def S138_4 (D : CallD) (m : Nat) (t1 : AV) (t2 : AV) (t3 : AV) (t4 : AV) (h : HP) : Res2 :=
 cellsC 5 t1 h fun t151 =>
 cellsC 7 t4 h fun t153 =>
 cal D 79 [t151, (vS ([59] : LN))] h fun t152 h36 =>
 br (again [⟨none, .cells 7 q4, p153⟩] (mkT [(p153, t153), (p4, t4)]) h36) (
 stsC 5 t2 t152 h36 fun h37 =>
 br (again [⟨none, .cells 7 q4, p153⟩] (mkT [(p153, t153), (p4, t4)]) h37) (
 stsC 7 t3 t153 h37 fun h38 =>
 XFn.endOf x138 D (.ret ⟨(mkT [(p2, t2), (p3, t3)]), h38, [], .no⟩)) none) none
def e138_3 (k) (t1 : AV) (t2 : AV) (t3 : AV) (t4 : AV) (t5 : AV) (h) := kN k [(p1, t1), (p2, t2), (p3, t3), (p4, t4), (p5, t5)] h
def S138_3 (D : CallD) (m : Nat) (t1 : AV) (t2 : AV) (t3 : AV) (t4 : AV) (t5 : AV) (h : HP) : Res2 :=
 cellsC 5 t1 h fun t140 =>
 cal D 73 [t140, (vS ([59] : LN))] h fun t141 h39 =>
 asB t141 fun t141a =>
 let t142 : Bool := !t141a
 br t142 (
 cellsC 5 t1 h39 fun t144 =>
 cal D 81 [t144] h39 fun t145 h40 =>
 extC t145 0 fun t146 =>
 extC t145 1 fun t147 =>
 stsC 5 t1 t146 h40 fun h41 =>
 stsC 8 t5 t147 h41 fun h42 =>
 cellsC 8 t5 h42 fun t148 =>
 obQ (evA (.bsl [(kI 0), (.str []), (.str []), (.int .u32 (.ofNat 0)), (.int .u64 (.ofNat 0)), .nils, (kI 0), (kI 0)] 1 [⟨0, 8, (.c t148)⟩]) .leaf) fun r43 =>
 let t149 : AV := vkV r43.2 (HP.nxQ h42)
 let h44 : HP := HP.newQ h42 r43.1
 faC 1 t4 fun t150 =>
 stoC t150 t149 h44 fun h45 =>
 S138_4 D m t1 t2 t3 t4 h45) (
 S138_4 D m t1 t2 t3 t4 h39)
def e138_2 (k) (t1 : AV) (t2 : AV) (t3 : AV) (t4 : AV) (t5 : AV) (h) := kN k [(p1, t1), (p2, t2), (p3, t3), (p4, t4), (p5, t5)] h
def S138_2 (D : CallD) (m : Nat) (t1 : AV) (t2 : AV) (t3 : AV) (t4 : AV) (t5 : AV) (h : HP) : Res2 :=
 faC 0 t4 fun t134 =>
 stoC t134 (vI (Int.ofNat 7)) h fun h35 =>
 cellsC 5 t1 h35 fun t135 =>
 cal D 73 [t135, (vS ([114, 101, 116, 117, 114, 110] : LN))] h35 fun t136 h46 =>
 asB t136 fun t136a =>
 br t136a (
 faC 0 t4 fun t137 =>
 stoC t137 (vI (Int.ofNat 4)) h46 fun h47 =>
 cellsC 5 t1 h47 fun t138 =>
 cal D 74 [t138] h47 fun t139 h48 =>
 stsC 5 t1 t139 h48 fun h49 =>
 S138_3 D m t1 t2 t3 t4 t5 h49) (
 S138_3 D m t1 t2 t3 t4 t5 h46)
def e138_6 (k) (t1 : AV) (t2 : AV) (t3 : AV) (t4 : AV) (h) := kN k [(p1, t1), (p2, t2), (p3, t3), (p4, t4)] h
def S138_6 (D : CallD) (m : Nat) (t1 : AV) (t2 : AV) (t3 : AV) (t4 : AV) (h : HP) : Res2 :=
 cellsC 5 t1 h fun t130 =>
 cellsC 7 t4 h fun t133 =>
 cal D 74 [t130] h fun t131 h52 =>
 br (again [⟨none, .cells 7 q4, p133⟩] (mkT [(p133, t133), (p4, t4)]) h52) (
 cal D 79 [t131, (vS ([59] : LN))] h52 fun t132 h53 =>
 br (again [⟨none, .cells 7 q4, p133⟩] (mkT [(p133, t133), (p4, t4)]) h53) (
 stsC 5 t2 t132 h53 fun h54 =>
 br (again [⟨none, .cells 7 q4, p133⟩] (mkT [(p133, t133), (p4, t4)]) h54) (
 stsC 7 t3 t133 h54 fun h55 =>
 XFn.endOf x138 D (.ret ⟨(mkT [(p2, t2), (p3, t3)]), h55, [], .no⟩)) none) none) none
def e138_5 (k) (t1 : AV) (t2 : AV) (t3 : AV) (t4 : AV) (t5 : AV) (t125 : Bool) (h) := kN k [(p1, t1), (p2, t2), (p3, t3), (p4, t4), (p5, t5), (p125, (vB t125))] h
def S138_5 (D : CallD) (m : Nat) (t1 : AV) (t2 : AV) (t3 : AV) (t4 : AV) (t5 : AV) (t125 : Bool) (h : HP) : Res2 :=
 br t125 (
 faC 0 t4 fun t126 =>
 stoC t126 (vI (Int.ofNat 5)) h fun h51 =>
 cellsC 5 t1 h51 fun t127 =>
 cal D 73 [t127, (vS ([99, 111, 110, 116, 105, 110, 117, 101] : LN))] h51 fun t128 h56 =>
 asB t128 fun t128a =>
 br t128a (
 faC 0 t4 fun t129 =>
 stoC t129 (vI (Int.ofNat 6)) h56 fun h57 =>
 S138_6 D m t1 t2 t3 t4 h57) (
 S138_6 D m t1 t2 t3 t4 h56)) (
 S138_2 D m t1 t2 t3 t4 t5 h)
def e138_1 (k) (t1 : AV) (t2 : AV) (t3 : AV) (t4 : AV) (t5 : AV) (h) := kN k [(p1, t1), (p2, t2), (p3, t3), (p4, t4), (p5, t5)] h
def S138_1 (D : CallD) (m : Nat) (t1 : AV) (t2 : AV) (t3 : AV) (t4 : AV) (t5 : AV) (h : HP) : Res2 :=
 cellsC 5 t1 h fun t120 =>
 cal D 73 [t120, (vS ([98, 114, 101, 97, 107] : LN))] h fun t121 h50 =>
 asB t121 fun t121a =>
 br t121a (
 S138_5 D m t1 t2 t3 t4 t5 true h50) (
 cellsC 5 t1 h50 fun t123 =>
 cal D 73 [t123, (vS ([99, 111, 110, 116, 105, 110, 117, 101] : LN))] h50 fun t124 h58 =>
 asB t124 fun t124a =>
 S138_5 D m t1 t2 t3 t4 t5 t124a h58)
def e138_10 (k) (t1 : AV) (t2 : AV) (t3 : AV) (t4 : AV) (h) := kN k [(p1, t1), (p2, t2), (p3, t3), (p4, t4)] h
def S138_10 (D : CallD) (m : Nat) (t1 : AV) (t2 : AV) (t3 : AV) (t4 : AV) (h : HP) : Res2 :=
 cellsC 5 t1 h fun t117 =>
 cellsC 7 t4 h fun t119 =>
 cal D 79 [t117, (vS ([59] : LN))] h fun t118 h70 =>
 br (again [⟨none, .cells 7 q4, p119⟩] (mkT [(p119, t119), (p4, t4)]) h70) (
 stsC 5 t2 t118 h70 fun h71 =>
 br (again [⟨none, .cells 7 q4, p119⟩] (mkT [(p119, t119), (p4, t4)]) h71) (
 stsC 7 t3 t119 h71 fun h72 =>
 XFn.endOf x138 D (.ret ⟨(mkT [(p2, t2), (p3, t3)]), h72, [], .no⟩)) none) none
def e138_9 (k) (t1 : AV) (t2 : AV) (t3 : AV) (t4 : AV) (t5 : AV) (t86 : Bool) (h) := kN k [(p1, t1), (p2, t2), (p3, t3), (p4, t4), (p5, t5), (p86, (vB t86))] h
def S138_9 (D : CallD) (m : Nat) (t1 : AV) (t2 : AV) (t3 : AV) (t4 : AV) (t5 : AV) (t86 : Bool) (h : HP) : Res2 :=
 br t86 (
 faC 0 t4 fun t87 =>
 stoC t87 (vI (Int.ofNat 8)) h fun h60 =>
 cellsC 5 t1 h60 fun t89 =>
 cal D 75 [t89] h60 fun t90 h61 =>
 extC t90 0 fun t91 =>
 extC t90 1 fun vt92 => asI .i64 vt92 fun t92 =>
 stsC 5 t1 t91 h61 fun h62 =>
 faC 4 t4 fun t93 =>
 stoC t93 (vI t92) h62 fun h63 =>
 cellsC 5 t1 h63 fun t95 =>
 cal D 76 [t95, (vI (Int.ofNat 1))] h63 fun t96 h64 =>
 extC t96 0 fun t97 =>
 extC t96 1 fun vt98 => asS vt98 fun t98 =>
 stsC 5 t1 t97 h64 fun h65 =>
 faC 3 t4 fun t99 =>
 stoC t99 (vS t98) h65 fun h66 =>
 cellsC 5 t1 h66 fun t101 =>
 cal D 80 [t101] h66 fun t102 h67 =>
 extC t102 0 fun t103 =>
 extC t102 1 fun vt104 => asI .i64 vt104 fun t104 =>
 stsC 5 t1 t103 h67 fun h68 =>
 faC 5 t4 fun t105 =>
 stoC t105 (vI t104) h68 fun h69 =>
 cellsC 5 t1 h69 fun t106 =>
 cal D 73 [t106, (vS ([61] : LN))] h69 fun t107 h73 =>
 asB t107 fun t107a =>
 br t107a (
 cellsC 5 t1 h73 fun t109 =>
 cal D 74 [t109] h73 fun t110 h74 =>
 cal D 81 [t110] h74 fun t111 h75 =>
 extC t111 0 fun t112 =>
 extC t111 1 fun t113 =>
 stsC 5 t1 t112 h75 fun h76 =>
 stsC 8 t5 t113 h76 fun h77 =>
 cellsC 8 t5 h77 fun t114 =>
 obQ (evA (.bsl [(kI 0), (.str []), (.str []), (.int .u32 (.ofNat 0)), (.int .u64 (.ofNat 0)), .nils, (kI 0), (kI 0)] 1 [⟨0, 8, (.c t114)⟩]) .leaf) fun r78 =>
 let t115 : AV := vkV r78.2 (HP.nxQ h77)
 let h79 : HP := HP.newQ h77 r78.1
 faC 1 t4 fun t116 =>
 stoC t116 t115 h79 fun h80 =>
 S138_10 D m t1 t2 t3 t4 h80) (
 S138_10 D m t1 t2 t3 t4 h73)) (
 S138_1 D m t1 t2 t3 t4 t5 h)
def e138_8 (k) (t1 : AV) (t2 : AV) (t3 : AV) (t4 : AV) (t5 : AV) (t82 : Bool) (h) := kN k [(p1, t1), (p2, t2), (p3, t3), (p4, t4), (p5, t5), (p82, (vB t82))] h
def S138_8 (D : CallD) (m : Nat) (t1 : AV) (t2 : AV) (t3 : AV) (t4 : AV) (t5 : AV) (t82 : Bool) (h : HP) : Res2 :=
 br t82 (
 S138_9 D m t1 t2 t3 t4 t5 true h) (
 cellsC 5 t1 h fun t84 =>
 cal D 73 [t84, (vS ([118, 111, 105, 100] : LN))] h fun t85 h81 =>
 asB t85 fun t85a =>
 S138_9 D m t1 t2 t3 t4 t5 t85a h81)
def e138_0 (k) (t1 : AV) (t2 : AV) (t3 : AV) (t4 : AV) (t5 : AV) (h) := kN k [(p1, t1), (p2, t2), (p3, t3), (p4, t4), (p5, t5)] h
def S138_0 (D : CallD) (m : Nat) (t1 : AV) (t2 : AV) (t3 : AV) (t4 : AV) (t5 : AV) (h : HP) : Res2 :=
 cellsC 5 t1 h fun t77 =>
 cal D 73 [t77, (vS ([105, 110, 116] : LN))] h fun t78 h59 =>
 asB t78 fun t78a =>
 br t78a (
 S138_8 D m t1 t2 t3 t4 t5 true h59) (
 cellsC 5 t1 h59 fun t80 =>
 cal D 73 [t80, (vS ([100, 111, 117, 98, 108, 101] : LN))] h59 fun t81 h82 =>
 asB t81 fun t81a =>
 S138_8 D m t1 t2 t3 t4 t5 t81a h82)
def e138_14 (k) (t1 : AV) (t2 : AV) (t3 : AV) (t4 : AV) (h) := kN k [(p1, t1), (p2, t2), (p3, t3), (p4, t4)] h
def S138_14 (D : CallD) (m : Nat) (t1 : AV) (t2 : AV) (t3 : AV) (t4 : AV) (h : HP) : Res2 :=
 cellsC 5 t1 h fun t75 =>
 cellsC 7 t4 h fun t76 =>
 stsC 5 t2 t75 h fun h101 =>
 br (again [⟨none, .cells 7 q4, p76⟩] (mkT [(p76, t76), (p4, t4)]) h101) (
 stsC 7 t3 t76 h101 fun h102 =>
 XFn.endOf x138 D (.ret ⟨(mkT [(p2, t2), (p3, t3)]), h102, [], .no⟩)) none
def e138_15 (k) (t1 : AV) (t2 : AV) (t3 : AV) (t4 : AV) (t6 : AV) (t62 : Bool) (h) := kN k [(p1, t1), (p2, t2), (p3, t3), (p4, t4), (p6, t6), (p62, (vB t62))] h
def S138_15 (D : CallD) (m : Nat) (t1 : AV) (t2 : AV) (t3 : AV) (t4 : AV) (t6 : AV) (t62 : Bool) (h : HP) : Res2 :=
 br t62 (
 cellsC 5 t1 h fun t64 =>
 cal D 74 [t64] h fun t65 h104 =>
 cal D 112 [t65] h104 fun t66 h105 =>
 extC t66 0 fun t67 =>
 extC t66 1 fun t68 =>
 stsC 5 t1 t67 h105 fun h106 =>
 stsC 7 t6 t68 h106 fun h107 =>
 faC 2 t4 fun t69 =>
 cellC t69 h107 fun t70 =>
 cellsC 7 t6 h107 fun t71 =>
 obQ (evA (.bsl [(kI 0), .nils, .nils, (.str []), (kI 0), (kI 0), (kI 0)] 1 [⟨0, 7, (.c t71)⟩]) .leaf) fun r108 =>
 let t72 : AV := vkV r108.2 (HP.nxQ h107)
 let h109 : HP := HP.newQ h107 r108.1
 eff (.app 7 96 (.c t70) (.c t72)) h109 fun t73 h110 =>
 faC 2 t4 fun t74 =>
 stoC t74 t73 h110 fun h111 =>
 S138_14 D m t1 t2 t3 t4 h111) (
 S138_14 D m t1 t2 t3 t4 h)
def e138_13 (k) (t1 : AV) (t2 : AV) (t3 : AV) (t4 : AV) (t5 : AV) (t6 : AV) (h) := kN k [(p1, t1), (p2, t2), (p3, t3), (p4, t4), (p5, t5), (p6, t6)] h
def S138_13 (D : CallD) (m : Nat) (t1 : AV) (t2 : AV) (t3 : AV) (t4 : AV) (t5 : AV) (t6 : AV) (h : HP) : Res2 :=
 cellsC 5 t1 h fun t35 =>
 cal D 74 [t35] h fun t36 h85 =>
 cal D 79 [t36, (vS ([40] : LN))] h85 fun t37 h86 =>
 cal D 81 [t37] h86 fun t38 h87 =>
 extC t38 0 fun t39 =>
 extC t38 1 fun t40 =>
 stsC 5 t1 t39 h87 fun h88 =>
 stsC 8 t5 t40 h88 fun h89 =>
 cellsC 8 t5 h89 fun t41 =>
 obQ (evA (.bsl [(kI 0), (.str []), (.str []), (.int .u32 (.ofNat 0)), (.int .u64 (.ofNat 0)), .nils, (kI 0), (kI 0)] 1 [⟨0, 8, (.c t41)⟩]) .leaf) fun r90 =>
 let t42 : AV := vkV r90.2 (HP.nxQ h89)
 let h91 : HP := HP.newQ h89 r90.1
 faC 1 t4 fun t43 =>
 stoC t43 t42 h91 fun h92 =>
 cellsC 5 t1 h92 fun t45 =>
 cal D 79 [t45, (vS ([41] : LN))] h92 fun t46 h93 =>
 cal D 112 [t46] h93 fun t47 h94 =>
 extC t47 0 fun t48 =>
 extC t47 1 fun t49 =>
 stsC 5 t1 t48 h94 fun h95 =>
 stsC 7 t6 t49 h95 fun h96 =>
 faC 2 t4 fun t50 =>
 cellC t50 h96 fun t51 =>
 cellsC 7 t6 h96 fun t52 =>
 obQ (evA (.bsl [(kI 0), .nils, .nils, (.str []), (kI 0), (kI 0), (kI 0)] 1 [⟨0, 7, (.c t52)⟩]) .leaf) fun r97 =>
 let t53 : AV := vkV r97.2 (HP.nxQ h96)
 let h98 : HP := HP.newQ h96 r97.1
 eff (.app 7 96 (.c t51) (.c t53)) h98 fun t54 h99 =>
 faC 2 t4 fun t55 =>
 stoC t55 t54 h99 fun h100 =>
 faC 0 t4 fun t56 =>
 ldI t56 h100 fun t57 =>
 let t58 : Bool := eqQ t57 (Int.ofNat 2)
 br t58 (
 cellsC 5 t1 h100 fun t60 =>
 cal D 73 [t60, (vS ([101, 108, 115, 101] : LN))] h100 fun t61 h103 =>
 asB t61 fun t61a =>
 S138_15 D m t1 t2 t3 t4 t6 t61a h103) (
 S138_15 D m t1 t2 t3 t4 t6 false h100)
def e138_12 (k) (t1 : AV) (t2 : AV) (t3 : AV) (t4 : AV) (t5 : AV) (t6 : AV) (t29 : Bool) (h) := kN k [(p1, t1), (p2, t2), (p3, t3), (p4, t4), (p5, t5), (p6, t6), (p29, (vB t29))] h
def S138_12 (D : CallD) (m : Nat) (t1 : AV) (t2 : AV) (t3 : AV) (t4 : AV) (t5 : AV) (t6 : AV) (t29 : Bool) (h : HP) : Res2 :=
 br t29 (
 faC 0 t4 fun t30 =>
 stoC t30 (vI (Int.ofNat 2)) h fun h84 =>
 cellsC 5 t1 h84 fun t31 =>
 cal D 73 [t31, (vS ([119, 104, 105, 108, 101] : LN))] h84 fun t32 h112 =>
 asB t32 fun t32a =>
 br t32a (
 faC 0 t4 fun t33 =>
 stoC t33 (vI (Int.ofNat 3)) h112 fun h113 =>
 S138_13 D m t1 t2 t3 t4 t5 t6 h113) (
 S138_13 D m t1 t2 t3 t4 t5 t6 h112)) (
 S138_0 D m t1 t2 t3 t4 t5 h)
def e138_18 (k) (t0 : AV) (h) := kN k [(p0, t0)] h
def S138_18 (D : CallD) (m : Nat) (t0 : AV) (h : HP) : Res2 :=
 let t1 : AV := AV.ptr (HP.nxQ h) 0
 let h19 : HP := HP.newQ h (.cells true (AV.cells t0))
 let t2 : AV := AV.ptr (HP.nxQ h19) 0
 let h20 : HP := HP.newQ h19 (.cells true [.nils, (kI 0), (kI 0), (kI 0), (kI 0)])
 let t3 : AV := AV.ptr (HP.nxQ h20) 0
 let h21 : HP := HP.newQ h20 (.cells true [(kI 0), .nils, .nils, (.str []), (kI 0), (kI 0), (kI 0)])
 cellsC 5 t1 h21 fun t7 =>
 cal D 50 [t7] h21 fun t8 h22 =>
 fldC 2 1 false t8 fun vt9 => asI .i64 vt9 fun t9 =>
 let t10 : AV := (AV.agg [(vI (Int.ofNat 0)), (.nils : AV), (.nils : AV), (vS ([] : LN)), (vI (Int.ofNat 0)), (vI (Int.ofNat 0)), (vI t9)])
 let t4 : AV := AV.ptr (HP.nxQ h22) 0
 let h23 : HP := HP.newQ h22 (.cells true [(kI 0), .nils, .nils, (.str []), (kI 0), (kI 0), (kI 0)])
 stsC 7 t4 t10 h23 fun h24 =>
 let t11 : AV := (AV.agg [(vI (Int.ofNat 0)), (vS ([] : LN)), (vS ([] : LN)), (vW (Int.ofNat 0)), (AV.int .u64 (Int.ofNat 0)), (.nils : AV), (vI (Int.ofNat 0)), (vI (Int.ofNat 0))])
 let t5 : AV := AV.ptr (HP.nxQ h24) 0
 let h25 : HP := HP.newQ h24 (.cells true [(kI 0), (.str []), (.str []), (.int .u32 (.ofNat 0)), (.int .u64 (.ofNat 0)), .nils, (kI 0), (kI 0)])
 stsC 8 t5 t11 h25 fun h26 =>
 let t12 : AV := (AV.agg [(vI (Int.ofNat 0)), (.nils : AV), (.nils : AV), (vS ([] : LN)), (vI (Int.ofNat 0)), (vI (Int.ofNat 0)), (vI (Int.ofNat 0))])
 let t6 : AV := AV.ptr (HP.nxQ h26) 0
 let h27 : HP := HP.newQ h26 (.cells true [(kI 0), .nils, .nils, (.str []), (kI 0), (kI 0), (kI 0)])
 stsC 7 t6 t12 h27 fun h28 =>
 let t13 : AV := (AV.ptr (HP.nxQ h) (Nat.add 0 3))
 ldI t13 h28 fun t14 =>
 let t15 : Bool := notQ (eqQ t14 (Int.ofNat 0))
 br t15 (
 cellsC 5 t1 h28 fun t16 =>
 cellsC 7 t4 h28 fun t17 =>
 stsC 5 t2 t16 h28 fun h29 =>
 br (again [⟨none, .cells 7 q4, p17⟩] (mkT [(p17, t17), (p4, t4)]) h29) (
 stsC 7 t3 t17 h29 fun h30 =>
 XFn.endOf x138 D (.ret ⟨(mkT [(p2, t2), (p3, t3)]), h30, [], .no⟩)) none) (
 cellsC 5 t1 h28 fun t18 =>
 cal D 73 [t18, (vS ([123] : LN))] h28 fun t19 h31 =>
 asB t19 fun t19a =>
 br t19a (
 cellsC 5 t1 h31 fun t20 =>
 cal D 78 [t20] h31 fun t21 h32 =>
 extC t21 0 fun t22 =>
 extC t21 1 fun t23 =>
 stsC 5 t2 t22 h32 fun h33 =>
 stsC 7 t3 t23 h33 fun h34 =>
 XFn.endOf x138 D (.ret ⟨(mkT [(p2, t2), (p3, t3)]), h34, [], .no⟩)) (
 cellsC 5 t1 h31 fun t24 =>
 cal D 73 [t24, (vS ([105, 102] : LN))] h31 fun t25 h83 =>
 asB t25 fun t25a =>
 br t25a (
 S138_12 D m t1 t2 t3 t4 t5 t6 true h83) (
 cellsC 5 t1 h83 fun t27 =>
 cal D 73 [t27, (vS ([119, 104, 105, 108, 101] : LN))] h83 fun t28 h114 =>
 asB t28 fun t28a =>
 S138_12 D m t1 t2 t3 t4 t5 t6 t28a h114)))
def S138 : SFn := fun D m args h u => nou u <| popV args fun t0 args => endA args (S138_18 D m t0 h)
theorem T138_4 {D m E} (hE : FX x138 D m E) : S138_4 D m = e138_4 (E c138_4 []) := by unfold S138_4; rw [hE c138_4]; kernel_rfl
theorem T138_3 {D m E} (hE : FX x138 D m E) : S138_3 D m = e138_3 (E c138_3 []) := by unfold S138_3; rw [T138_4 hE, hE c138_3]; kernel_rfl
theorem T138_2 {D m E} (hE : FX x138 D m E) : S138_2 D m = e138_2 (E c138_2 []) := by unfold S138_2; rw [T138_3 hE, hE c138_2]; kernel_rfl
theorem T138_6 {D m E} (hE : FX x138 D m E) : S138_6 D m = e138_6 (E c138_6 [.sj v138_2 c138_2]) := by unfold S138_6; rw [hE c138_6]; kernel_rfl
theorem T138_5 {D m E} (hE : FX x138 D m E) : S138_5 D m = e138_5 (E (.opq false l138_5 c138_7) [.sj v138_2 c138_2]) := by unfold S138_5; rw [T138_6 hE, T138_2 hE, hE (.opq false l138_5 c138_7)]; kernel_rfl
theorem T138_1 {D m E} (hE : FX x138 D m E) : S138_1 D m = e138_1 (E c138_1 []) := by unfold S138_1; rw [T138_5 hE, hE c138_1]; kernel_rfl
theorem T138_10 {D m E} (hE : FX x138 D m E) : S138_10 D m = e138_10 (E c138_10 [.sj v138_1 c138_1]) := by unfold S138_10; rw [hE c138_10]; kernel_rfl
theorem T138_9 {D m E} (hE : FX x138 D m E) : S138_9 D m = e138_9 (E (.opq false l138_9 c138_11) [.sj v138_1 c138_1]) := by unfold S138_9; rw [T138_10 hE, T138_1 hE, hE (.opq false l138_9 c138_11)]; kernel_rfl
theorem T138_8 {D m E} (hE : FX x138 D m E) : S138_8 D m = e138_8 (E (.opq false l138_8 c138_11) [.sj v138_1 c138_1]) := by unfold S138_8; rw [T138_9 hE, hE (.opq false l138_8 c138_11)]; kernel_rfl
theorem T138_0 {D m E} (hE : FX x138 D m E) : S138_0 D m = e138_0 (E c138_0 []) := by unfold S138_0; rw [T138_8 hE, hE c138_0]; kernel_rfl
theorem T138_14 {D m E} (hE : FX x138 D m E) : S138_14 D m = e138_14 (E c138_14 [.sj v138_0 c138_0]) := by unfold S138_14; rw [hE c138_14]; kernel_rfl
theorem T138_15 {D m E} (hE : FX x138 D m E) : S138_15 D m = e138_15 (E (.opq false l138_15 c138_16) [.sj v138_14 c138_14, .sj v138_0 c138_0]) := by unfold S138_15; rw [T138_14 hE, hE (.opq false l138_15 c138_16)]; kernel_rfl
theorem T138_13 {D m E} (hE : FX x138 D m E) : S138_13 D m = e138_13 (E c138_13 [.sj v138_0 c138_0]) := by unfold S138_13; rw [T138_15 hE, hE c138_13]; kernel_rfl
theorem T138_12 {D m E} (hE : FX x138 D m E) : S138_12 D m = e138_12 (E (.opq false l138_12 c138_17) [.sj v138_0 c138_0]) := by unfold S138_12; rw [T138_13 hE, T138_0 hE, hE (.opq false l138_12 c138_17)]; kernel_rfl
theorem T138_18 {D m E} (hE : FX x138 D m E) : S138_18 D m = e138_18 (E c138_e []) := by unfold S138_18; rw [T138_12 hE, hE c138_e]; kernel_rfl
theorem X138 (D m args h u) : S138 D m args h u = evFX x138 D m args h u := by unfold S138; rw [T138_18 (fix_ok D m (x138.endOf D))]; show _ = evFXE x138 (evE2 D m (x138.endOf D)) args h u; generalize evE2 D m (x138.endOf D) = E; kernel_rfl
/- 139 -/
def c139_e : XC := (.sO [.al p1 (.box q0), .al p2 (.new [.nils, (kI 0), (kI 0), (kI 0), (kI 0)]), .al p3 (.new [(kI 0), (.str []), (.str []), (.int .u32 (.ofNat 0)), (.int .u64 (.ofNat 0)), .nils, (kI 0), (kI 0)])] (.sO [.L p6 (.cells 5 q1) .v, .cl p7 115 [q6] .v, .cl p8 168 [q7] .v, .mv p5 q8 .v, .P p9 (.ext q5 0) .v, .P p10 (.ext q5 1) .v, .al p4 (.new [(kI 0), (.str []), (.str []), (.int .u32 (.ofNat 0)), (.int .u64 (.ofNat 0)), .nils, (kI 0), (kI 0)]), .ss 5 q1 q9, .ss 8 q4 q10] (.seq (.ops true (XL.of [.L p11 (.cells 5 q1) .v, .L p13 (.cells 8 q4) .v, .o ⟨(some p12), (.call (.fn 116) [q11]), none, [⟨none, .cells 8 q4, p13⟩]⟩ .v, .o ⟨none, (.e (.stores 5 q2 q12)), none, [⟨none, .cells 8 q4, p13⟩]⟩ .v, .ss 8 q3 q13])) (.s .ret))))
def x139 : XFn := ⟨[.v], false, [(.cells 5 p2), (.cells 8 p3)], c139_e⟩
def e139_0 (k) (t0 : AV) (h) := kN k [(p0, t0)] h
def S139_0 (D : CallD) (m : Nat) (t0 : AV) (h : HP) : Res2 :=
 let t1 : AV := AV.ptr (HP.nxQ h) 0
 let h1 : HP := HP.newQ h (.cells true (AV.cells t0))
 let t2 : AV := AV.ptr (HP.nxQ h1) 0
 let h2 : HP := HP.newQ h1 (.cells true [.nils, (kI 0), (kI 0), (kI 0), (kI 0)])
 let t3 : AV := AV.ptr (HP.nxQ h2) 0
 let h3 : HP := HP.newQ h2 (.cells true [(kI 0), (.str []), (.str []), (.int .u32 (.ofNat 0)), (.int .u64 (.ofNat 0)), .nils, (kI 0), (kI 0)])
 cellsC 5 t1 h3 fun t6 =>
 cal D 115 [t6] h3 fun t7 h4 =>
 cal D 168 [t7] h4 fun t8 h5 =>
 extC t8 0 fun t9 =>
 extC t8 1 fun t10 =>
 let t4 : AV := AV.ptr (HP.nxQ h5) 0
 let h6 : HP := HP.newQ h5 (.cells true [(kI 0), (.str []), (.str []), (.int .u32 (.ofNat 0)), (.int .u64 (.ofNat 0)), .nils, (kI 0), (kI 0)])
 stsC 5 t1 t9 h6 fun h7 =>
 stsC 8 t4 t10 h7 fun h8 =>
 cellsC 5 t1 h8 fun t11 =>
 cellsC 8 t4 h8 fun t13 =>
 cal D 116 [t11] h8 fun t12 h9 =>
 br (again [⟨none, .cells 8 q4, p13⟩] (mkT [(p13, t13), (p4, t4)]) h9) (
 stsC 5 t2 t12 h9 fun h10 =>
 br (again [⟨none, .cells 8 q4, p13⟩] (mkT [(p13, t13), (p4, t4)]) h10) (
 stsC 8 t3 t13 h10 fun h11 =>
 XFn.endOf x139 D (.ret ⟨(mkT [(p2, t2), (p3, t3)]), h11, [], .no⟩)) none) none
def S139 : SFn := fun D m args h u => nou u <| popV args fun t0 args => endA args (S139_0 D m t0 h)
theorem T139_0 {D m E} (hE : FX x139 D m E) : S139_0 D m = e139_0 (E c139_e []) := by unfold S139_0; rw [hE c139_e]; kernel_rfl
theorem X139 (D m args h u) : S139 D m args h u = evFX x139 D m args h u := by unfold S139; rw [T139_0 (fix_ok D m (x139.endOf D))]; show _ = evFXE x139 (evE2 D m (x139.endOf D)) args h u; generalize evE2 D m (x139.endOf D) = E; kernel_rfl
/- 140 -/
def v140_0 : List Pos := []
def c140_0 : XC := (.sO [.mv p2 (.c (.int .i64 (.negSucc 0))) tI] (.s .ret))
def v140_5 : List Pos := [p28]
def c140_5 : XC := (.cond q28 (.sO [.mv p2 (ci 9) tI] (.s .ret)) (.s .skip))
def v140_4 : List Pos := [p3, p25]
def c140_4 : XC := (.cond q25 (.sO [.mv p2 (ci 8) tI] (.s .ret)) (.sj v140_5 (.sO [.bn p29 .eql q3 (.c (.str [42])) .b, .mv p28 q29 .b] (.cond q28 (.s .skip) (.sO [.bn p30 .eql q3 (.c (.str [47])) .b, .mv p28 q30 .b] (.cond q28 (.s .skip) (.s (.oX [.bn p31 .eql q3 (.c (.str [37])) .b, .mv p28 q31 .b])))))) c140_5))
def v140_3 : List Pos := [p3, p22]
def c140_3 : XC := (.cond q22 (.sO [.mv p2 (ci 7) tI] (.s .ret)) (.sj v140_4 (.sO [.bn p26 .eql q3 (.c (.str [43])) .b, .mv p25 q26 .b] (.cond q25 (.s .skip) (.s (.oX [.bn p27 .eql q3 (.c (.str [45])) .b, .mv p25 q27 .b])))) c140_4))
def v140_2 : List Pos := [p3, p17]
def c140_2 : XC := (.cond q17 (.sO [.mv p2 (ci 6) tI] (.s .ret)) (.sj v140_3 (.sO [.bn p23 .eql q3 (.c (.str [60, 60])) .b, .mv p22 q23 .b] (.cond q22 (.s .skip) (.s (.oX [.bn p24 .eql q3 (.c (.str [62, 62])) .b, .mv p22 q24 .b])))) c140_3))
def v140_1 : List Pos := [p3, p14]
def c140_1 : XC := (.cond q14 (.sO [.mv p2 (ci 5) tI] (.s .ret)) (.sj v140_2 (.sO [.bn p18 .eql q3 (.c (.str [60])) .b, .mv p17 q18 .b] (.cond q17 (.s .skip) (.sO [.bn p19 .eql q3 (.c (.str [60, 61])) .b, .mv p17 q19 .b] (.cond q17 (.s .skip) (.sO [.bn p20 .eql q3 (.c (.str [62])) .b, .mv p17 q20 .b] (.cond q17 (.s .skip) (.s (.oX [.bn p21 .eql q3 (.c (.str [62, 61])) .b, .mv p17 q21 .b])))))))) c140_2))
def c140_e : XC := (.sO [.mv p2 (ci 0) tI] (.sj v140_0 (.sO [.mv p3 q0 .s] (.block 0 (.sO [.bn p5 .eql q3 (.c (.str [124, 124])) .b, .mv p4 q5 .b] (.cond q4 (.sO [.mv p2 (ci 0) tI] (.s .ret)) (.sO [.bn p7 .eql q3 (.c (.str [38, 38])) .b, .mv p6 q7 .b] (.cond q6 (.sO [.mv p2 (ci 1) tI] (.s .ret)) (.sO [.bn p9 .eql q3 (.c (.str [124])) .b, .mv p8 q9 .b] (.cond q8 (.sO [.mv p2 (ci 2) tI] (.s .ret)) (.sO [.bn p11 .eql q3 (.c (.str [94])) .b, .mv p10 q11 .b] (.cond q10 (.sO [.mv p2 (ci 3) tI] (.s .ret)) (.sO [.bn p13 .eql q3 (.c (.str [38])) .b, .mv p12 q13 .b] (.cond q12 (.sO [.mv p2 (ci 4) tI] (.s .ret)) (.sj v140_1 (.sO [.bn p15 .eql q3 (.c (.str [61, 61])) .b, .mv p14 q15 .b] (.cond q14 (.s .skip) (.s (.oX [.bn p16 .eql q3 (.c (.str [33, 61])) .b, .mv p14 q16 .b])))) c140_1))))))))))))) c140_0))
def x140 : XFn := ⟨[.s], false, [(.tmp p2)], c140_e⟩
def e140_0 (k) (h) := kN k [] h
def S140_0 (D : CallD) (m : Nat) (h : HP) : Res2 :=
 some (.ret (vI (Int.negSucc 0)) h, .no)
def e140_5 (k) (t28 : Bool) (h) := kN k [(p28, (vB t28))] h
def S140_5 (D : CallD) (m : Nat) (t28 : Bool) (h : HP) : Res2 :=
 br t28 (
 some (.ret (vI (Int.ofNat 9)) h, .no)) (
 S140_0 D m h)
def e140_4 (k) (t3 : LN) (t25 : Bool) (h) := kN k [(p3, (vS t3)), (p25, (vB t25))] h
def S140_4 (D : CallD) (m : Nat) (t3 : LN) (t25 : Bool) (h : HP) : Res2 :=
 br t25 (
 some (.ret (vI (Int.ofNat 8)) h, .no)) (
 let t29 : Bool := eqL t3 ([42] : LN)
 br t29 (
 S140_5 D m t29 h) (
 let t30 : Bool := eqL t3 ([47] : LN)
 br t30 (
 S140_5 D m t30 h) (
 let t31 : Bool := eqL t3 ([37] : LN)
 S140_5 D m t31 h)))
def e140_3 (k) (t3 : LN) (t22 : Bool) (h) := kN k [(p3, (vS t3)), (p22, (vB t22))] h
def S140_3 (D : CallD) (m : Nat) (t3 : LN) (t22 : Bool) (h : HP) : Res2 :=
 br t22 (
 some (.ret (vI (Int.ofNat 7)) h, .no)) (
 let t26 : Bool := eqL t3 ([43] : LN)
 br t26 (
 S140_4 D m t3 t26 h) (
 let t27 : Bool := eqL t3 ([45] : LN)
 S140_4 D m t3 t27 h))
def e140_2 (k) (t3 : LN) (t17 : Bool) (h) := kN k [(p3, (vS t3)), (p17, (vB t17))] h
def S140_2 (D : CallD) (m : Nat) (t3 : LN) (t17 : Bool) (h : HP) : Res2 :=
 br t17 (
 some (.ret (vI (Int.ofNat 6)) h, .no)) (
 let t23 : Bool := eqL t3 ([60, 60] : LN)
 br t23 (
 S140_3 D m t3 t23 h) (
 let t24 : Bool := eqL t3 ([62, 62] : LN)
 S140_3 D m t3 t24 h))
def e140_1 (k) (t3 : LN) (t14 : Bool) (h) := kN k [(p3, (vS t3)), (p14, (vB t14))] h
def S140_1 (D : CallD) (m : Nat) (t3 : LN) (t14 : Bool) (h : HP) : Res2 :=
 br t14 (
 some (.ret (vI (Int.ofNat 5)) h, .no)) (
 let t18 : Bool := eqL t3 ([60] : LN)
 br t18 (
 S140_2 D m t3 t18 h) (
 let t19 : Bool := eqL t3 ([60, 61] : LN)
 br t19 (
 S140_2 D m t3 t19 h) (
 let t20 : Bool := eqL t3 ([62] : LN)
 br t20 (
 S140_2 D m t3 t20 h) (
 let t21 : Bool := eqL t3 ([62, 61] : LN)
 S140_2 D m t3 t21 h))))
def e140_6 (k) (t0 : LN) (h) := kN k [(p0, (vS t0))] h
def S140_6 (D : CallD) (m : Nat) (t0 : LN) (h : HP) : Res2 :=
 let t5 : Bool := eqL t0 ([124, 124] : LN)
 br t5 (
 some (.ret (vI (Int.ofNat 0)) h, .no)) (
 let t7 : Bool := eqL t0 ([38, 38] : LN)
 br t7 (
 some (.ret (vI (Int.ofNat 1)) h, .no)) (
 let t9 : Bool := eqL t0 ([124] : LN)
 br t9 (
 some (.ret (vI (Int.ofNat 2)) h, .no)) (
 let t11 : Bool := eqL t0 ([94] : LN)
 br t11 (
 some (.ret (vI (Int.ofNat 3)) h, .no)) (
 let t13 : Bool := eqL t0 ([38] : LN)
 br t13 (
 some (.ret (vI (Int.ofNat 4)) h, .no)) (
 let t15 : Bool := eqL t0 ([61, 61] : LN)
 br t15 (
 S140_1 D m t0 t15 h) (
 let t16 : Bool := eqL t0 ([33, 61] : LN)
 S140_1 D m t0 t16 h))))))
def S140 : SFn := fun D m args h u => nou u <| popS args fun t0 args => endA args (S140_6 D m t0 h)
theorem T140_0 {D m E} (hE : FX x140 D m E) : S140_0 D m = e140_0 (E c140_0 []) := by unfold S140_0; rw [hE c140_0]; kernel_rfl
theorem T140_5 {D m E} (hE : FX x140 D m E) : S140_5 D m = e140_5 (E c140_5 [.blk 0, .sj v140_0 c140_0]) := by unfold S140_5; rw [T140_0 hE, hE c140_5]; kernel_rfl
theorem T140_4 {D m E} (hE : FX x140 D m E) : S140_4 D m = e140_4 (E c140_4 [.blk 0, .sj v140_0 c140_0]) := by unfold S140_4; rw [T140_5 hE, hE c140_4]; kernel_rfl
theorem T140_3 {D m E} (hE : FX x140 D m E) : S140_3 D m = e140_3 (E c140_3 [.blk 0, .sj v140_0 c140_0]) := by unfold S140_3; rw [T140_4 hE, hE c140_3]; kernel_rfl
theorem T140_2 {D m E} (hE : FX x140 D m E) : S140_2 D m = e140_2 (E c140_2 [.blk 0, .sj v140_0 c140_0]) := by unfold S140_2; rw [T140_3 hE, hE c140_2]; kernel_rfl
theorem T140_1 {D m E} (hE : FX x140 D m E) : S140_1 D m = e140_1 (E c140_1 [.blk 0, .sj v140_0 c140_0]) := by unfold S140_1; rw [T140_2 hE, hE c140_1]; kernel_rfl
theorem T140_6 {D m E} (hE : FX x140 D m E) : S140_6 D m = e140_6 (E c140_e []) := by unfold S140_6; rw [T140_1 hE, hE c140_e]; kernel_rfl
theorem X140 (D m args h u) : S140 D m args h u = evFX x140 D m args h u := by unfold S140; rw [T140_6 (fix_ok D m (x140.endOf D))]; show _ = evFXE x140 (evE2 D m (x140.endOf D)) args h u; generalize evE2 D m (x140.endOf D) = E; kernel_rfl
/- 142 -/
def v142_3 : List Pos := [p1, p2]
def c142_3 : XC := (.sO [.L p207 (.cells 8 q1) .v, .ss 8 q2 q207, .mv p3 (ci 0) tI] (.s .ret))
def v142_6 : List Pos := [p1, p2, p6]
def c142_6 : XC := (.sO [.al p150 (.bsl [(.str []), (.str []), (.str []), (.str []), (.str []), (.str []), (.str []), (.str [])] 8 [⟨0, 1, (.c (.str [37]))⟩, ⟨1, 1, (.c (.str [60, 60]))⟩, ⟨2, 1, (.c (.str [62, 62]))⟩, ⟨3, 1, (.c (.str [38]))⟩, ⟨4, 1, (.c (.str [94]))⟩, ⟨5, 1, (.c (.str [124]))⟩, ⟨6, 1, (.c (.str [38, 38]))⟩, ⟨7, 1, (.c (.str [124, 124]))⟩]), .fa p151 1 q1, .ld p152 q151 .s, .cl p153 170 [q150, q152] .b, .mv p154 q153 .b, .ge p154 (XL.of [.G p154 true p155 (.mov q6) .b, .P p156 (.pick q154 q155 (cb false)) .b]) p156 .b] (.cond q156 (.sO [.L p157 (.cells 8 q1) .v, .ss 8 q2 q157, .mv p3 (ci 1) tI] (.s .ret)) (.s .skip)))
def v142_7 : List Pos := [p1, p2, p6, p8]
def c142_7 : XC := (.sO [.mv p148 q8 .b] (.cond q148 (.sO [.L p149 (.cells 8 q1) .v, .ss 8 q2 q149, .mv p3 (ci 1) tI] (.s .ret)) (.s .skip)))
def v142_5 : List Pos := [p1, p2, p4, p5, p6, p7]
def c142_5 : XC := (.seq (.seq (.oX [.al p105 (.bsl [(.str []), (.str []), (.str []), (.str [])] 4 [⟨0, 1, (.c (.str [60]))⟩, ⟨1, 1, (.c (.str [60, 61]))⟩, ⟨2, 1, (.c (.str [62]))⟩, ⟨3, 1, (.c (.str [62, 61]))⟩]), .fa p106 1 q1, .ld p107 q106 .s, .cl p108 170 [q105, q107] .b, .mv p109 q108 .b, .ge p109 (XL.of [.G p109 true p110 (.mov q7) .b, .P p111 (.pick q109 q110 (cb false)) .b]) p111 .b]) (.cond q111 (.seq (.oX [.L p112 (.cells 8 q1) .v, .ss 8 q2 q112, .mv p3 (ci 1) tI]) .ret) .skip)) (.sj v142_6 (.sO [.al p113 (.bsl [(.str []), (.str [])] 2 [⟨0, 1, (.c (.str [61, 61]))⟩, ⟨1, 1, (.c (.str [33, 61]))⟩]), .fa p114 1 q1, .ld p115 q114 .s, .cl p116 170 [q113, q115] .b] (.cond q116 (.sO [.mv p117 q7 .b, .mv p8 q117 .b] (.sj v142_7 (.sO [.mv p118 q4 tI, .cl p119 143 [q118] tI, .bn p120 .neq q119 (ci 0) .b] (.cond q120 (.s (.ops true (XL.of [.fa p122 5 q1, .ld p123 q122 .v, .fa p124 5 q1, .ld p125 q124 .v, .P p126 (.iaddr (.sl 8) q125 (ci 1)) .v, .L p127 (.cells 8 q126) .v, .mv p128 q4 tI, .o ⟨(some p129), (.call (.fn 118) [q127, q128]), none, [⟨none, .cell q122, p123⟩]⟩ .v, .mv p121 q129 .v, .P p130 (.ext q121 0) .v, .P p131 (.ext q121 1) .b, .P p132 (.iaddr (.sl 8) q123 (ci 1)) .v, .ss 8 q132 q130, .mv p8 q131 .b]))) (.sO [.mv p133 q5 tI, .cl p134 143 [q133] tI, .bn p135 .neq q134 (ci 0) .b] (.cond q135 (.s (.ops true (XL.of [.fa p137 5 q1, .ld p138 q137 .v, .fa p139 5 q1, .ld p140 q139 .v, .P p141 (.iaddr (.sl 8) q140 (ci 0)) .v, .L p142 (.cells 8 q141) .v, .mv p143 q5 tI, .o ⟨(some p144), (.call (.fn 118) [q142, q143]), none, [⟨none, .cell q137, p138⟩]⟩ .v, .mv p136 q144 .v, .P p145 (.ext q136 0) .v, .P p146 (.ext q136 1) .b, .P p147 (.iaddr (.sl 8) q138 (ci 0)) .v, .ss 8 q147 q145, .mv p8 q146 .b]))) (.s .skip))))) c142_7)) (.s .skip))) c142_6))
def c142_11 : XC := (.cond q102 (.sO [.L p103 (.cells 8 q1) .v, .mv p104 q4 tI, .ss 8 q2 q103, .mv p3 q104 tI] (.s .ret)) (.s .skip))
def l142_10 : XL := (XL.of [])
def l142_9 : XL := (XL.pre [.mv p94 q93 .b, .sp p94, .o ⟨(some p95), (.a (.bsl [(.str []), (.str [])] 2 [⟨0, 1, (.c (.str [42]))⟩, ⟨1, 1, (.c (.str [47]))⟩])), (some (p94, false)), []⟩ .v, .G p94 false p96 (.faddr 1 q1) .v, .o ⟨(some p97), (.l (.cell q96)), (some (p94, false)), []⟩ .s, .o ⟨(some p98), (.call (.fn 170) [q95, q97]), (some (p94, false)), []⟩ .b, .G p94 false p99 (.mov q98) .b, .ge p99 (XL.of [.G p99 true p100 (.mov q7) .b, .G p94 false p101 (.pick q99 q100 (cb false)) .b]) p101 .b, .P p102 (.pick q94 (cb true) q101) .b, .jn p94 [p1, p2, p4, p5, p6, p7, p102]] l142_10)
def l142_8 : XL := (XL.pre [.P p93 (.pick q82 q92 (cb false)) .b, .jn p82 [p1, p2, p4, p5, p6, p7, p93]] l142_9)
def c142_13 : XC := (.cond q179 (.sO [.L p180 (.cells 8 q1) .v, .mv p181 q4 tI, .ss 8 q2 q180, .mv p3 q181 tI] (.s .ret)) (.s .skip))
def l142_12 : XL := (XL.of [])
def v142_4 : List Pos := [p1, p2, p4, p5, p6, p7, p41, p42]
def c142_4 : XC := (.cond q42 (.seq (.ops true (XL.of [.L p45 (.cells 8 q1) .v, .fa p46 0 q1, .ld p47 q46 tI, .o ⟨none, (.e (.stores 8 q2 q45)), none, [⟨none, .cell q46, p47⟩]⟩ .v, .mv p3 q47 tI])) (.s .ret)) (.sO [.bn p49 .eql q41 (ci 4) .b, .mv p48 q49 .b] (.cond q48 (.sO [.fa p50 1 q1, .ld p51 q50 .s] (.block 1 (.sO [.bn p56 .eql q51 (.c (.str [45])) .b, .mv p55 q56 .b] (.cond q55 (.sO [.mv p57 q4 tI, .cl p58 84 [q57] .b] (.cond q58 (.sO [.L p59 (.cells 8 q1) .v, .mv p60 q4 tI, .ss 8 q2 q59, .mv p3 q60 tI] (.s .ret)) (.s .skip))) (.sO [.bn p62 .eql q51 (.c (.str [42])) .b, .mv p61 q62 .b] (.cond q61 (.seq (.ops true (XL.of [.L p63 (.cells 8 q1) .v, .mv p64 q4 tI, .o ⟨(some p65), (.call (.fn 143) [q64]), none, [⟨none, .cells 8 q1, p63⟩]⟩ tI, .ss 8 q2 q63, .mv p3 q65 tI])) (.s .ret)) (.sO [.bn p67 .eql q51 (.c (.str [38])) .b, .mv p66 q67 .b] (.cond q66 (.sO [.fa p68 5 q1, .ld p69 q68 .v, .P p70 (.iaddr (.sl 8) q69 (ci 0)) .v, .L p71 (.cells 8 q70) .v, .cl p72 169 [q71] .b] (.cond q72 (.seq (.ops true (XL.of [.L p73 (.cells 8 q1) .v, .mv p74 q4 tI, .o ⟨(some p75), (.call (.fn 141) [q74]), none, [⟨none, .cells 8 q1, p73⟩]⟩ tI, .ss 8 q2 q73, .mv p3 q75 tI])) (.s .ret)) (.s .skip))) (.sO [.mv p52 q4 tI, .bn p53 .eql q52 (ci 1) .b] (.cond q53 (.sO [.L p54 (.cells 8 q1) .v, .ss 8 q2 q54, .mv p3 (ci 1) tI] (.s .ret)) (.s .skip))))))))))) (.sO [.bn p77 .eql q41 (ci 5) .b, .mv p76 q77 .b] (.cond q76 (.sj v142_5 (.opq false (XL.pre [.al p78 (.bsl [(.str []), (.str [])] 2 [⟨0, 1, (.c (.str [43]))⟩, ⟨1, 1, (.c (.str [45]))⟩]), .fa p79 1 q1, .ld p80 q79 .s, .cl p81 170 [q78, q80] .b, .mv p82 q81 .b, .sp p82, .G p82 true p83 (.mov q7) .b, .G p82 true p84 (.mov q83) .b, .sp p84, .G p84 false p85 (.mov q4) tI, .o ⟨(some p86), (.call (.fn 143) [q85]), (some (p84, false)), []⟩ tI, .G p84 false p87 (.bin .neq q86 (ci 0)) .b, .G p84 false p88 (.mov q87) .b, .ge p88 (XL.of [.G p88 true p89 (.mov q5) tI, .G p88 true p90 (.bin .eql q89 (ci 1)) .b, .G p84 false p91 (.pick q88 q90 (cb false)) .b]) p91 .b, .G p82 true p92 (.pick q84 (cb true) q91) .b, .jn p84 [p1, p2, p4, p5, p6, p7, p82, p92]] l142_8) c142_11) c142_5) (.sO [.bn p159 .eql q41 (ci 6) .b, .mv p158 q159 .b] (.cond q158 (.seq (.ops true (XL.of [.fa p161 5 q1, .ld p162 q161 .v, .fa p163 5 q1, .ld p164 q163 .v, .P p165 (.iaddr (.sl 8) q164 (ci 1)) .v, .L p166 (.cells 8 q165) .v, .mv p167 q4 tI, .o ⟨(some p168), (.call (.fn 118) [q166, q167]), none, [⟨none, .cell q161, p162⟩]⟩ .v, .mv p160 q168 .v, .P p169 (.ext q160 0) .v, .P p170 (.ext q160 1) .b, .P p171 (.iaddr (.sl 8) q162 (ci 1)) .v, .ss 8 q171 q169, .mv p8 q170 .b])) (.opq false (XL.pre [.mv p172 q8 .b, .mv p173 q172 .b, .sp p173, .G p173 true p174 (.faddr 5 q1) .v, .o ⟨(some p175), (.l (.cell q174)), (some (p173, true)), []⟩ .v, .G p173 true p176 (.iaddr (.sl 8) q175 (ci 0)) .v, .o ⟨(some p177), (.l (.cells 8 q176)), (some (p173, true)), []⟩ .v, .o ⟨(some p178), (.call (.fn 169) [q177]), (some (p173, true)), []⟩ .b, .P p179 (.pick q173 q178 (cb false)) .b, .jn p173 [p1, p2, p4, p179]] l142_12) c142_13)) (.sO [.bn p183 .eql q41 (ci 8) .b, .mv p182 q183 .b] (.cond q182 (.sO [.mv p184 q5 tI, .bn p185 .eql q184 (ci 1) .b] (.cond q185 (.seq (.ops true (XL.of [.L p186 (.cells 8 q1) .v, .mv p187 q4 tI, .o ⟨(some p188), (.call (.fn 143) [q187]), none, [⟨none, .cells 8 q1, p186⟩]⟩ tI, .ss 8 q2 q186, .mv p3 q188 tI])) (.s .ret)) (.s .skip))) (.sO [.bn p190 .eql q41 (ci 9) .b, .mv p189 q190 .b] (.cond q189 (.sO [.mv p191 q4 tI, .cl p192 84 [q191] .b, .mv p193 q192 .b, .ge p193 (XL.of [.G p193 true p194 (.faddr 3 q1) .v, .o ⟨(some p195), (.l (.cell q194)), (some (p193, true)), []⟩ tW, .G p193 true p196 (.bin .eql q195 (.c (.int .u32 (.ofNat 1)))) .b, .G p193 true p197 (.mov q196) .b, .ge p197 (XL.of [.G p197 false p198 (.faddr 3 q1) .v, .o ⟨(some p199), (.l (.cell q198)), (some (p197, false)), []⟩ tW, .G p197 false p200 (.bin .eql q199 (.c (.int .u32 (.ofNat 2)))) .b, .G p193 true p201 (.pick q197 (cb true) q200) .b]) p201 .b, .P p202 (.pick q193 q201 (cb false)) .b]) p202 .b] (.cond q202 (.seq (.ops true (XL.of [.L p203 (.cells 8 q1) .v, .fa p204 3 q1, .ld p205 q204 tW, .P p206 (.conv (.ii .i64) q205) tI, .o ⟨none, (.e (.stores 8 q2 q203)), none, [⟨none, .cell q204, p205⟩]⟩ .v, .mv p3 q206 tI])) (.s .ret)) (.s .skip))) (.s .skip))))))))))))
def c142_14 : XC := (.sO [.mv p8 (cb false) .b] (.sj v142_3 (.sO [.fa p40 0 q1, .ld p41 q40 tI] (.block 0 (.sj v142_4 (.sO [.bn p43 .eql q41 (ci 1) .b, .mv p42 q43 .b] (.cond q42 (.s .skip) (.s (.oX [.bn p44 .eql q41 (ci 2) .b, .mv p42 q44 .b])))) c142_4))) c142_3))
def l142_2 : XL := (XL.of [.mv p6 q32 .b, .mv p7 q39 .b])
def v142_1 : List Pos := [p1, p2, p4, p5]
def c142_1 : XC := (.opq false (XL.pre [.mv p27 q4 tI, .bn p28 .eql q27 (ci 1) .b, .mv p29 q28 .b, .ge p29 (XL.of [.G p29 true p30 (.mov q5) tI, .G p29 true p31 (.bin .eql q30 (ci 1)) .b, .P p32 (.pick q29 q31 (cb false)) .b]) p32 .b, .mv p33 q4 tI, .mv p34 q5 tI, .bn p35 .eql q33 q34 .b, .mv p36 q35 .b, .sp p36, .G p36 true p37 (.mov q4) tI, .o ⟨(some p38), (.call (.fn 84) [q37]), (some (p36, true)), []⟩ .b, .P p39 (.pick q36 q38 (cb false)) .b, .jn p36 [p1, p2, p4, p5, p32, p39]] l142_2) c142_14)
def v142_0 : List Pos := [p1, p2, p4, p5]
def c142_0 : XC := (.sj v142_1 (.sO [.fa p18 5 q1, .ld p19 q18 .v, .P p20 (.lenl q19) tI, .bn p21 .gtr q20 (ci 1) .b] (.cond q21 (.s (.oX [.fa p22 5 q1, .ld p23 q22 .v, .P p24 (.iaddr (.sl 8) q23 (ci 1)) .v, .fa p25 6 q24, .ld p26 q25 tI, .mv p5 q26 tI])) (.s .skip))) c142_1)
def c142_e : XC := (.sO [.al p1 (.box q0), .al p2 (.new [(kI 0), (.str []), (.str []), (.int .u32 (.ofNat 0)), (.int .u64 (.ofNat 0)), .nils, (kI 0), (kI 0)]), .mv p3 (ci 0) tI] (.sO [.mv p4 (ci 0) tI, .mv p5 (ci 0) tI] (.sj v142_0 (.sO [.fa p9 5 q1, .ld p10 q9 .v, .P p11 (.lenl q10) tI, .bn p12 .gtr q11 (ci 0) .b] (.cond q12 (.s (.oX [.fa p13 5 q1, .ld p14 q13 .v, .P p15 (.iaddr (.sl 8) q14 (ci 0)) .v, .fa p16 6 q15, .ld p17 q16 tI, .mv p4 q17 tI])) (.s .skip))) c142_0)))
def x142 : XFn := ⟨[.v], false, [(.cells 8 p2), (.tmp p3)], c142_e⟩
def e142_3 (k) (t1 : AV) (t2 : AV) (h) := kN k [(p1, t1), (p2, t2)] h
def S142_3 (D : CallD) (m : Nat) (t1 : AV) (t2 : AV) (h : HP) : Res2 :=
 cellsC 8 t1 h fun t207 =>
 stsC 8 t2 t207 h fun h19 =>
 XFn.endOf x142 D (.ret ⟨(mkT [(p2, t2), (p3, (vI (Int.ofNat 0)))]), h19, [], .no⟩)
def e142_6 (k) (t1 : AV) (t2 : AV) (t6 : Bool) (h) := kN k [(p1, t1), (p2, t2), (p6, (vB t6))] h
def S142_6 (D : CallD) (m : Nat) (t1 : AV) (t2 : AV) (t6 : Bool) (h : HP) : Res2 :=
 let t150 : AV := AV.slice (HP.nxQ h) 0 8 (.exact 8)
 let h32 : HP := HP.newQ h (.cells true [(vS ([37] : LN)), (vS ([60, 60] : LN)), (vS ([62, 62] : LN)), (vS ([38] : LN)), (vS ([94] : LN)), (vS ([124] : LN)), (vS ([38, 38] : LN)), (vS ([124, 124] : LN))])
 faC 1 t1 fun t151 =>
 ldS t151 h32 fun t152 =>
 cal D 170 [t150, (vS t152)] h32 fun t153 h33 =>
 asB t153 fun t153a =>
 obB (brV t153a (
 some (vB t6)) (
 some (vB false))) fun t156 =>
 br t156 (
 cellsC 8 t1 h33 fun t157 =>
 stsC 8 t2 t157 h33 fun h34 =>
 XFn.endOf x142 D (.ret ⟨(mkT [(p2, t2), (p3, (vI (Int.ofNat 1)))]), h34, [], .no⟩)) (
 S142_3 D m t1 t2 h33)
def e142_7 (k) (t1 : AV) (t2 : AV) (t6 : Bool) (t8 : Bool) (h) := kN k [(p1, t1), (p2, t2), (p6, (vB t6)), (p8, (vB t8))] h
def S142_7 (D : CallD) (m : Nat) (t1 : AV) (t2 : AV) (t6 : Bool) (t8 : Bool) (h : HP) : Res2 :=
 br t8 (
 cellsC 8 t1 h fun t149 =>
 stsC 8 t2 t149 h fun h37 =>
 XFn.endOf x142 D (.ret ⟨(mkT [(p2, t2), (p3, (vI (Int.ofNat 1)))]), h37, [], .no⟩)) (
 S142_6 D m t1 t2 t6 h)
def e142_5 (k) (t1 : AV) (t2 : AV) (t4 : Int) (t5 : Int) (t6 : Bool) (t7 : Bool) (h) := kN k [(p1, t1), (p2, t2), (p4, (vI t4)), (p5, (vI t5)), (p6, (vB t6)), (p7, (vB t7))] h
def S142_5 (D : CallD) (m : Nat) (t1 : AV) (t2 : AV) (t4 : Int) (t5 : Int) (t6 : Bool) (t7 : Bool) (h : HP) : Res2 :=
 let t105 : AV := AV.slice (HP.nxQ h) 0 4 (.exact 4)
 let h29 : HP := HP.newQ h (.cells true [(vS ([60] : LN)), (vS ([60, 61] : LN)), (vS ([62] : LN)), (vS ([62, 61] : LN))])
 faC 1 t1 fun t106 =>
 ldS t106 h29 fun t107 =>
 cal D 170 [t105, (vS t107)] h29 fun t108 h30 =>
 asB t108 fun t108a =>
 obB (brV t108a (
 some (vB t7)) (
 some (vB false))) fun t111 =>
 br t111 (
 cellsC 8 t1 h30 fun t112 =>
 stsC 8 t2 t112 h30 fun h31 =>
 XFn.endOf x142 D (.ret ⟨(mkT [(p2, t2), (p3, (vI (Int.ofNat 1)))]), h31, [], .no⟩)) (
 let t113 : AV := AV.slice (HP.nxQ h30) 0 2 (.exact 2)
 let h35 : HP := HP.newQ h30 (.cells true [(vS ([61, 61] : LN)), (vS ([33, 61] : LN))])
 faC 1 t1 fun t114 =>
 ldS t114 h35 fun t115 =>
 cal D 170 [t113, (vS t115)] h35 fun t116 h36 =>
 asB t116 fun t116a =>
 br t116a (
 cal D 143 [(vI t4)] h36 fun t119 h38 =>
 asI .i64 t119 fun t119a =>
 let t120 : Bool := notQ (eqQ t119a (Int.ofNat 0))
 br t120 (
 faC 5 t1 fun t122 =>
 cellC t122 h38 fun t123 =>
 faC 5 t1 fun t124 =>
 cellC t124 h38 fun t125 =>
 iasC 8 t125 (vI (Int.ofNat 1)) fun t126 =>
 cellsC 8 t126 h38 fun t127 =>
 cal D 118 [t127, (vI t4)] h38 fun t129 h39 =>
 br (again [⟨none, .cell q122, p123⟩] (mkT [(p123, t123), (p122, t122)]) h39) (
 extC t129 0 fun t130 =>
 extC t129 1 fun vt131 => asB vt131 fun t131 =>
 iasC 8 t123 (vI (Int.ofNat 1)) fun t132 =>
 stsC 8 t132 t130 h39 fun h40 =>
 S142_7 D m t1 t2 t6 t131 h40) none) (
 cal D 143 [(vI t5)] h38 fun t134 h41 =>
 asI .i64 t134 fun t134a =>
 let t135 : Bool := notQ (eqQ t134a (Int.ofNat 0))
 br t135 (
 faC 5 t1 fun t137 =>
 cellC t137 h41 fun t138 =>
 faC 5 t1 fun t139 =>
 cellC t139 h41 fun t140 =>
 iasC 8 t140 (vI (Int.ofNat 0)) fun t141 =>
 cellsC 8 t141 h41 fun t142 =>
 cal D 118 [t142, (vI t5)] h41 fun t144 h42 =>
 br (again [⟨none, .cell q137, p138⟩] (mkT [(p138, t138), (p137, t137)]) h42) (
 extC t144 0 fun t145 =>
 extC t144 1 fun vt146 => asB vt146 fun t146 =>
 iasC 8 t138 (vI (Int.ofNat 0)) fun t147 =>
 stsC 8 t147 t145 h42 fun h43 =>
 S142_7 D m t1 t2 t6 t146 h43) none) (
 S142_7 D m t1 t2 t6 t7 h41))) (
 S142_6 D m t1 t2 t6 h36))
def e142_10 (k) (t1 : AV) (t2 : AV) (t4 : Int) (t5 : Int) (t6 : Bool) (t7 : Bool) (t102 : Bool) (h) := kN k [(p1, t1), (p2, t2), (p4, (vI t4)), (p5, (vI t5)), (p6, (vB t6)), (p7, (vB t7)), (p102, (vB t102))] h
def S142_10 (D : CallD) (m : Nat) (t1 : AV) (t2 : AV) (t4 : Int) (t5 : Int) (t6 : Bool) (t7 : Bool) (t102 : Bool) (h : HP) : Res2 :=
 br t102 (
 cellsC 8 t1 h fun t103 =>
 stsC 8 t2 t103 h fun h46 =>
 XFn.endOf x142 D (.ret ⟨(mkT [(p2, t2), (p3, (vI t4))]), h46, [], .no⟩)) (
 S142_5 D m t1 t2 t4 t5 t6 t7 h)
def e142_9 (k) (t1 : AV) (t2 : AV) (t4 : Int) (t5 : Int) (t6 : Bool) (t7 : Bool) (t93 : Bool) (h) := kN k [(p1, t1), (p2, t2), (p4, (vI t4)), (p5, (vI t5)), (p6, (vB t6)), (p7, (vB t7)), (p93, (vB t93))] h
def S142_9 (D : CallD) (m : Nat) (t1 : AV) (t2 : AV) (t4 : Int) (t5 : Int) (t6 : Bool) (t7 : Bool) (t93 : Bool) (h : HP) : Res2 :=
 br t93 (
 S142_10 D m t1 t2 t4 t5 t6 t7 true h) (
 let t95 : AV := AV.slice (HP.nxQ h) 0 2 (.exact 2)
 let h47 : HP := HP.newQ h (.cells true [(vS ([42] : LN)), (vS ([47] : LN))])
 faC 1 t1 fun t96 =>
 ldS t96 h47 fun t97 =>
 cal D 170 [t95, (vS t97)] h47 fun t98 h48 =>
 asB t98 fun t98a =>
 obB (brV t98a (
 some (vB t7)) (
 some (vB false))) fun t101 =>
 S142_10 D m t1 t2 t4 t5 t6 t7 t101 h48)
def e142_8 (k) (t1 : AV) (t2 : AV) (t4 : Int) (t5 : Int) (t6 : Bool) (t7 : Bool) (t82 : Bool) (t92 : Bool) (h) := kN k [(p1, t1), (p2, t2), (p4, (vI t4)), (p5, (vI t5)), (p6, (vB t6)), (p7, (vB t7)), (p82, (vB t82)), (p92, (vB t92))] h
def S142_8 (D : CallD) (m : Nat) (t1 : AV) (t2 : AV) (t4 : Int) (t5 : Int) (t6 : Bool) (t7 : Bool) (t82 : Bool) (t92 : Bool) (h : HP) : Res2 :=
 obB (brV t82 (some (vB t92)) (some (vB false))) fun t93 =>
 S142_9 D m t1 t2 t4 t5 t6 t7 t93 h
def e142_12 (k) (t1 : AV) (t2 : AV) (t4 : Int) (t179 : Bool) (h) := kN k [(p1, t1), (p2, t2), (p4, (vI t4)), (p179, (vB t179))] h
def S142_12 (D : CallD) (m : Nat) (t1 : AV) (t2 : AV) (t4 : Int) (t179 : Bool) (h : HP) : Res2 :=
 br t179 (
 cellsC 8 t1 h fun t180 =>
 stsC 8 t2 t180 h fun h53 =>
 XFn.endOf x142 D (.ret ⟨(mkT [(p2, t2), (p3, (vI t4))]), h53, [], .no⟩)) (
 S142_3 D m t1 t2 h)
def e142_4 (k) (t1 : AV) (t2 : AV) (t4 : Int) (t5 : Int) (t6 : Bool) (t7 : Bool) (t41 : Int) (t42 : Bool) (h) := kN k [(p1, t1), (p2, t2), (p4, (vI t4)), (p5, (vI t5)), (p6, (vB t6)), (p7, (vB t7)), (p41, (vI t41)), (p42, (vB t42))] h
def S142_4 (D : CallD) (m : Nat) (t1 : AV) (t2 : AV) (t4 : Int) (t5 : Int) (t6 : Bool) (t7 : Bool) (t41 : Int) (t42 : Bool) (h : HP) : Res2 :=
 br t42 (
 cellsC 8 t1 h fun t45 =>
 faC 0 t1 fun t46 =>
 ldI t46 h fun t47 =>
 stsC 8 t2 t45 h fun h20 =>
 br (again [⟨none, .cell q46, p47⟩] (mkT [(p47, (vI t47)), (p46, t46)]) h20) (
 XFn.endOf x142 D (.ret ⟨(mkT [(p2, t2), (p3, (vI t47))]), h20, [], .no⟩)) none) (
 let t49 : Bool := eqQ t41 (Int.ofNat 4)
 br t49 (
 faC 1 t1 fun t50 =>
 ldS t50 h fun t51 =>
 let t56 : Bool := eqL t51 ([45] : LN)
 br t56 (
 cal D 84 [(vI t4)] h fun t58 h21 =>
 asB t58 fun t58a =>
 br t58a (
 cellsC 8 t1 h21 fun t59 =>
 stsC 8 t2 t59 h21 fun h22 =>
 XFn.endOf x142 D (.ret ⟨(mkT [(p2, t2), (p3, (vI t4))]), h22, [], .no⟩)) (
 S142_3 D m t1 t2 h21)) (
 let t62 : Bool := eqL t51 ([42] : LN)
 br t62 (
 cellsC 8 t1 h fun t63 =>
 cal D 143 [(vI t4)] h fun t65 h23 =>
 br (again [⟨none, .cells 8 q1, p63⟩] (mkT [(p63, t63), (p1, t1)]) h23) (
 asI .i64 t65 fun t65a =>
 stsC 8 t2 t63 h23 fun h24 =>
 XFn.endOf x142 D (.ret ⟨(mkT [(p2, t2), (p3, (vI t65a))]), h24, [], .no⟩)) none) (
 let t67 : Bool := eqL t51 ([38] : LN)
 br t67 (
 faC 5 t1 fun t68 =>
 cellC t68 h fun t69 =>
 iasC 8 t69 (vI (Int.ofNat 0)) fun t70 =>
 cellsC 8 t70 h fun t71 =>
 cal D 169 [t71] h fun t72 h25 =>
 asB t72 fun t72a =>
 br t72a (
 cellsC 8 t1 h25 fun t73 =>
 cal D 141 [(vI t4)] h25 fun t75 h26 =>
 br (again [⟨none, .cells 8 q1, p73⟩] (mkT [(p73, t73), (p1, t1)]) h26) (
 asI .i64 t75 fun t75a =>
 stsC 8 t2 t73 h26 fun h27 =>
 XFn.endOf x142 D (.ret ⟨(mkT [(p2, t2), (p3, (vI t75a))]), h27, [], .no⟩)) none) (
 S142_3 D m t1 t2 h25)) (
 let t53 : Bool := eqQ t4 (Int.ofNat 1)
 br t53 (
 cellsC 8 t1 h fun t54 =>
 stsC 8 t2 t54 h fun h28 =>
 XFn.endOf x142 D (.ret ⟨(mkT [(p2, t2), (p3, (vI (Int.ofNat 1)))]), h28, [], .no⟩)) (
 S142_3 D m t1 t2 h))))) (
 let t77 : Bool := eqQ t41 (Int.ofNat 5)
 br t77 (
 let t78 : AV := AV.slice (HP.nxQ h) 0 2 (.exact 2)
 let h44 : HP := HP.newQ h (.cells true [(vS ([43] : LN)), (vS ([45] : LN))])
 faC 1 t1 fun t79 =>
 ldS t79 h44 fun t80 =>
 cal D 170 [t78, (vS t80)] h44 fun t81 h45 =>
 asB t81 fun t81a =>
 br t81a (
 br t7 (
 S142_8 D m t1 t2 t4 t5 t6 t7 true true h45) (
 cal D 143 [(vI t4)] h45 fun t86 h49 =>
 asI .i64 t86 fun t86a =>
 let t87 : Bool := notQ (eqQ t86a (Int.ofNat 0))
 obB (brV t87 (
 let t90 : Bool := eqQ t5 (Int.ofNat 1)
 some (vB t90)) (
 some (vB false))) fun t91 =>
 S142_8 D m t1 t2 t4 t5 t6 t7 true t91 h49)) (
 S142_9 D m t1 t2 t4 t5 t6 t7 false h45)) (
 let t159 : Bool := eqQ t41 (Int.ofNat 6)
 br t159 (
 faC 5 t1 fun t161 =>
 cellC t161 h fun t162 =>
 faC 5 t1 fun t163 =>
 cellC t163 h fun t164 =>
 iasC 8 t164 (vI (Int.ofNat 1)) fun t165 =>
 cellsC 8 t165 h fun t166 =>
 cal D 118 [t166, (vI t4)] h fun t168 h50 =>
 br (again [⟨none, .cell q161, p162⟩] (mkT [(p162, t162), (p161, t161)]) h50) (
 extC t168 0 fun t169 =>
 extC t168 1 fun vt170 => asB vt170 fun t170 =>
 iasC 8 t162 (vI (Int.ofNat 1)) fun t171 =>
 stsC 8 t171 t169 h50 fun h51 =>
 br t170 (
 faC 5 t1 fun t174 =>
 cellC t174 h51 fun t175 =>
 iasC 8 t175 (vI (Int.ofNat 0)) fun t176 =>
 cellsC 8 t176 h51 fun t177 =>
 cal D 169 [t177] h51 fun t178 h52 =>
 asB t178 fun t178a =>
 S142_12 D m t1 t2 t4 t178a h52) (
 S142_12 D m t1 t2 t4 false h51)) none) (
 let t183 : Bool := eqQ t41 (Int.ofNat 8)
 br t183 (
 let t185 : Bool := eqQ t5 (Int.ofNat 1)
 br t185 (
 cellsC 8 t1 h fun t186 =>
 cal D 143 [(vI t4)] h fun t188 h54 =>
 br (again [⟨none, .cells 8 q1, p186⟩] (mkT [(p186, t186), (p1, t1)]) h54) (
 asI .i64 t188 fun t188a =>
 stsC 8 t2 t186 h54 fun h55 =>
 XFn.endOf x142 D (.ret ⟨(mkT [(p2, t2), (p3, (vI t188a))]), h55, [], .no⟩)) none) (
 S142_3 D m t1 t2 h)) (
 let t190 : Bool := eqQ t41 (Int.ofNat 9)
 br t190 (
 cal D 84 [(vI t4)] h fun t192 h56 =>
 asB t192 fun t192a =>
 obB (brV t192a (
 faCV 3 t1 fun t194 =>
 ldWV t194 h56 fun t195 =>
 let t196 : Bool := eqQ t195 (Int.ofNat 1)
 obBV (brV t196 (
 some (vB true)) (
 faCV 3 t1 fun t198 =>
 ldWV t198 h56 fun t199 =>
 let t200 : Bool := eqQ t199 (Int.ofNat 2)
 some (vB t200))) fun t201 =>
 some (vB t201)) (
 some (vB false))) fun t202 =>
 br t202 (
 cellsC 8 t1 h56 fun t203 =>
 faC 3 t1 fun t204 =>
 ldW t204 h56 fun t205 =>
 let t206 : Int := wrapF .i64 t205
 stsC 8 t2 t203 h56 fun h57 =>
 br (again [⟨none, .cell q204, p205⟩] (mkT [(p205, (vW t205)), (p204, t204)]) h57) (
 XFn.endOf x142 D (.ret ⟨(mkT [(p2, t2), (p3, (vI t206))]), h57, [], .no⟩)) none) (
 S142_3 D m t1 t2 h56)) (
 S142_3 D m t1 t2 h))))))
def e142_2 (k) (t1 : AV) (t2 : AV) (t4 : Int) (t5 : Int) (t32 : Bool) (t39 : Bool) (h) := kN k [(p1, t1), (p2, t2), (p4, (vI t4)), (p5, (vI t5)), (p32, (vB t32)), (p39, (vB t39))] h
def S142_2 (D : CallD) (m : Nat) (t1 : AV) (t2 : AV) (t4 : Int) (t5 : Int) (t32 : Bool) (t39 : Bool) (h : HP) : Res2 :=
 faC 0 t1 fun t40 =>
 ldI t40 h fun t41 =>
 let t43 : Bool := eqQ t41 (Int.ofNat 1)
 br t43 (
 S142_4 D m t1 t2 t4 t5 t32 t39 t41 t43 h) (
 let t44 : Bool := eqQ t41 (Int.ofNat 2)
 S142_4 D m t1 t2 t4 t5 t32 t39 t41 t44 h)
def e142_1 (k) (t1 : AV) (t2 : AV) (t4 : Int) (t5 : Int) (h) := kN k [(p1, t1), (p2, t2), (p4, (vI t4)), (p5, (vI t5))] h
def S142_1 (D : CallD) (m : Nat) (t1 : AV) (t2 : AV) (t4 : Int) (t5 : Int) (h : HP) : Res2 :=
 let t28 : Bool := eqQ t4 (Int.ofNat 1)
 obB (brV t28 (
 let t31 : Bool := eqQ t5 (Int.ofNat 1)
 some (vB t31)) (
 some (vB false))) fun t32 =>
 let t35 : Bool := eqQ t4 t5
 br t35 (
 cal D 84 [(vI t4)] h fun t38 h18 =>
 asB t38 fun t38a =>
 S142_2 D m t1 t2 t4 t5 t32 t38a h18) (
 S142_2 D m t1 t2 t4 t5 t32 false h)
def e142_0 (k) (t1 : AV) (t2 : AV) (t4 : Int) (t5 : Int) (h) := kN k [(p1, t1), (p2, t2), (p4, (vI t4)), (p5, (vI t5))] h
def S142_0 (D : CallD) (m : Nat) (t1 : AV) (t2 : AV) (t4 : Int) (t5 : Int) (h : HP) : Res2 :=
 faC 5 t1 fun t18 =>
 cellC t18 h fun t19 =>
 lenC t19 fun vt20 => asI .i64 vt20 fun t20 =>
 let t21 : Bool := ltQ (Int.ofNat 1) t20
 br t21 (
 faC 5 t1 fun t22 =>
 cellC t22 h fun t23 =>
 iasC 8 t23 (vI (Int.ofNat 1)) fun t24 =>
 faC 6 t24 fun t25 =>
 ldI t25 h fun t26 =>
 S142_1 D m t1 t2 t4 t26 h) (
 S142_1 D m t1 t2 t4 t5 h)
def e142_15 (k) (t0 : AV) (h) := kN k [(p0, t0)] h
def S142_15 (D : CallD) (m : Nat) (t0 : AV) (h : HP) : Res2 :=
 let t1 : AV := AV.ptr (HP.nxQ h) 0
 let h16 : HP := HP.newQ h (.cells true (AV.cells t0))
 let t2 : AV := AV.ptr (HP.nxQ h16) 0
 let h17 : HP := HP.newQ h16 (.cells true [(kI 0), (.str []), (.str []), (.int .u32 (.ofNat 0)), (.int .u64 (.ofNat 0)), .nils, (kI 0), (kI 0)])
 let t9 : AV := (AV.ptr (HP.nxQ h) (Nat.add 0 5))
 cellC t9 h17 fun t10 =>
 lenC t10 fun vt11 => asI .i64 vt11 fun t11 =>
 let t12 : Bool := ltQ (Int.ofNat 0) t11
 br t12 (
 let t13 : AV := (AV.ptr (HP.nxQ h) (Nat.add 0 5))
 cellC t13 h17 fun t14 =>
 iasC 8 t14 (vI (Int.ofNat 0)) fun t15 =>
 faC 6 t15 fun t16 =>
 ldI t16 h17 fun t17 =>
 S142_0 D m t1 t2 t17 (Int.ofNat 0) h17) (
 S142_0 D m t1 t2 (Int.ofNat 0) (Int.ofNat 0) h17)
def S142 : SFn := fun D m args h u => nou u <| popV args fun t0 args => endA args (S142_15 D m t0 h)
theorem T142_3 {D m E} (hE : FX x142 D m E) : S142_3 D m = e142_3 (E c142_3 []) := by unfold S142_3; rw [hE c142_3]; kernel_rfl
theorem T142_6 {D m E} (hE : FX x142 D m E) : S142_6 D m = e142_6 (E c142_6 [.blk 0, .sj v142_3 c142_3]) := by unfold S142_6; rw [T142_3 hE, hE c142_6]; kernel_rfl
theorem T142_7 {D m E} (hE : FX x142 D m E) : S142_7 D m = e142_7 (E c142_7 [.sj v142_6 c142_6, .blk 0, .sj v142_3 c142_3]) := by unfold S142_7; rw [T142_6 hE, hE c142_7]; kernel_rfl
theorem T142_5 {D m E} (hE : FX x142 D m E) : S142_5 D m = e142_5 (E c142_5 [.blk 0, .sj v142_3 c142_3]) := by unfold S142_5; rw [T142_7 hE, T142_6 hE, hE c142_5]; kernel_rfl
theorem T142_10 {D m E} (hE : FX x142 D m E) : S142_10 D m = e142_10 (E (.opq false l142_10 c142_11) [.sj v142_5 c142_5, .blk 0, .sj v142_3 c142_3]) := by unfold S142_10; rw [T142_5 hE, hE (.opq false l142_10 c142_11)]; kernel_rfl
theorem T142_9 {D m E} (hE : FX x142 D m E) : S142_9 D m = e142_9 (E (.opq false l142_9 c142_11) [.sj v142_5 c142_5, .blk 0, .sj v142_3 c142_3]) := by unfold S142_9; rw [T142_10 hE, hE (.opq false l142_9 c142_11)]; kernel_rfl
theorem T142_8 {D m E} (hE : FX x142 D m E) : S142_8 D m = e142_8 (E (.opq false l142_8 c142_11) [.sj v142_5 c142_5, .blk 0, .sj v142_3 c142_3]) := by unfold S142_8; rw [T142_9 hE, hE (.opq false l142_8 c142_11)]; kernel_rfl
theorem T142_12 {D m E} (hE : FX x142 D m E) : S142_12 D m = e142_12 (E (.opq false l142_12 c142_13) [.blk 0, .sj v142_3 c142_3]) := by unfold S142_12; rw [T142_3 hE, hE (.opq false l142_12 c142_13)]; kernel_rfl
theorem T142_4 {D m E} (hE : FX x142 D m E) : S142_4 D m = e142_4 (E c142_4 [.blk 0, .sj v142_3 c142_3]) := by unfold S142_4; rw [T142_3 hE, T142_8 hE, T142_9 hE, T142_12 hE, hE c142_4]; kernel_rfl
theorem T142_2 {D m E} (hE : FX x142 D m E) : S142_2 D m = e142_2 (E (.opq false l142_2 c142_14) []) := by unfold S142_2; rw [T142_4 hE, hE (.opq false l142_2 c142_14)]; kernel_rfl
theorem T142_1 {D m E} (hE : FX x142 D m E) : S142_1 D m = e142_1 (E c142_1 []) := by unfold S142_1; rw [T142_2 hE, hE c142_1]; kernel_rfl
theorem T142_0 {D m E} (hE : FX x142 D m E) : S142_0 D m = e142_0 (E c142_0 []) := by unfold S142_0; rw [T142_1 hE, hE c142_0]; kernel_rfl
theorem T142_15 {D m E} (hE : FX x142 D m E) : S142_15 D m = e142_15 (E c142_e []) := by unfold S142_15; rw [T142_0 hE, hE c142_e]; kernel_rfl
theorem X142 (D m args h u) : S142 D m args h u = evFX x142 D m args h u := by unfold S142; rw [T142_15 (fix_ok D m (x142.endOf D))]; show _ = evFXE x142 (evE2 D m (x142.endOf D)) args h u; generalize evE2 D m (x142.endOf D) = E; kernel_rfl
/- 143 -/
def c143_e : XC := (.sO [.mv p2 (ci 0) tI] (.seq (.seq (.oX [.mv p3 q0 tI, .bn p4 .eql q3 (ci 3) .b, .mv p5 q4 .b, .ge p5 (XL.of [.G p5 false p6 (.mov q0) tI, .G p5 false p7 (.bin .eql q6 (ci 4)) .b, .P p8 (.pick q5 (cb true) q7) .b]) p8 .b]) (.cond q8 (.seq (.oX [.mv p9 q0 tI, .bn p10 .sub q9 (ci 2) tI, .mv p2 q10 tI]) .ret) .skip)) (.sO [.mv p2 (ci 0) tI] (.s .ret))))
def x143 : XFn := ⟨[tI], false, [(.tmp p2)], c143_e⟩
def e143_0 (k) (t0 : Int) (h) := kN k [(p0, (vI t0))] h
def S143_0 (D : CallD) (m : Nat) (t0 : Int) (h : HP) : Res2 :=
 let t4 : Bool := eqQ t0 (Int.ofNat 3)
 obB (brV t4 (
 some (vB true)) (
 let t7 : Bool := eqQ t0 (Int.ofNat 4)
 some (vB t7))) fun t8 =>
 br t8 (
 let t10 : Int := wrQ .i64 (t0 - (Int.ofNat 2))
 some (.ret (vI t10) h, .no)) (
 some (.ret (vI (Int.ofNat 0)) h, .no))
def S143 : SFn := fun D m args h u => nou u <| popI .i64 args fun t0 args => endA args (S143_0 D m t0 h)
theorem T143_0 {D m E} (hE : FX x143 D m E) : S143_0 D m = e143_0 (E c143_e []) := by unfold S143_0; rw [hE c143_e]; kernel_rfl
theorem X143 (D m args h u) : S143 D m args h u = evFX x143 D m args h u := by unfold S143; rw [T143_0 (fix_ok D m (x143.endOf D))]; show _ = evFXE x143 (evE2 D m (x143.endOf D)) args h u; generalize evE2 D m (x143.endOf D) = E; kernel_rfl
/- 146 -/
def v146_0 : List Pos := [p5]
def c146_0 : XC := (.sO [.mv p33 q5 .v, .cl p34 175 [q33] .v, .mv p4 q34 .v] (.s .ret))
def v146_1 : List Pos := [p0, p1, p5, p6, p7]
def c146_1b : XC := (.seq (.seq (.oX [.mv p9 q7 tI, .mv p10 q0 .v, .P p11 (.lenl q10) tI, .bn p12 .lss q9 q11 .b, .mv p13 q12 .b, .ge p13 (XL.of [.G p13 false p14 (.mov q6) tI, .G p13 false p15 (.bin .gtr q14 (ci 0)) .b, .P p16 (.pick q13 (cb true) q15) .b]) p16 .b]) (.cond q16 .skip (.exit 0))) (.seq (.block 1 (.seq (.oX [.mv p19 q0 .v, .mv p20 q7 tI, .cl p21 149 [q19, q20] tI, .mv p22 q1 tI, .bn p23 .mul q21 q22 tI, .mv p24 q6 tI, .bn p25 .add q23 q24 tI, .mv p8 q25 tI]) (.seq (.oX [.mv p26 q5 .v, .mv p27 q8 tI, .bn p28 .rem q27 (ci 65536) tI, .al p29 (.bsl [(kI 0)] 1 [⟨0, 1, q28⟩]), .o ⟨(some p30), (.e (.app 1 8 q26 q29)), none, []⟩ .v, .mv p5 q30 .v]) (.oX [.mv p31 q8 tI, .bn p32 .quo q31 (ci 65536) tI, .mv p6 q32 tI])))) (.s (.oX [.mv p17 q7 tI, .bn p18 .add q17 (ci 1) tI, .mv p7 q18 tI]))))
def c146_e : XC := (.sO [.mv p4 (.c .nils) .v] (.sO [.mv p5 (.c .nils) .v] (.sO [.mv p6 (ci 0) tI] (.sj v146_0 (.sO [.mv p7 (ci 0) tI] (.block 0 (.loop v146_1 c146_1b))) c146_0))))
def x146 : XFn := ⟨[.v, tI], false, [(.tmp p4)], c146_e⟩
def e146_0 (k) (t5 : AV) (h) := kN k [(p5, t5)] h
def S146_0 (D : CallD) (m : Nat) (t5 : AV) (h : HP) : Res2 :=
 cal D 175 [t5] h fun t34 h3 =>
 some (.ret t34 h3, .no)
def e146_1 (k) (t0 : AV) (t1 : Int) (t5 : AV) (t6 : Int) (t7 : Int) (h) := kN k [(p0, t0), (p1, (vI t1)), (p5, t5), (p6, (vI t6)), (p7, (vI t7))] h
def S146_1b (D : CallD) (m : Nat) (g1 : AV → Int → AV → Int → Int → HP → Res2) (t0 : AV) (t1 : Int) (t5 : AV) (t6 : Int) (t7 : Int) (h : HP) : Res2 :=
 lenC t0 fun vt11 => asI .i64 vt11 fun t11 =>
 let t12 : Bool := ltQ t7 t11
 obB (brV t12 (
 some (vB true)) (
 let t15 : Bool := ltQ (Int.ofNat 0) t6
 some (vB t15))) fun t16 =>
 br t16 (
 cal D 149 [t0, (vI t7)] h fun t21 h4 =>
 asI .i64 t21 fun t21a =>
 let t23 : Int := wrQ .i64 (t21a * t1)
 let t25 : Int := wrQ .i64 (addQ t23 t6)
 let t28 : Int := Int.tmod t25 (Int.ofNat 65536)
 let t29 : AV := AV.slice (HP.nxQ h4) 0 1 (.exact 1)
 let h5 : HP := HP.newQ h4 (.cells true [(vI t28)])
 eff (.app 1 8 (.c t5) (.c t29)) h5 fun t30 h6 =>
 let t32 : Int := wrapF .i64 (Int.tdiv t25 (Int.ofNat 65536))
 let t18 : Int := wrQ .i64 (addQ t7 (Int.ofNat 1))
 g1 t0 t1 t30 t32 t18 h6) (
 S146_0 D m t5 h)
def S146_1 (D : CallD) (m : Nat) : AV → Int → AV → Int → Int → HP → Res2 := nrec (fun _ _ _ _ _ _ => none) (fun _ g => S146_1b D m g) m
def e146_2 (k) (t0 : AV) (t1 : Int) (h) := kN k [(p0, t0), (p1, (vI t1))] h
def S146_2 (D : CallD) (m : Nat) (t0 : AV) (t1 : Int) (h : HP) : Res2 :=
 S146_1 D m t0 t1 (.nils : AV) (Int.ofNat 0) (Int.ofNat 0) h
def S146 : SFn := fun D m args h u => nou u <| popV args fun t0 args => popI .i64 args fun t1 args => endA args (S146_2 D m t0 t1 h)
theorem T146_0 {D m E} (hE : FX x146 D m E) : S146_0 D m = e146_0 (E c146_0 []) := by unfold S146_0; rw [hE c146_0]; kernel_rfl
theorem T146_1b {D m E} (hE : FX x146 D m E) (G1) : S146_1b D m (e146_1 G1) = e146_1 (E c146_1b [.lp v146_1 G1, .blk 0, .sj v146_0 c146_0]) := by unfold S146_1b; rw [T146_0 hE, hE c146_1b]; kernel_rfl
theorem T146_1 {D m E} (hE : FX x146 D m E) : S146_1 D m = e146_1 (nrec (fun _ => none) (fun _ G1 st => E c146_1b [.lp v146_1 G1, .blk 0, .sj v146_0 c146_0] st) m) :=
  nrec_emb e146_1 (fun _ _ _ _ _ _ => none) (fun g => S146_1b D m g) (fun G1 st => E c146_1b [.lp v146_1 G1, .blk 0, .sj v146_0 c146_0] st) rfl (fun g => T146_1b hE g) m
theorem T146_2 {D m E} (hE : FX x146 D m E) : S146_2 D m = e146_2 (E c146_e []) := by unfold S146_2; rw [T146_1 hE, hE c146_e]; kernel_rfl
theorem X146 (D m args h u) : S146 D m args h u = evFX x146 D m args h u := by unfold S146; rw [T146_2 (fix_ok D m (x146.endOf D))]; show _ = evFXE x146 (evE2 D m (x146.endOf D)) args h u; generalize evE2 D m (x146.endOf D) = E; kernel_rfl
/- 147 -/
def v147_0 : List Pos := [p5]
def c147_0 : XC := (.sO [.mv p33 q5 .v, .cl p34 175 [q33] .v, .mv p4 q34 .v] (.s .ret))
def v147_2 : List Pos := [p0, p1, p5, p6, p10, p11]
def c147_2 : XC := (.s (.oX [.bn p32 .add q11 (ci 1) tI, .mv p11 q32 tI]))
def v147_3 : List Pos := [p0, p1, p5, p6, p8, p10, p11]
def c147_3 : XC := (.s (.oX [.mv p28 q5 .v, .mv p29 q8 tI, .al p30 (.bsl [(kI 0)] 1 [⟨0, 1, q29⟩]), .o ⟨(some p31), (.e (.app 1 8 q28 q30)), none, []⟩ .v, .mv p5 q31 .v]))
def v147_1 : List Pos := [p0, p1, p5, p6, p10, p11]
def c147_1b : XC := (.sO [.bn p12 .lss q11 q10 .b] (.seq (.cond q12 .skip (.exit 0)) (.sj v147_2 (.block 1 (.sO [.mv p13 q11 tI, .mv p7 q13 tI] (.seq (.ops true (XL.of [.mv p14 q0 .v, .mv p15 q7 tI, .P p16 (.iaddr (.sl 1) q14 q15) .v, .ld p17 q16 tI, .mv p18 q1 .v, .mv p19 q7 tI, .mv p22 q6 tI, .o ⟨(some p20), (.call (.fn 149) [q18, q19]), none, [⟨none, .cell q16, p17⟩]⟩ tI, .bn p21 .sub q17 q20 tI, .bn p23 .sub q21 q22 tI, .mv p8 q23 tI])) (.sO [.mv p6 (ci 0) tI] (.sj v147_3 (.sO [.mv p24 q8 tI, .bn p25 .lss q24 (ci 0) .b] (.cond q25 (.sO [.mv p26 q8 tI, .bn p27 .add q26 (ci 65536) tI, .mv p8 q27 tI] (.s (.oX [.mv p6 (ci 1) tI]))) (.s .skip))) c147_3))))) c147_2)))
def c147_e : XC := (.sO [.mv p4 (.c .nils) .v] (.sO [.mv p5 (.c .nils) .v] (.sO [.mv p6 (ci 0) tI] (.sj v147_0 (.sO [.mv p9 q0 .v, .P p10 (.lenl q9) tI, .mv p11 (ci 0) tI] (.block 0 (.loop v147_1 c147_1b))) c147_0))))
def x147 : XFn := ⟨[.v, .v], false, [(.tmp p4)], c147_e⟩
def e147_0 (k) (t5 : AV) (h) := kN k [(p5, t5)] h
def S147_0 (D : CallD) (m : Nat) (t5 : AV) (h : HP) : Res2 :=
 cal D 175 [t5] h fun t34 h5 =>
 some (.ret t34 h5, .no)
def e147_2 (k) (t0 : AV) (t1 : AV) (t5 : AV) (t6 : Int) (t10 : Int) (t11 : Int) (h) := kN k [(p0, t0), (p1, t1), (p5, t5), (p6, (vI t6)), (p10, (vI t10)), (p11, (vI t11))] h
def S147_2 (D : CallD) (m : Nat) (g1 : AV → AV → AV → Int → Int → Int → HP → Res2) (t0 : AV) (t1 : AV) (t5 : AV) (t6 : Int) (t10 : Int) (t11 : Int) (h : HP) : Res2 :=
 let t32 : Int := wrQ .i64 (addQ t11 (Int.ofNat 1))
 g1 t0 t1 t5 t6 t10 t32 h
def e147_3 (k) (t0 : AV) (t1 : AV) (t5 : AV) (t6 : Int) (t8 : Int) (t10 : Int) (t11 : Int) (h) := kN k [(p0, t0), (p1, t1), (p5, t5), (p6, (vI t6)), (p8, (vI t8)), (p10, (vI t10)), (p11, (vI t11))] h
def S147_3 (D : CallD) (m : Nat) (g1 : AV → AV → AV → Int → Int → Int → HP → Res2) (t0 : AV) (t1 : AV) (t5 : AV) (t6 : Int) (t8 : Int) (t10 : Int) (t11 : Int) (h : HP) : Res2 :=
 let t30 : AV := AV.slice (HP.nxQ h) 0 1 (.exact 1)
 let h7 : HP := HP.newQ h (.cells true [(vI t8)])
 eff (.app 1 8 (.c t5) (.c t30)) h7 fun t31 h8 =>
 S147_2 D m g1 t0 t1 t31 t6 t10 t11 h8
def e147_1 (k) (t0 : AV) (t1 : AV) (t5 : AV) (t6 : Int) (t10 : Int) (t11 : Int) (h) := kN k [(p0, t0), (p1, t1), (p5, t5), (p6, (vI t6)), (p10, (vI t10)), (p11, (vI t11))] h
def S147_1b (D : CallD) (m : Nat) (g1 : AV → AV → AV → Int → Int → Int → HP → Res2) (t0 : AV) (t1 : AV) (t5 : AV) (t6 : Int) (t10 : Int) (t11 : Int) (h : HP) : Res2 :=
 let t12 : Bool := ltQ t11 t10
 br t12 (
 iasC 1 t0 (vI t11) fun t16 =>
 ldI t16 h fun t17 =>
 cal D 149 [t1, (vI t11)] h fun t20 h6 =>
 br (again [⟨none, .cell q16, p17⟩] (mkT [(p17, (vI t17)), (p16, t16)]) h6) (
 asI .i64 t20 fun t20a =>
 let t21 : Int := wrQ .i64 (t17 - t20a)
 let t23 : Int := wrQ .i64 (t21 - t6)
 let t25 : Bool := ltQ t23 (Int.ofNat 0)
 br t25 (
 let t27 : Int := wrQ .i64 (addQ t23 (Int.ofNat 65536))
 S147_3 D m g1 t0 t1 t5 (Int.ofNat 1) t27 t10 t11 h6) (
 S147_3 D m g1 t0 t1 t5 (Int.ofNat 0) t23 t10 t11 h6)) none) (
 S147_0 D m t5 h)
def S147_1 (D : CallD) (m : Nat) : AV → AV → AV → Int → Int → Int → HP → Res2 := nrec (fun _ _ _ _ _ _ _ => none) (fun _ g => S147_1b D m g) m
def e147_4 (k) (t0 : AV) (t1 : AV) (h) := kN k [(p0, t0), (p1, t1)] h
def S147_4 (D : CallD) (m : Nat) (t0 : AV) (t1 : AV) (h : HP) : Res2 :=
 lenC t0 fun vt10 => asI .i64 vt10 fun t10 =>
 S147_1 D m t0 t1 (.nils : AV) (Int.ofNat 0) t10 (Int.ofNat 0) h
def S147 : SFn := fun D m args h u => nou u <| popV args fun t0 args => popV args fun t1 args => endA args (S147_4 D m t0 t1 h)
theorem T147_0 {D m E} (hE : FX x147 D m E) : S147_0 D m = e147_0 (E c147_0 []) := by unfold S147_0; rw [hE c147_0]; kernel_rfl
theorem T147_2 {D m E} (hE : FX x147 D m E) (G1) : S147_2 D m (e147_1 G1) = e147_2 (E c147_2 [.lp v147_1 G1, .blk 0, .sj v147_0 c147_0]) := by unfold S147_2; rw [hE c147_2]; kernel_rfl
theorem T147_3 {D m E} (hE : FX x147 D m E) (G1) : S147_3 D m (e147_1 G1) = e147_3 (E c147_3 [.blk 1, .sj v147_2 c147_2, .lp v147_1 G1, .blk 0, .sj v147_0 c147_0]) := by unfold S147_3; rw [T147_2 hE G1, hE c147_3]; kernel_rfl
theorem T147_1b {D m E} (hE : FX x147 D m E) (G1) : S147_1b D m (e147_1 G1) = e147_1 (E c147_1b [.lp v147_1 G1, .blk 0, .sj v147_0 c147_0]) := by unfold S147_1b; rw [T147_3 hE G1, T147_0 hE, hE c147_1b]; kernel_rfl
theorem T147_1 {D m E} (hE : FX x147 D m E) : S147_1 D m = e147_1 (nrec (fun _ => none) (fun _ G1 st => E c147_1b [.lp v147_1 G1, .blk 0, .sj v147_0 c147_0] st) m) :=
  nrec_emb e147_1 (fun _ _ _ _ _ _ _ => none) (fun g => S147_1b D m g) (fun G1 st => E c147_1b [.lp v147_1 G1, .blk 0, .sj v147_0 c147_0] st) rfl (fun g => T147_1b hE g) m
theorem T147_4 {D m E} (hE : FX x147 D m E) : S147_4 D m = e147_4 (E c147_e []) := by unfold S147_4; rw [T147_1 hE, hE c147_e]; kernel_rfl
theorem X147 (D m args h u) : S147 D m args h u = evFX x147 D m args h u := by unfold S147; rw [T147_4 (fix_ok D m (x147.endOf D))]; show _ = evFXE x147 (evE2 D m (x147.endOf D)) args h u; generalize evE2 D m (x147.endOf D) = E; kernel_rfl
/- 148 -/
def v148_0 : List Pos := [p3]
def c148_0 : XC := (.sO [.mv p26 q3 .v, .cl p27 175 [q26] .v, .mv p2 q27 .v] (.s .ret))
def v148_1 : List Pos := [p0, p3, p6, p7]
def c148_1b : XC := (.sO [.bn p8 .lss q7 q6 .b] (.seq (.cond q8 .skip (.exit 0)) (.seq (.block 1 (.seq (.oX [.mv p9 q7 tI, .mv p4 q9 tI]) (.ops true (XL.of [.mv p10 q3 .v, .mv p11 q0 .v, .mv p12 q4 tI, .P p13 (.iaddr (.sl 1) q11 q12) .v, .ld p14 q13 tI, .bn p15 .quo q14 (ci 2) tI, .mv p16 q0 .v, .mv p17 q4 tI, .bn p18 .add q17 (ci 1) tI, .o ⟨(some p19), (.call (.fn 149) [q16, q18]), none, [⟨none, .cell q13, p14⟩]⟩ tI, .bn p20 .rem q19 (ci 2) tI, .bn p21 .mul q20 (ci 32768) tI, .bn p22 .add q15 q21 tI, .al p23 (.bsl [(kI 0)] 1 [⟨0, 1, q22⟩]), .o ⟨(some p24), (.e (.app 1 8 q10 q23)), none, []⟩ .v, .mv p3 q24 .v])))) (.s (.oX [.bn p25 .add q7 (ci 1) tI, .mv p7 q25 tI])))))
def c148_e : XC := (.sO [.mv p2 (.c .nils) .v] (.sO [.mv p3 (.c .nils) .v] (.sj v148_0 (.sO [.mv p5 q0 .v, .P p6 (.lenl q5) tI, .mv p7 (ci 0) tI] (.block 0 (.loop v148_1 c148_1b))) c148_0)))
def x148 : XFn := ⟨[.v], false, [(.tmp p2)], c148_e⟩
def e148_0 (k) (t3 : AV) (h) := kN k [(p3, t3)] h
def S148_0 (D : CallD) (m : Nat) (t3 : AV) (h : HP) : Res2 :=
 cal D 175 [t3] h fun t27 h3 =>
 some (.ret t27 h3, .no)
def e148_1 (k) (t0 : AV) (t3 : AV) (t6 : Int) (t7 : Int) (h) := kN k [(p0, t0), (p3, t3), (p6, (vI t6)), (p7, (vI t7))] h
def S148_1b (D : CallD) (m : Nat) (g1 : AV → AV → Int → Int → HP → Res2) (t0 : AV) (t3 : AV) (t6 : Int) (t7 : Int) (h : HP) : Res2 :=
 let t8 : Bool := ltQ t7 t6
 br t8 (
 iasC 1 t0 (vI t7) fun t13 =>
 ldI t13 h fun t14 =>
 let t15 : Int := wrapF .i64 (Int.tdiv t14 (Int.ofNat 2))
 let t18 : Int := wrQ .i64 (addQ t7 (Int.ofNat 1))
 cal D 149 [t0, (vI t18)] h fun t19 h4 =>
 br (again [⟨none, .cell q13, p14⟩] (mkT [(p14, (vI t14)), (p13, t13)]) h4) (
 asI .i64 t19 fun t19a =>
 let t20 : Int := Int.tmod t19a (Int.ofNat 2)
 let t21 : Int := wrQ .i64 (t20 * (Int.ofNat 32768))
 let t22 : Int := wrQ .i64 (addQ t15 t21)
 let t23 : AV := AV.slice (HP.nxQ h4) 0 1 (.exact 1)
 let h5 : HP := HP.newQ h4 (.cells true [(vI t22)])
 eff (.app 1 8 (.c t3) (.c t23)) h5 fun t24 h6 =>
 let t25 : Int := wrQ .i64 (addQ t7 (Int.ofNat 1))
 g1 t0 t24 t6 t25 h6) none) (
 S148_0 D m t3 h)
def S148_1 (D : CallD) (m : Nat) : AV → AV → Int → Int → HP → Res2 := nrec (fun _ _ _ _ _ => none) (fun _ g => S148_1b D m g) m
def e148_2 (k) (t0 : AV) (h) := kN k [(p0, t0)] h
def S148_2 (D : CallD) (m : Nat) (t0 : AV) (h : HP) : Res2 :=
 lenC t0 fun vt6 => asI .i64 vt6 fun t6 =>
 S148_1 D m t0 (.nils : AV) t6 (Int.ofNat 0) h
def S148 : SFn := fun D m args h u => nou u <| popV args fun t0 args => endA args (S148_2 D m t0 h)
theorem T148_0 {D m E} (hE : FX x148 D m E) : S148_0 D m = e148_0 (E c148_0 []) := by unfold S148_0; rw [hE c148_0]; kernel_rfl
theorem T148_1b {D m E} (hE : FX x148 D m E) (G1) : S148_1b D m (e148_1 G1) = e148_1 (E c148_1b [.lp v148_1 G1, .blk 0, .sj v148_0 c148_0]) := by unfold S148_1b; rw [T148_0 hE, hE c148_1b]; kernel_rfl
theorem T148_1 {D m E} (hE : FX x148 D m E) : S148_1 D m = e148_1 (nrec (fun _ => none) (fun _ G1 st => E c148_1b [.lp v148_1 G1, .blk 0, .sj v148_0 c148_0] st) m) :=
  nrec_emb e148_1 (fun _ _ _ _ _ => none) (fun g => S148_1b D m g) (fun G1 st => E c148_1b [.lp v148_1 G1, .blk 0, .sj v148_0 c148_0] st) rfl (fun g => T148_1b hE g) m
theorem T148_2 {D m E} (hE : FX x148 D m E) : S148_2 D m = e148_2 (E c148_e []) := by unfold S148_2; rw [T148_1 hE, hE c148_e]; kernel_rfl
theorem X148 (D m args h u) : S148 D m args h u = evFX x148 D m args h u := by unfold S148; rw [T148_2 (fix_ok D m (x148.endOf D))]; show _ = evFXE x148 (evE2 D m (x148.endOf D)) args h u; generalize evE2 D m (x148.endOf D) = E; kernel_rfl
/- 149 -/
def c149_e : XC := (.sO [.mv p4 (ci 0) tI] (.seq (.seq (.oX [.mv p5 q1 tI, .mv p6 q0 .v, .P p7 (.lenl q6) tI, .bn p8 .lss q5 q7 .b]) (.cond q8 (.seq (.oX [.mv p9 q0 .v, .mv p10 q1 tI, .P p11 (.iaddr (.sl 1) q9 q10) .v, .ld p12 q11 tI, .mv p4 q12 tI]) .ret) .skip)) (.sO [.mv p4 (ci 0) tI] (.s .ret))))
def x149 : XFn := ⟨[.v, tI], false, [(.tmp p4)], c149_e⟩
def e149_0 (k) (t0 : AV) (t1 : Int) (h) := kN k [(p0, t0), (p1, (vI t1))] h
def S149_0 (D : CallD) (m : Nat) (t0 : AV) (t1 : Int) (h : HP) : Res2 :=
 lenC t0 fun vt7 => asI .i64 vt7 fun t7 =>
 let t8 : Bool := ltQ t1 t7
 br t8 (
 iasC 1 t0 (vI t1) fun t11 =>
 ldI t11 h fun t12 =>
 some (.ret (vI t12) h, .no)) (
 some (.ret (vI (Int.ofNat 0)) h, .no))
def S149 : SFn := fun D m args h u => nou u <| popV args fun t0 args => popI .i64 args fun t1 args => endA args (S149_0 D m t0 t1 h)
theorem T149_0 {D m E} (hE : FX x149 D m E) : S149_0 D m = e149_0 (E c149_e []) := by unfold S149_0; rw [hE c149_e]; kernel_rfl
theorem X149 (D m args h u) : S149 D m args h u = evFX x149 D m args h u := by unfold S149; rw [T149_0 (fix_ok D m (x149.endOf D))]; show _ = evFXE x149 (evE2 D m (x149.endOf D)) args h u; generalize evE2 D m (x149.endOf D) = E; kernel_rfl
/- 151 -/
def c151_e : XC := (.sO [.mv p4 (.c (.int .u64 (.ofNat 0))) (.i .u64), .mv p5 (.c (.int .u64 (.ofNat 0))) (.i .u64)] (.sO [.mv p14 q0 (.i .u64), .bn p15 .and q14 (.c (.int .u64 (.ofNat 4294967295))) (.i .u64), .mv p6 q15 (.i .u64)] (.sO [.mv p16 q0 (.i .u64), .bn p17 .shr q16 (.c (.int .u64 (.ofNat 32))) (.i .u64), .mv p7 q17 (.i .u64)] (.sO [.mv p18 q1 (.i .u64), .bn p19 .and q18 (.c (.int .u64 (.ofNat 4294967295))) (.i .u64), .mv p8 q19 (.i .u64)] (.sO [.mv p20 q1 (.i .u64), .bn p21 .shr q20 (.c (.int .u64 (.ofNat 32))) (.i .u64), .mv p9 q21 (.i .u64)] (.sO [.mv p22 q6 (.i .u64), .mv p23 q8 (.i .u64), .bn p24 .mul q22 q23 (.i .u64), .mv p10 q24 (.i .u64)] (.sO [.mv p25 q7 (.i .u64), .mv p26 q8 (.i .u64), .bn p27 .mul q25 q26 (.i .u64), .mv p28 q10 (.i .u64), .bn p29 .shr q28 (.c (.int .u64 (.ofNat 32))) (.i .u64), .bn p30 .add q27 q29 (.i .u64), .mv p11 q30 (.i .u64)] (.sO [.mv p31 q11 (.i .u64), .bn p32 .and q31 (.c (.int .u64 (.ofNat 4294967295))) (.i .u64), .mv p12 q32 (.i .u64)] (.sO [.mv p33 q11 (.i .u64), .bn p34 .shr q33 (.c (.int .u64 (.ofNat 32))) (.i .u64), .mv p13 q34 (.i .u64)] (.sO [.mv p35 q12 (.i .u64), .mv p36 q6 (.i .u64), .mv p37 q9 (.i .u64), .bn p38 .mul q36 q37 (.i .u64), .bn p39 .add q35 q38 (.i .u64), .mv p12 q39 (.i .u64)] (.sO [.mv p40 q7 (.i .u64), .mv p41 q9 (.i .u64), .bn p42 .mul q40 q41 (.i .u64), .mv p43 q13 (.i .u64), .bn p44 .add q42 q43 (.i .u64), .mv p45 q12 (.i .u64), .bn p46 .shr q45 (.c (.int .u64 (.ofNat 32))) (.i .u64), .bn p47 .add q44 q46 (.i .u64), .mv p4 q47 (.i .u64)] (.sO [.mv p48 q0 (.i .u64), .mv p49 q1 (.i .u64), .bn p50 .mul q48 q49 (.i .u64), .mv p5 q50 (.i .u64)] (.s .ret)))))))))))))
def x151 : XFn := ⟨[(.i .u64), (.i .u64)], false, [(.tmp p4), (.tmp p5)], c151_e⟩
def e151_0 (k) (t0 : Int) (t1 : Int) (h) := kN k [(p0, (AV.int .u64 t0)), (p1, (AV.int .u64 t1))] h
def S151_0 (D : CallD) (m : Nat) (t0 : Int) (t1 : Int) (h : HP) : Res2 :=
 obI .u64 (intBin .and .u64 t0 (Int.ofNat 4294967295)) fun t15 =>
 let t17 : Int := shrF .u64 t0 32
 obI .u64 (intBin .and .u64 t1 (Int.ofNat 4294967295)) fun t19 =>
 let t21 : Int := shrF .u64 t1 32
 let t24 : Int := wrQ .u64 (t15 * t19)
 let t27 : Int := wrQ .u64 (t17 * t19)
 let t29 : Int := shrF .u64 t24 32
 let t30 : Int := wrQ .u64 (addQ t27 t29)
 obI .u64 (intBin .and .u64 t30 (Int.ofNat 4294967295)) fun t32 =>
 let t34 : Int := shrF .u64 t30 32
 let t38 : Int := wrQ .u64 (t15 * t21)
 let t39 : Int := wrQ .u64 (addQ t32 t38)
 let t42 : Int := wrQ .u64 (t17 * t21)
 let t44 : Int := wrQ .u64 (addQ t42 t34)
 let t46 : Int := shrF .u64 t39 32
 let t47 : Int := wrQ .u64 (addQ t44 t46)
 let t50 : Int := wrQ .u64 (t0 * t1)
 some (.ret (.tup [(AV.int .u64 t47), (AV.int .u64 t50)]) h, .no)
def S151 : SFn := fun D m args h u => nou u <| popI .u64 args fun t0 args => popI .u64 args fun t1 args => endA args (S151_0 D m t0 t1 h)
theorem T151_0 {D m E} (hE : FX x151 D m E) : S151_0 D m = e151_0 (E c151_e []) := by unfold S151_0; rw [hE c151_e]; kernel_rfl
theorem X151 (D m args h u) : S151 D m args h u = evFX x151 D m args h u := by unfold S151; rw [T151_0 (fix_ok D m (x151.endOf D))]; show _ = evFXE x151 (evE2 D m (x151.endOf D)) args h u; generalize evE2 D m (x151.endOf D) = E; kernel_rfl
/- 154 -/
def c154_e : XC := (.sO [.mv p2 (.c (.int .u64 (.ofNat 0))) (.i .u64)] (.sO [.mv p3 q0 (.i .u64), .cl p4 33 [q3] .v, .mv p5 q0 (.i .u64), .bn p6 .xor q5 (.c (.int .u64 (.ofNat 9223372036854775808))) (.i .u64), .cl p7 33 [q6] .v, .cl p8 177 [q4, q7] .v, .cl p9 176 [q8] (.i .u64), .mv p2 q9 (.i .u64)] (.s .ret)))
def x154 : XFn := ⟨[(.i .u64)], false, [(.tmp p2)], c154_e⟩
def e154_0 (k) (t0 : Int) (h) := kN k [(p0, (AV.int .u64 t0))] h
def S154_0 (D : CallD) (m : Nat) (t0 : Int) (h : HP) : Res2 :=
 cal D 33 [(AV.int .u64 t0)] h fun t4 h1 =>
 obI .u64 (intBin .xor .u64 t0 (Int.ofNat 9223372036854775808)) fun t6 =>
 cal D 33 [(AV.int .u64 t6)] h1 fun t7 h2 =>
 cal D 177 [t4, t7] h2 fun t8 h3 =>
 cal D 176 [t8] h3 fun t9 h4 =>
 asI .u64 t9 fun t9a =>
 some (.ret (AV.int .u64 t9a) h4, .no)
def S154 : SFn := fun D m args h u => nou u <| popI .u64 args fun t0 args => endA args (S154_0 D m t0 h)
theorem T154_0 {D m E} (hE : FX x154 D m E) : S154_0 D m = e154_0 (E c154_e []) := by unfold S154_0; rw [hE c154_e]; kernel_rfl
theorem X154 (D m args h u) : S154 D m args h u = evFX x154 D m args h u := by unfold S154; rw [T154_0 (fix_ok D m (x154.endOf D))]; show _ = evFXE x154 (evE2 D m (x154.endOf D)) args h u; generalize evE2 D m (x154.endOf D) = E; kernel_rfl
/- 155 -/
def c155_e : XC := (.sO [.al p6 (.new [(kI 0), (.int .u32 (.ofNat 0)), (.int .u64 (.ofNat 0)), (.str []), (kI 0)]), .mv p7 (ci 0) tI] (.seq (.seq (.oX [.mv p13 q0 .s, .cl p14 178 [q13] tI, .mv p8 q14 tI]) (.seq (.oX [.mv p15 q8 tI, .bn p16 .neq q15 (ci 0) .b]) (.cond q16 (.seq (.oX [.mv p18 q8 tI, .mv p19 q1 tW, .mv p20 q2 tW, .cl p21 179 [q18, q19, q20] .v, .mv p17 q21 .v, .P p22 (.ext q17 0) tW, .P p23 (.ext q17 1) tI, .mv p9 q22 tW, .mv p10 q23 tI]) (.seq (.oX [.mv p24 q9 tW, .P p25 (.build [(kI 0), (.int .u32 (.ofNat 0)), (.int .u64 (.ofNat 0)), (.str []), (kI 0)] [⟨0, 1, (ci 1)⟩, ⟨1, 1, q24⟩]) .v, .mv p26 q10 tI, .ss 5 q6 q25, .mv p7 q26 tI]) .ret)) .skip))) (.sO [.mv p27 q1 tW, .cl p28 157 [q27] tI, .mv p29 q2 tW, .cl p30 157 [q29] tI, .mv p11 q28 tI, .mv p12 q30 tI] (.seq (.seq (.oX [.mv p31 q0 .s]) (.block 0 (.seq (.oX [.bn p33 .eql q31 (.c (.str [61, 61])) .b, .mv p32 q33 .b]) (.cond q32 (.seq (.oX [.mv p34 q11 tI, .mv p35 q12 tI, .bn p36 .eql q34 q35 .b, .cl p37 156 [q36] .v, .ss 5 q6 q37, .mv p7 (ci 0) tI]) .ret) (.seq (.oX [.bn p39 .eql q31 (.c (.str [33, 61])) .b, .mv p38 q39 .b]) (.cond q38 (.seq (.oX [.mv p40 q11 tI, .mv p41 q12 tI, .bn p42 .neq q40 q41 .b, .cl p43 156 [q42] .v, .ss 5 q6 q43, .mv p7 (ci 0) tI]) .ret) (.seq (.oX [.bn p45 .eql q31 (.c (.str [60])) .b, .mv p44 q45 .b]) (.cond q44 (.seq (.oX [.mv p46 q11 tI, .mv p47 q12 tI, .bn p48 .lss q46 q47 .b, .cl p49 156 [q48] .v, .ss 5 q6 q49, .mv p7 (ci 0) tI]) .ret) (.seq (.oX [.bn p51 .eql q31 (.c (.str [60, 61])) .b, .mv p50 q51 .b]) (.cond q50 (.seq (.oX [.mv p52 q11 tI, .mv p53 q12 tI, .bn p54 .leq q52 q53 .b, .cl p55 156 [q54] .v, .ss 5 q6 q55, .mv p7 (ci 0) tI]) .ret) (.seq (.oX [.bn p57 .eql q31 (.c (.str [62])) .b, .mv p56 q57 .b]) (.cond q56 (.seq (.oX [.mv p58 q11 tI, .mv p59 q12 tI, .bn p60 .gtr q58 q59 .b, .cl p61 156 [q60] .v, .ss 5 q6 q61, .mv p7 (ci 0) tI]) .ret) (.seq (.oX [.bn p63 .eql q31 (.c (.str [62, 61])) .b, .mv p62 q63 .b]) (.cond q62 (.seq (.oX [.mv p64 q11 tI, .mv p65 q12 tI, .bn p66 .geq q64 q65 .b, .cl p67 156 [q66] .v, .ss 5 q6 q67, .mv p7 (ci 0) tI]) .ret) (.seq (.oX [.bn p69 .eql q31 (.c (.str [38, 38])) .b, .mv p68 q69 .b]) (.cond q68 (.seq (.oX [.mv p70 q11 tI, .bn p71 .neq q70 (ci 0) .b, .mv p72 q71 .b, .ge p72 (XL.of [.G p72 true p73 (.mov q12) tI, .G p72 true p74 (.bin .neq q73 (ci 0)) .b, .P p75 (.pick q72 q74 (cb false)) .b]) p75 .b, .cl p76 156 [q75] .v, .ss 5 q6 q76, .mv p7 (ci 0) tI]) .ret) (.seq (.oX [.bn p78 .eql q31 (.c (.str [124, 124])) .b, .mv p77 q78 .b]) (.cond q77 (.seq (.oX [.mv p79 q11 tI, .bn p80 .neq q79 (ci 0) .b, .mv p81 q80 .b, .ge p81 (XL.of [.G p81 false p82 (.mov q12) tI, .G p81 false p83 (.bin .neq q82 (ci 0)) .b, .P p84 (.pick q81 (cb true) q83) .b]) p84 .b, .cl p85 156 [q84] .v, .ss 5 q6 q85, .mv p7 (ci 0) tI]) .ret) .skip)))))))))))))))))) (.sO [.P p86 (.build [(kI 0), (.int .u32 (.ofNat 0)), (.int .u64 (.ofNat 0)), (.str []), (kI 0)] []) .v, .ss 5 q6 q86, .mv p7 (ci 15) tI] (.s .ret))))))
def x155 : XFn := ⟨[.s, tW, tW], false, [(.cells 5 p6), (.tmp p7)], c155_e⟩
def e155_0 (k) (t0 : LN) (t1 : Int) (t2 : Int) (h) := kN k [(p0, (vS t0)), (p1, (vW t1)), (p2, (vW t2))] h
def S155_0 (D : CallD) (m : Nat) (t0 : LN) (t1 : Int) (t2 : Int) (h : HP) : Res2 :=
 let t6 : AV := AV.ptr (HP.nxQ h) 0
 let h1 : HP := HP.newQ h (.cells true [(kI 0), (.int .u32 (.ofNat 0)), (.int .u64 (.ofNat 0)), (.str []), (kI 0)])
 cal D 178 [(vS t0)] h1 fun t14 h2 =>
 asI .i64 t14 fun t14a =>
 let t16 : Bool := notQ (eqQ t14a (Int.ofNat 0))
 br t16 (
 cal D 179 [(vI t14a), (vW t1), (vW t2)] h2 fun t21 h3 =>
 extC t21 0 fun vt22 => asI .u32 vt22 fun t22 =>
 extC t21 1 fun vt23 => asI .i64 vt23 fun t23 =>
 let t25 : AV := (AV.agg [(vI (Int.ofNat 1)), (vW t22), (AV.int .u64 (Int.ofNat 0)), (vS ([] : LN)), (vI (Int.ofNat 0))])
 stsC 5 t6 t25 h3 fun h4 =>
 XFn.endOf x155 D (.ret ⟨(mkT [(p6, t6), (p7, (vI t23))]), h4, [], .no⟩)) (
 cal D 157 [(vW t1)] h2 fun t28 h5 =>
 asI .i64 t28 fun t28a =>
 cal D 157 [(vW t2)] h5 fun t30 h6 =>
 asI .i64 t30 fun t30a =>
 let t33 : Bool := eqL t0 ([61, 61] : LN)
 br t33 (
 let t36 : Bool := eqQ t28a t30a
 cal D 156 [(vB t36)] h6 fun t37 h7 =>
 stsC 5 t6 t37 h7 fun h8 =>
 XFn.endOf x155 D (.ret ⟨(mkT [(p6, t6), (p7, (vI (Int.ofNat 0)))]), h8, [], .no⟩)) (
 let t39 : Bool := eqL t0 ([33, 61] : LN)
 br t39 (
 let t42 : Bool := notQ (eqQ t28a t30a)
 cal D 156 [(vB t42)] h6 fun t43 h9 =>
 stsC 5 t6 t43 h9 fun h10 =>
 XFn.endOf x155 D (.ret ⟨(mkT [(p6, t6), (p7, (vI (Int.ofNat 0)))]), h10, [], .no⟩)) (
 let t45 : Bool := eqL t0 ([60] : LN)
 br t45 (
 let t48 : Bool := ltQ t28a t30a
 cal D 156 [(vB t48)] h6 fun t49 h11 =>
 stsC 5 t6 t49 h11 fun h12 =>
 XFn.endOf x155 D (.ret ⟨(mkT [(p6, t6), (p7, (vI (Int.ofNat 0)))]), h12, [], .no⟩)) (
 let t51 : Bool := eqL t0 ([60, 61] : LN)
 br t51 (
 let t54 : Bool := leQ t28a t30a
 cal D 156 [(vB t54)] h6 fun t55 h13 =>
 stsC 5 t6 t55 h13 fun h14 =>
 XFn.endOf x155 D (.ret ⟨(mkT [(p6, t6), (p7, (vI (Int.ofNat 0)))]), h14, [], .no⟩)) (
 let t57 : Bool := eqL t0 ([62] : LN)
 br t57 (
 let t60 : Bool := ltQ t30a t28a
 cal D 156 [(vB t60)] h6 fun t61 h15 =>
 stsC 5 t6 t61 h15 fun h16 =>
 XFn.endOf x155 D (.ret ⟨(mkT [(p6, t6), (p7, (vI (Int.ofNat 0)))]), h16, [], .no⟩)) (
 let t63 : Bool := eqL t0 ([62, 61] : LN)
 br t63 (
 let t66 : Bool := leQ t30a t28a
 cal D 156 [(vB t66)] h6 fun t67 h17 =>
 stsC 5 t6 t67 h17 fun h18 =>
 XFn.endOf x155 D (.ret ⟨(mkT [(p6, t6), (p7, (vI (Int.ofNat 0)))]), h18, [], .no⟩)) (
 let t69 : Bool := eqL t0 ([38, 38] : LN)
 br t69 (
 let t71 : Bool := notQ (eqQ t28a (Int.ofNat 0))
 obB (brV t71 (
 let t74 : Bool := notQ (eqQ t30a (Int.ofNat 0))
 some (vB t74)) (
 some (vB false))) fun t75 =>
 cal D 156 [(vB t75)] h6 fun t76 h19 =>
 stsC 5 t6 t76 h19 fun h20 =>
 XFn.endOf x155 D (.ret ⟨(mkT [(p6, t6), (p7, (vI (Int.ofNat 0)))]), h20, [], .no⟩)) (
 let t78 : Bool := eqL t0 ([124, 124] : LN)
 br t78 (
 let t80 : Bool := notQ (eqQ t28a (Int.ofNat 0))
 obB (brV t80 (
 some (vB true)) (
 let t83 : Bool := notQ (eqQ t30a (Int.ofNat 0))
 some (vB t83))) fun t84 =>
 cal D 156 [(vB t84)] h6 fun t85 h21 =>
 stsC 5 t6 t85 h21 fun h22 =>
 XFn.endOf x155 D (.ret ⟨(mkT [(p6, t6), (p7, (vI (Int.ofNat 0)))]), h22, [], .no⟩)) (
 let t86 : AV := (AV.agg [(vI (Int.ofNat 0)), (vW (Int.ofNat 0)), (AV.int .u64 (Int.ofNat 0)), (vS ([] : LN)), (vI (Int.ofNat 0))])
 stsC 5 t6 t86 h6 fun h23 =>
 XFn.endOf x155 D (.ret ⟨(mkT [(p6, t6), (p7, (vI (Int.ofNat 15)))]), h23, [], .no⟩))))))))))
def S155 : SFn := fun D m args h u => nou u <| popS args fun t0 args => popI .u32 args fun t1 args => popI .u32 args fun t2 args => endA args (S155_0 D m t0 t1 t2 h)
theorem T155_0 {D m E} (hE : FX x155 D m E) : S155_0 D m = e155_0 (E c155_e []) := by unfold S155_0; rw [hE c155_e]; kernel_rfl
theorem X155 (D m args h u) : S155 D m args h u = evFX x155 D m args h u := by unfold S155; rw [T155_0 (fix_ok D m (x155.endOf D))]; show _ = evFXE x155 (evE2 D m (x155.endOf D)) args h u; generalize evE2 D m (x155.endOf D) = E; kernel_rfl
/- 156 -/
def c156_e : XC := (.sO [.al p2 (.new [(kI 0), (.int .u32 (.ofNat 0)), (.int .u64 (.ofNat 0)), (.str []), (kI 0)])] (.seq (.seq (.oX [.mv p3 q0 .b]) (.cond q3 (.seq (.oX [.P p4 (.build [(kI 0), (.int .u32 (.ofNat 0)), (.int .u64 (.ofNat 0)), (.str []), (kI 0)] [⟨0, 1, (ci 1)⟩, ⟨1, 1, (.c (.int .u32 (.ofNat 1)))⟩]) .v, .ss 5 q2 q4]) .ret) .skip)) (.sO [.P p5 (.build [(kI 0), (.int .u32 (.ofNat 0)), (.int .u64 (.ofNat 0)), (.str []), (kI 0)] [⟨0, 1, (ci 1)⟩]) .v, .ss 5 q2 q5] (.s .ret))))
def x156 : XFn := ⟨[.b], false, [(.cells 5 p2)], c156_e⟩
def e156_0 (k) (t0 : Bool) (h) := kN k [(p0, (vB t0))] h
def S156_0 (D : CallD) (m : Nat) (t0 : Bool) (h : HP) : Res2 :=
 let t2 : AV := AV.ptr (HP.nxQ h) 0
 let h1 : HP := HP.newQ h (.cells true [(kI 0), (.int .u32 (.ofNat 0)), (.int .u64 (.ofNat 0)), (.str []), (kI 0)])
 br t0 (
 let t4 : AV := (AV.agg [(vI (Int.ofNat 1)), (vW (Int.ofNat 1)), (AV.int .u64 (Int.ofNat 0)), (vS ([] : LN)), (vI (Int.ofNat 0))])
 stsC 5 t2 t4 h1 fun h2 =>
 XFn.endOf x156 D (.ret ⟨(mkT [(p2, t2)]), h2, [], .no⟩)) (
 let t5 : AV := (AV.agg [(vI (Int.ofNat 1)), (vW (Int.ofNat 0)), (AV.int .u64 (Int.ofNat 0)), (vS ([] : LN)), (vI (Int.ofNat 0))])
 stsC 5 t2 t5 h1 fun h3 =>
 XFn.endOf x156 D (.ret ⟨(mkT [(p2, t2)]), h3, [], .no⟩))
def S156 : SFn := fun D m args h u => nou u <| popB args fun t0 args => endA args (S156_0 D m t0 h)
theorem T156_0 {D m E} (hE : FX x156 D m E) : S156_0 D m = e156_0 (E c156_e []) := by unfold S156_0; rw [hE c156_e]; kernel_rfl
theorem X156 (D m args h u) : S156 D m args h u = evFX x156 D m args h u := by unfold S156; rw [T156_0 (fix_ok D m (x156.endOf D))]; show _ = evFXE x156 (evE2 D m (x156.endOf D)) args h u; generalize evE2 D m (x156.endOf D) = E; kernel_rfl
/- 158 -/
def v158_0 : List Pos := [p0, p1, p2, p6]
def c158_0 : XC := (.sO [.al p36 (.mkmap), .o ⟨none, (.e (.mset .str q36 (.c (.str [61, 61])) (ci 51))), none, []⟩ .v, .o ⟨none, (.e (.mset .str q36 (.c (.str [33, 61])) (ci 51))), none, []⟩ .v, .o ⟨none, (.e (.mset .str q36 (.c (.str [60])) (ci 52))), none, []⟩ .v, .o ⟨none, (.e (.mset .str q36 (.c (.str [62])) (ci 52))), none, []⟩ .v, .o ⟨none, (.e (.mset .str q36 (.c (.str [60, 61])) (ci 53))), none, []⟩ .v, .o ⟨none, (.e (.mset .str q36 (.c (.str [62, 61])) (ci 53))), none, []⟩ .v, .mv p37 q36 .v, .mv p38 q0 .s, .L p39 (.look .str (kI 0) false q37 q38) tI, .mv p11 q39 tI] (.sO [.mv p41 q11 tI, .mv p42 q1 (.i .u64), .mv p43 q2 (.i .u64), .cl p44 21 [q41, q42, q43] .v, .mv p40 q44 .v, .P p45 (.ext q40 0) tW, .P p46 (.ext q40 1) tI, .mv p12 q45 tW, .mv p13 q46 tI] (.seq (.seq (.oX [.mv p47 q13 tI, .bn p48 .neq q47 (ci 0) .b]) (.cond q48 (.seq (.oX [.P p49 (.build [(kI 0), (.int .u32 (.ofNat 0)), (.int .u64 (.ofNat 0)), (.str []), (kI 0)] []) .v, .ss 5 q6 q49, .mv p7 (ci 15) tI]) .ret) .skip)) (.sO [.mv p50 q12 tW, .bn p51 .eql q50 (.c (.int .u32 (.ofNat 1))) .b, .mv p52 q0 .s, .bn p53 .eql q52 (.c (.str [33, 61])) .b, .P p54 (.eqb true q51 q53) .b, .cl p55 156 [q54] .v, .ss 5 q6 q55, .mv p7 (ci 0) tI] (.s .ret)))))
def v158_1 : List Pos := [p0, p1, p2, p6, p31]
def c158_1 : XC := (.cond q31 (.s (.oX [.mv p34 q2 (.i .u64), .mv p35 q1 (.i .u64), .mv p1 q34 (.i .u64), .mv p2 q35 (.i .u64)])) (.s .skip))
def c158_e : XC := (.sO [.al p6 (.new [(kI 0), (.int .u32 (.ofNat 0)), (.int .u64 (.ofNat 0)), (.str []), (kI 0)]), .mv p7 (ci 0) tI] (.seq (.seq (.oX [.al p14 (.mkmap), .o ⟨none, (.e (.mset .str q14 (.c (.str [43])) (ci 45))), none, []⟩ .v, .o ⟨none, (.e (.mset .str q14 (.c (.str [45])) (ci 46))), none, []⟩ .v, .o ⟨none, (.e (.mset .str q14 (.c (.str [42])) (ci 47))), none, []⟩ .v, .o ⟨none, (.e (.mset .str q14 (.c (.str [47])) (ci 48))), none, []⟩ .v, .mv p15 q14 .v, .mv p16 q0 .s, .L p17 (.look .str (kI 0) false q15 q16) tI, .mv p8 q17 tI]) (.seq (.oX [.mv p18 q8 tI, .bn p19 .neq q18 (ci 0) .b]) (.cond q19 (.seq (.oX [.mv p21 q8 tI, .mv p22 q1 (.i .u64), .mv p23 q2 (.i .u64), .cl p24 180 [q21, q22, q23] .v, .mv p20 q24 .v, .P p25 (.ext q20 0) (.i .u64), .P p26 (.ext q20 1) tI, .mv p9 q25 (.i .u64), .mv p10 q26 tI]) (.seq (.oX [.mv p27 q9 (.i .u64), .P p28 (.build [(kI 0), (.int .u32 (.ofNat 0)), (.int .u64 (.ofNat 0)), (.str []), (kI 0)] [⟨0, 1, (ci 2)⟩, ⟨2, 1, q27⟩]) .v, .mv p29 q10 tI, .ss 5 q6 q28, .mv p7 q29 tI]) .ret)) .skip))) (.sj v158_0 (.sO [.mv p30 q0 .s] (.block 0 (.sj v158_1 (.sO [.bn p32 .eql q30 (.c (.str [62])) .b, .mv p31 q32 .b] (.cond q31 (.s .skip) (.s (.oX [.bn p33 .eql q30 (.c (.str [62, 61])) .b, .mv p31 q33 .b])))) c158_1))) c158_0)))
def x158 : XFn := ⟨[.s, (.i .u64), (.i .u64)], false, [(.cells 5 p6), (.tmp p7)], c158_e⟩
def e158_0 (k) (t0 : LN) (t1 : Int) (t2 : Int) (t6 : AV) (h) := kN k [(p0, (vS t0)), (p1, (AV.int .u64 t1)), (p2, (AV.int .u64 t2)), (p6, t6)] h
def S158_0 (D : CallD) (m : Nat) (t0 : LN) (t1 : Int) (t2 : Int) (t6 : AV) (h : HP) : Res2 :=
 let t36 : AV := AV.map (HP.nxQ h)
 let h11 : HP := HP.newQ h (.map [] 0)
 eff (.mset .str (.c t36) (.c (vS ([61, 61] : LN))) (.c (vI (Int.ofNat 51)))) h11 fun t0a h12 =>
 eff (.mset .str (.c t36) (.c (vS ([33, 61] : LN))) (.c (vI (Int.ofNat 51)))) h12 fun t0aa h13 =>
 eff (.mset .str (.c t36) (.c (vS ([60] : LN))) (.c (vI (Int.ofNat 52)))) h13 fun t0aaa h14 =>
 eff (.mset .str (.c t36) (.c (vS ([62] : LN))) (.c (vI (Int.ofNat 52)))) h14 fun t0aaaa h15 =>
 eff (.mset .str (.c t36) (.c (vS ([60, 61] : LN))) (.c (vI (Int.ofNat 53)))) h15 fun t0aaaaa h16 =>
 eff (.mset .str (.c t36) (.c (vS ([62, 61] : LN))) (.c (vI (Int.ofNat 53)))) h16 fun t0aaaaaa h17 =>
 obI .i64 (evL (.look .str (kI 0) false (.c t36) (.c (vS t0))) .leaf h17) fun t39 =>
 cal D 21 [(vI t39), (AV.int .u64 t1), (AV.int .u64 t2)] h17 fun t44 h18 =>
 extC t44 0 fun vt45 => asI .u32 vt45 fun t45 =>
 extC t44 1 fun vt46 => asI .i64 vt46 fun t46 =>
 let t48 : Bool := notQ (eqQ t46 (Int.ofNat 0))
 br t48 (
 let t49 : AV := (AV.agg [(vI (Int.ofNat 0)), (vW (Int.ofNat 0)), (AV.int .u64 (Int.ofNat 0)), (vS ([] : LN)), (vI (Int.ofNat 0))])
 stsC 5 t6 t49 h18 fun h19 =>
 XFn.endOf x158 D (.ret ⟨(mkT [(p6, t6), (p7, (vI (Int.ofNat 15)))]), h19, [], .no⟩)) (
 let t51 : Bool := eqQ t45 (Int.ofNat 1)
 let t53 : Bool := eqL t0 ([33, 61] : LN)
 let t54 : Bool := ((t51 == t53) != true)
 cal D 156 [(vB t54)] h18 fun t55 h20 =>
 stsC 5 t6 t55 h20 fun h21 =>
 XFn.endOf x158 D (.ret ⟨(mkT [(p6, t6), (p7, (vI (Int.ofNat 0)))]), h21, [], .no⟩))
def e158_1 (k) (t0 : LN) (t1 : Int) (t2 : Int) (t6 : AV) (t31 : Bool) (h) := kN k [(p0, (vS t0)), (p1, (AV.int .u64 t1)), (p2, (AV.int .u64 t2)), (p6, t6), (p31, (vB t31))] h
def S158_1 (D : CallD) (m : Nat) (t0 : LN) (t1 : Int) (t2 : Int) (t6 : AV) (t31 : Bool) (h : HP) : Res2 :=
 br t31 (
 S158_0 D m t0 t2 t1 t6 h) (
 S158_0 D m t0 t1 t2 t6 h)
def e158_2 (k) (t0 : LN) (t1 : Int) (t2 : Int) (h) := kN k [(p0, (vS t0)), (p1, (AV.int .u64 t1)), (p2, (AV.int .u64 t2))] h
def S158_2 (D : CallD) (m : Nat) (t0 : LN) (t1 : Int) (t2 : Int) (h : HP) : Res2 :=
 let t6 : AV := AV.ptr (HP.nxQ h) 0
 let h3 : HP := HP.newQ h (.cells true [(kI 0), (.int .u32 (.ofNat 0)), (.int .u64 (.ofNat 0)), (.str []), (kI 0)])
 let t14 : AV := AV.map (HP.nxQ h3)
 let h4 : HP := HP.newQ h3 (.map [] 0)
 eff (.mset .str (.c t14) (.c (vS ([43] : LN))) (.c (vI (Int.ofNat 45)))) h4 fun t0a h5 =>
 eff (.mset .str (.c t14) (.c (vS ([45] : LN))) (.c (vI (Int.ofNat 46)))) h5 fun t0aa h6 =>
 eff (.mset .str (.c t14) (.c (vS ([42] : LN))) (.c (vI (Int.ofNat 47)))) h6 fun t0aaa h7 =>
 eff (.mset .str (.c t14) (.c (vS ([47] : LN))) (.c (vI (Int.ofNat 48)))) h7 fun t0aaaa h8 =>
 obI .i64 (evL (.look .str (kI 0) false (.c t14) (.c (vS t0))) .leaf h8) fun t17 =>
 let t19 : Bool := notQ (eqQ t17 (Int.ofNat 0))
 br t19 (
 cal D 180 [(vI t17), (AV.int .u64 t1), (AV.int .u64 t2)] h8 fun t24 h9 =>
 extC t24 0 fun vt25 => asI .u64 vt25 fun t25 =>
 extC t24 1 fun vt26 => asI .i64 vt26 fun t26 =>
 let t28 : AV := (AV.agg [(vI (Int.ofNat 2)), (vW (Int.ofNat 0)), (AV.int .u64 t25), (vS ([] : LN)), (vI (Int.ofNat 0))])
 stsC 5 t6 t28 h9 fun h10 =>
 XFn.endOf x158 D (.ret ⟨(mkT [(p6, t6), (p7, (vI t26))]), h10, [], .no⟩)) (
 let t32 : Bool := eqL t0 ([62] : LN)
 br t32 (
 S158_1 D m t0 t1 t2 t6 t32 h8) (
 let t33 : Bool := eqL t0 ([62, 61] : LN)
 S158_1 D m t0 t1 t2 t6 t33 h8))
def S158 : SFn := fun D m args h u => nou u <| popS args fun t0 args => popI .u64 args fun t1 args => popI .u64 args fun t2 args => endA args (S158_2 D m t0 t1 t2 h)
theorem T158_0 {D m E} (hE : FX x158 D m E) : S158_0 D m = e158_0 (E c158_0 []) := by unfold S158_0; rw [hE c158_0]; kernel_rfl
theorem T158_1 {D m E} (hE : FX x158 D m E) : S158_1 D m = e158_1 (E c158_1 [.blk 0, .sj v158_0 c158_0]) := by unfold S158_1; rw [T158_0 hE, hE c158_1]; kernel_rfl
theorem T158_2 {D m E} (hE : FX x158 D m E) : S158_2 D m = e158_2 (E c158_e []) := by unfold S158_2; rw [T158_1 hE, hE c158_e]; kernel_rfl
theorem X158 (D m args h u) : S158 D m args h u = evFX x158 D m args h u := by unfold S158; rw [T158_2 (fix_ok D m (x158.endOf D))]; show _ = evFXE x158 (evE2 D m (x158.endOf D)) args h u; generalize evE2 D m (x158.endOf D) = E; kernel_rfl
/- 161 -/
def c161_e : XC := (.sO [.mv p4 (.c .nilp) .v] (.seq (.seq (.oX [.mv p7 q0 .v, .P p8 (.nilck q7) .v, .fa p9 1 q8, .ld p10 q9 .v, .mv p11 q1 .s, .L p12 (.look .str .nilp false q10 q11) .v, .mv p5 q12 .v]) (.seq (.oX [.mv p13 q5 .v, .L p14 (.eqp true q13 (.c .nilp)) .b]) (.cond q14 (.seq (.oX [.mv p15 q5 .v, .mv p4 q15 .v]) .ret) .skip))) (.sO [.mv p16 q0 .v, .P p17 (.nilck q16) .v, .fa p18 0 q17, .ld p19 q18 .v, .P p20 (.nilck q19) .v, .fa p21 1 q20, .ld p22 q21 .v, .mv p23 q1 .s, .L p24 (.look .str .nilp false q22 q23) .v, .mv p6 q24 .v] (.sO [.mv p25 q6 .v, .L p26 (.eqp true q25 (.c .nilp)) .b, .cl p27 46 [q26] .v] (.sO [.mv p28 q6 .v, .mv p4 q28 .v] (.s .ret))))))
def x161 : XFn := ⟨[.v, .s], false, [(.tmp p4)], c161_e⟩
def e161_0 (k) (t0 : AV) (t1 : LN) (h) := kN k [(p0, t0), (p1, (vS t1))] h
def S161_0 (D : CallD) (m : Nat) (t0 : AV) (t1 : LN) (h : HP) : Res2 :=
 nilckC t0 fun t8 =>
 faC 1 t8 fun t9 =>
 cellC t9 h fun t10 =>
 obQ (evL (.look .str .nilp false (.c t10) (.c (vS t1))) .leaf h) fun t12 =>
 obB (eqPtr true t12 (.nilp : AV) h) fun t14 =>
 br t14 (
 some (.ret t12 h, .no)) (
 nilckC t0 fun t17 =>
 faC 0 t17 fun t18 =>
 cellC t18 h fun t19 =>
 nilckC t19 fun t20 =>
 faC 1 t20 fun t21 =>
 cellC t21 h fun t22 =>
 obQ (evL (.look .str .nilp false (.c t22) (.c (vS t1))) .leaf h) fun t24 =>
 obB (eqPtr true t24 (.nilp : AV) h) fun t26 =>
 cal D 46 [(vB t26)] h fun t27 h1 =>
 some (.ret t24 h1, .no))
def S161 : SFn := fun D m args h u => nou u <| popV args fun t0 args => popS args fun t1 args => endA args (S161_0 D m t0 t1 h)
theorem T161_0 {D m E} (hE : FX x161 D m E) : S161_0 D m = e161_0 (E c161_e []) := by unfold S161_0; rw [hE c161_e]; kernel_rfl
theorem X161 (D m args h u) : S161 D m args h u = evFX x161 D m args h u := by unfold S161; rw [T161_0 (fix_ok D m (x161.endOf D))]; show _ = evFXE x161 (evE2 D m (x161.endOf D)) args h u; generalize evE2 D m (x161.endOf D) = E; kernel_rfl
/- 162 -/
def c162_e : XC := (.sO [.al p1 (.box q0), .mv p2 (.c .nilp) .v] (.seq (.ops true (XL.of [.fa p3 5 q1, .ld p4 q3 .v, .L p5 (.eqp true q4 (.c .nilp)) .b, .mv p6 q5 .b, .ge p6 (XL.of [.G p6 true p7 (.faddr 5 q1) .v, .o ⟨(some p8), (.l (.cell q7)), (some (p6, true)), []⟩ .v, .G p6 true p9 (.nilck q8) .v, .G p6 true p10 (.faddr 1 q9) .v, .o ⟨(some p11), (.l (.cell q10)), (some (p6, true)), []⟩ .b, .G p6 true p12 (.un .not q11) .b, .P p13 (.pick q6 q12 (cb false)) .b]) p13 .b, .mv p14 q13 .b, .ge p14 (XL.of [.G p14 true p15 (.faddr 6 q1) .v, .o ⟨(some p16), (.l (.cell q15)), (some (p14, true)), []⟩ tI, .G p14 true p17 (.faddr 5 q1) .v, .o ⟨(some p18), (.l (.cell q17)), (some (p14, true)), []⟩ .v, .G p14 true p19 (.nilck q18) .v, .G p14 true p20 (.faddr 0 q19) .v, .o ⟨(some p21), (.l (.cell q20)), (some (p14, true)), []⟩ .v, .G p14 true p22 (.lenl q21) tI, .G p14 true p23 (.bin .lss q16 q22) .b, .P p24 (.pick q14 q23 (cb false)) .b]) p24 .b, .cl p25 46 [q24] .v])) (.seq (.ops true (XL.of [.fa p26 5 q1, .ld p27 q26 .v, .P p28 (.nilck q27) .v, .fa p29 0 q28, .ld p30 q29 .v, .fa p31 6 q1, .ld p32 q31 tI, .P p33 (.iaddr (.sl 7) q30 q32) .v, .mv p2 q33 .v])) (.s .ret))))
def x162 : XFn := ⟨[.v], false, [(.tmp p2)], c162_e⟩
def e162_0 (k) (t0 : AV) (h) := kN k [(p0, t0)] h
def S162_0 (D : CallD) (m : Nat) (t0 : AV) (h : HP) : Res2 :=
 let t1 : AV := AV.ptr (HP.nxQ h) 0
 let h1 : HP := HP.newQ h (.cells true (AV.cells t0))
 let t3 : AV := (AV.ptr (HP.nxQ h) (Nat.add 0 5))
 cellC t3 h1 fun t4 =>
 obB (eqPtr true t4 (.nilp : AV) h1) fun t5 =>
 obB (brV t5 (
 let t7 : AV := (AV.ptr (HP.nxQ h) (Nat.add 0 5))
 cellCV t7 h1 fun t8 =>
 nilckCV t8 fun t9 =>
 faCV 1 t9 fun t10 =>
 ldBV t10 h1 fun t11 =>
 let t12 : Bool := !t11
 some (vB t12)) (
 some (vB false))) fun t13 =>
 obB (brV t13 (
 let t15 : AV := (AV.ptr (HP.nxQ h) (Nat.add 0 6))
 ldIV t15 h1 fun t16 =>
 let t17 : AV := (AV.ptr (HP.nxQ h) (Nat.add 0 5))
 cellCV t17 h1 fun t18 =>
 nilckCV t18 fun t19 =>
 faCV 0 t19 fun t20 =>
 cellCV t20 h1 fun t21 =>
 lenCV t21 fun vt22 => asIV .i64 vt22 fun t22 =>
 let t23 : Bool := ltQ t16 t22
 some (vB t23)) (
 some (vB false))) fun t24 =>
 cal D 46 [(vB t24)] h1 fun t25 h2 =>
 let t26 : AV := (AV.ptr (HP.nxQ h) (Nat.add 0 5))
 cellC t26 h2 fun t27 =>
 nilckC t27 fun t28 =>
 faC 0 t28 fun t29 =>
 cellC t29 h2 fun t30 =>
 let t31 : AV := (AV.ptr (HP.nxQ h) (Nat.add 0 6))
 ldI t31 h2 fun t32 =>
 iasC 7 t30 (vI t32) fun t33 =>
 some (.ret t33 h2, .no)
def S162 : SFn := fun D m args h u => nou u <| popV args fun t0 args => endA args (S162_0 D m t0 h)
theorem T162_0 {D m E} (hE : FX x162 D m E) : S162_0 D m = e162_0 (E c162_e []) := by unfold S162_0; rw [hE c162_e]; kernel_rfl
theorem X162 (D m args h u) : S162 D m args h u = evFX x162 D m args h u := by unfold S162; rw [T162_0 (fix_ok D m (x162.endOf D))]; show _ = evFXE x162 (evE2 D m (x162.endOf D)) args h u; generalize evE2 D m (x162.endOf D) = E; kernel_rfl
end
end Go.Proofs.YtblciblkocameaaGreat.Sx
