/- Functions, printed by a program of ours: their code, what they do, and that it is so. -/
import Derived.Test.YtdeeainihfnbdaaGreatDoorSp
set_option maxRecDepth 8000
set_option linter.unusedVariables false
namespace Go.Proofs.YtdeeainihfnbdaaGreatDoor.Sx
open Go Go.Proofs.YtdeeainihfnbdaaGreatDoor.Ev
set_option linter.unusedSectionVars false
noncomputable section
variable [Rho]
variable {D : CallD} {m : Nat} {E : XE}
/- 137 -/
def c137_e : XC := (.sO [.al p1 (.box q0), .al p2 (.new [.nils, (kI 0), (kI 0), (kI 0), (kI 0)]), .al p3 (.new [(kI 0), (.str []), (.str []), (.int .u32 (.ofNat 0)), (.int .u64 (.ofNat 0)), .nils, (kI 0), (kI 0)])] (.sO [.L p9 (.cells 5 q1) .v, .cl p10 28 [q9] .v, .al p4 (.new [(kI 0), (.str []), (kI 0)]), .ss 3 q4 q10] (.seq (.seq (.oX [.fa p11 0 q4, .ld p12 q11 tI]) (.block 0 (.seq (.oX [.bn p14 .eql q12 (ci 2) .b, .mv p13 q14 .b]) (.cond q13 (.seq (.ops true (XL.of [.L p15 (.cells 5 q1) .v, .fa p17 1 q4, .ld p18 q17 .s, .fa p21 2 q4, .ld p22 q21 tI, .o ⟨(some p16), (.call (.fn 55) [q15]), none, [⟨none, .cell q17, p18⟩, ⟨none, .cell q21, p22⟩]⟩ .v, .o ⟨(some p19), (.call (.fn 98) [q18]), none, [⟨none, .cell q21, p22⟩]⟩ tI, .P p20 (.conv (.ii .u32) q19) tW, .P p23 (.build [(kI 0), (.str []), (.str []), (.int .u32 (.ofNat 0)), (.int .u64 (.ofNat 0)), .nils, (kI 0), (kI 0)] [⟨0, 1, (ci 1)⟩, ⟨3, 1, q20⟩, ⟨7, 1, q22⟩]) .v, .o ⟨none, (.e (.stores 5 q2 q16)), none, [⟨none, .cell q21, p22⟩]⟩ .v, .ss 8 q3 q23])) .ret) (.seq (.oX [.bn p25 .eql q12 (ci 3) .b, .mv p24 q25 .b]) (.cond q24 (.seq (.oX [.fa p27 1 q4, .ld p28 q27 .s, .cl p29 140 [q28] .v, .mv p26 q29 .v, .P p30 (.ext q26 0) (.i .u64), .P p31 (.ext q26 1) .b, .mv p5 q30 (.i .u64), .mv p6 q31 .b]) (.seq (.ops true (XL.of [.L p32 (.cells 5 q1) .v, .mv p34 q5 (.i .u64), .fa p35 2 q4, .ld p36 q35 tI, .P p37 (.build [(kI 0), (.str []), (.str []), (.int .u32 (.ofNat 0)), (.int .u64 (.ofNat 0)), .nils, (kI 0), (kI 0)] [⟨0, 1, (ci 2)⟩, ⟨4, 1, q34⟩, ⟨7, 1, q36⟩]) .v, .o ⟨(some p33), (.call (.fn 55) [q32]), none, [⟨none, .cell q35, p36⟩]⟩ .v, .o ⟨none, (.e (.stores 5 q2 q33)), none, [⟨none, .cell q35, p36⟩]⟩ .v, .ss 8 q3 q37])) .ret)) (.seq (.oX [.bn p39 .eql q12 (ci 1) .b, .mv p38 q39 .b]) (.cond q38 (.seq (.oX [.L p40 (.cells 5 q1) .v, .cl p41 55 [q40] .v, .ss 5 q1 q41]) (.seq (.seq (.oX [.L p42 (.cells 5 q1) .v, .cl p43 54 [q42, (.c (.str [40]))] .b, .P p44 (.un .not q43) .b]) (.cond q44 (.seq (.ops true (XL.of [.L p45 (.cells 5 q1) .v, .fa p46 1 q4, .ld p47 q46 .s, .fa p48 2 q4, .ld p49 q48 tI, .P p50 (.build [(kI 0), (.str []), (.str []), (.int .u32 (.ofNat 0)), (.int .u64 (.ofNat 0)), .nils, (kI 0), (kI 0)] [⟨0, 1, (ci 3)⟩, ⟨2, 1, q47⟩, ⟨7, 1, q49⟩]) .v, .o ⟨none, (.e (.stores 5 q2 q45)), none, [⟨none, .cell q46, p47⟩, ⟨none, .cell q48, p49⟩]⟩ .v, .ss 8 q3 q50])) .ret) .skip)) (.seq (.oX [.fa p51 1 q4, .ld p52 q51 .s, .fa p53 2 q4, .ld p54 q53 tI, .P p55 (.build [(kI 0), (.str []), (.str []), (.int .u32 (.ofNat 0)), (.int .u64 (.ofNat 0)), .nils, (kI 0), (kI 0)] [⟨0, 1, (ci 7)⟩, ⟨2, 1, q52⟩, ⟨7, 1, q54⟩]) .v, .al p7 (.new [(kI 0), (.str []), (.str []), (.int .u32 (.ofNat 0)), (.int .u64 (.ofNat 0)), .nils, (kI 0), (kI 0)]), .ss 8 q7 q55]) (.seq (.oX [.L p57 (.cells 5 q1) .v, .cl p58 55 [q57] .v, .cl p59 141 [q58] .v, .mv p56 q59 .v, .P p60 (.ext q56 0) .v, .P p61 (.ext q56 1) .v, .ss 5 q1 q60, .fa p62 5 q7, .st q62 q61]) (.seq (.ops true (XL.of [.L p63 (.cells 5 q1) .v, .L p64 (.cells 8 q7) .v, .o ⟨none, (.e (.stores 5 q2 q63)), none, [⟨none, .cells 8 q7, p64⟩]⟩ .v, .ss 8 q3 q64])) .ret))))) .skip)))))))) (.sO [.P p65 (.build [(kI 0), (.str []), (.str []), (.int .u32 (.ofNat 0)), (.int .u64 (.ofNat 0)), .nils, (kI 0), (kI 0)] []) .v, .al p8 (.new [(kI 0), (.str []), (.str []), (.int .u32 (.ofNat 0)), (.int .u64 (.ofNat 0)), .nils, (kI 0), (kI 0)]), .ss 8 q8 q65] (.sO [.L p67 (.cells 5 q1) .v, .cl p68 60 [q67, (.c (.str [40]))] .v, .cl p69 62 [q68] .v, .mv p66 q69 .v, .P p70 (.ext q66 0) .v, .P p71 (.ext q66 1) .v, .ss 5 q1 q70, .ss 8 q8 q71] (.seq (.ops true (XL.of [.L p72 (.cells 5 q1) .v, .L p74 (.cells 8 q8) .v, .o ⟨(some p73), (.call (.fn 60) [q72, (.c (.str [41]))]), none, [⟨none, .cells 8 q8, p74⟩]⟩ .v, .o ⟨none, (.e (.stores 5 q2 q73)), none, [⟨none, .cells 8 q8, p74⟩]⟩ .v, .ss 8 q3 q74])) (.s .ret)))))))
def x137 : XFn := ⟨[.v], false, [(.cells 5 p2), (.cells 8 p3)], c137_e⟩
def e137_0 (k t0 h) := kN k [(p0, t0)] h
def S137_0 (D : CallD) (m : Nat) (t0 : AV) (h : HP) : Res2 :=
 let t1 := AV.ptr (HP.nxQ h) 0
 let h1 := HP.newQ h (.cells true (AV.cells t0))
 let t2 := AV.ptr (HP.nxQ h1) 0
 let h2 := HP.newQ h1 (.cells true [.nils, (kI 0), (kI 0), (kI 0), (kI 0)])
 let t3 := AV.ptr (HP.nxQ h2) 0
 let h3 := HP.newQ h2 (.cells true [(kI 0), (.str []), (.str []), (.int .u32 (.ofNat 0)), (.int .u64 (.ofNat 0)), .nils, (kI 0), (kI 0)])
 cellsC 5 t1 h3 fun t9 =>
 cal D 28 [t9] h3 fun t10 h4 =>
 let t4 := AV.ptr (HP.nxQ h4) 0
 let h5 := HP.newQ h4 (.cells true [(kI 0), (.str []), (kI 0)])
 stsC 3 t4 t10 h5 fun h6 =>
 let t11 := (AV.ptr (HP.nxQ h4) (Nat.add 0 0))
 ldI t11 h6 fun t12 =>
 let t14 := eqQ t12 (Int.ofNat 2)
 br t14 (
 cellsC 5 t1 h6 fun t15 =>
 let t17 := (AV.ptr (HP.nxQ h4) (Nat.add 0 1))
 ldS t17 h6 fun t18 =>
 let t21 := (AV.ptr (HP.nxQ h4) (Nat.add 0 2))
 ldI t21 h6 fun t22 =>
 cal D 55 [t15] h6 fun t16 h7 =>
 br (again [⟨none, .cell q17, p18⟩, ⟨none, .cell q21, p22⟩] (mkT [(p22, (vI t22)), (p21, t21), (p18, (vS t18)), (p17, t17)]) h7) (
 cal D 98 [(vS t18)] h7 fun t19 h8 =>
 br (again [⟨none, .cell q21, p22⟩] (mkT [(p22, (vI t22)), (p21, t21)]) h8) (
 asI .i64 t19 fun t19a =>
 let t20 := wrapF .u32 t19a
 let t23 := (AV.agg [(vI (Int.ofNat 1)), (vS ([] : LN)), (vS ([] : LN)), (vW t20), (AV.int .u64 (Int.ofNat 0)), (.nils : AV), (vI (Int.ofNat 0)), (vI t22)])
 stsC 5 t2 t16 h8 fun h9 =>
 br (againE (.stores 5 q2 q16) [⟨none, .cell q21, p22⟩] (mkT [(p2, t2), (p22, (vI t22)), (p21, t21)]) h9) (
 stsC 8 t3 t23 h9 fun h10 =>
 cellsC 5 t2 h10 fun t2a =>
 cellsC 8 t3 h10 fun t3a =>
 some (.ret (.tup [t2a, t3a]) h10, .no)) none) none) none) (
 let t25 := eqQ t12 (Int.ofNat 3)
 br t25 (
 let t27 := (AV.ptr (HP.nxQ h4) (Nat.add 0 1))
 ldS t27 h6 fun t28 =>
 cal D 140 [(vS t28)] h6 fun t29 h11 =>
 extC t29 0 fun vt30 => asI .u64 vt30 fun t30 =>
 extC t29 1 fun vt31 => asB vt31 fun t31 =>
 cellsC 5 t1 h11 fun t32 =>
 let t35 := (AV.ptr (HP.nxQ h4) (Nat.add 0 2))
 ldI t35 h11 fun t36 =>
 let t37 := (AV.agg [(vI (Int.ofNat 2)), (vS ([] : LN)), (vS ([] : LN)), (vW (Int.ofNat 0)), (AV.int .u64 t30), (.nils : AV), (vI (Int.ofNat 0)), (vI t36)])
 cal D 55 [t32] h11 fun t33 h12 =>
 br (again [⟨none, .cell q35, p36⟩] (mkT [(p36, (vI t36)), (p35, t35)]) h12) (
 stsC 5 t2 t33 h12 fun h13 =>
 br (againE (.stores 5 q2 q33) [⟨none, .cell q35, p36⟩] (mkT [(p2, t2), (p36, (vI t36)), (p35, t35)]) h13) (
 stsC 8 t3 t37 h13 fun h14 =>
 cellsC 5 t2 h14 fun t2a =>
 cellsC 8 t3 h14 fun t3a =>
 some (.ret (.tup [t2a, t3a]) h14, .no)) none) none) (
 let t39 := eqQ t12 (Int.ofNat 1)
 br t39 (
 cellsC 5 t1 h6 fun t40 =>
 cal D 55 [t40] h6 fun t41 h15 =>
 stsC 5 t1 t41 h15 fun h16 =>
 cellsC 5 t1 h16 fun t42 =>
 cal D 54 [t42, (vS ([40] : LN))] h16 fun t43 h17 =>
 asB t43 fun t43a =>
 let t44 := !t43a
 br t44 (
 cellsC 5 t1 h17 fun t45 =>
 let t46 := (AV.ptr (HP.nxQ h4) (Nat.add 0 1))
 ldS t46 h17 fun t47 =>
 let t48 := (AV.ptr (HP.nxQ h4) (Nat.add 0 2))
 ldI t48 h17 fun t49 =>
 let t50 := (AV.agg [(vI (Int.ofNat 3)), (vS ([] : LN)), (vS t47), (vW (Int.ofNat 0)), (AV.int .u64 (Int.ofNat 0)), (.nils : AV), (vI (Int.ofNat 0)), (vI t49)])
 stsC 5 t2 t45 h17 fun h18 =>
 br (againE (.stores 5 q2 q45) [⟨none, .cell q46, p47⟩, ⟨none, .cell q48, p49⟩] (mkT [(p2, t2), (p49, (vI t49)), (p48, t48), (p47, (vS t47)), (p46, t46)]) h18) (
 stsC 8 t3 t50 h18 fun h19 =>
 cellsC 5 t2 h19 fun t2a =>
 cellsC 8 t3 h19 fun t3a =>
 some (.ret (.tup [t2a, t3a]) h19, .no)) none) (
 let t51 := (AV.ptr (HP.nxQ h4) (Nat.add 0 1))
 ldS t51 h17 fun t52 =>
 let t53 := (AV.ptr (HP.nxQ h4) (Nat.add 0 2))
 ldI t53 h17 fun t54 =>
 let t55 := (AV.agg [(vI (Int.ofNat 7)), (vS ([] : LN)), (vS t52), (vW (Int.ofNat 0)), (AV.int .u64 (Int.ofNat 0)), (.nils : AV), (vI (Int.ofNat 0)), (vI t54)])
 let t7 := AV.ptr (HP.nxQ h17) 0
 let h20 := HP.newQ h17 (.cells true [(kI 0), (.str []), (.str []), (.int .u32 (.ofNat 0)), (.int .u64 (.ofNat 0)), .nils, (kI 0), (kI 0)])
 stsC 8 t7 t55 h20 fun h21 =>
 cellsC 5 t1 h21 fun t57 =>
 cal D 55 [t57] h21 fun t58 h22 =>
 cal D 141 [t58] h22 fun t59 h23 =>
 extC t59 0 fun t60 =>
 extC t59 1 fun t61 =>
 stsC 5 t1 t60 h23 fun h24 =>
 let t62 := (AV.ptr (HP.nxQ h17) (Nat.add 0 5))
 stoC t62 t61 h24 fun h25 =>
 cellsC 5 t1 h25 fun t63 =>
 cellsC 8 t7 h25 fun t64 =>
 stsC 5 t2 t63 h25 fun h26 =>
 br (againE (.stores 5 q2 q63) [⟨none, .cells 8 q7, p64⟩] (mkT [(p2, t2), (p64, t64), (p7, t7)]) h26) (
 stsC 8 t3 t64 h26 fun h27 =>
 cellsC 5 t2 h27 fun t2a =>
 cellsC 8 t3 h27 fun t3a =>
 some (.ret (.tup [t2a, t3a]) h27, .no)) none)) (
 let t65 := (AV.agg [(vI (Int.ofNat 0)), (vS ([] : LN)), (vS ([] : LN)), (vW (Int.ofNat 0)), (AV.int .u64 (Int.ofNat 0)), (.nils : AV), (vI (Int.ofNat 0)), (vI (Int.ofNat 0))])
 let t8 := AV.ptr (HP.nxQ h6) 0
 let h28 := HP.newQ h6 (.cells true [(kI 0), (.str []), (.str []), (.int .u32 (.ofNat 0)), (.int .u64 (.ofNat 0)), .nils, (kI 0), (kI 0)])
 stsC 8 t8 t65 h28 fun h29 =>
 cellsC 5 t1 h29 fun t67 =>
 cal D 60 [t67, (vS ([40] : LN))] h29 fun t68 h30 =>
 cal D 62 [t68] h30 fun t69 h31 =>
 extC t69 0 fun t70 =>
 extC t69 1 fun t71 =>
 stsC 5 t1 t70 h31 fun h32 =>
 stsC 8 t8 t71 h32 fun h33 =>
 cellsC 5 t1 h33 fun t72 =>
 cellsC 8 t8 h33 fun t74 =>
 cal D 60 [t72, (vS ([41] : LN))] h33 fun t73 h34 =>
 br (again [⟨none, .cells 8 q8, p74⟩] (mkT [(p74, t74), (p8, t8)]) h34) (
 stsC 5 t2 t73 h34 fun h35 =>
 br (againE (.stores 5 q2 q73) [⟨none, .cells 8 q8, p74⟩] (mkT [(p2, t2), (p74, t74), (p8, t8)]) h35) (
 stsC 8 t3 t74 h35 fun h36 =>
 cellsC 5 t2 h36 fun t2a =>
 cellsC 8 t3 h36 fun t3a =>
 some (.ret (.tup [t2a, t3a]) h36, .no)) none) none)))
def S137 : SFn := fun D m args h u => nou u <| popV args fun t0 args => endA args (S137_0 D m t0 h)
theorem T137_0 (hE : FX x137 D m E) : S137_0 D m = e137_0 (E c137_e []) := by unfold S137_0; rw [hE c137_e]; kernel_rfl
theorem X137 : XTie S137 x137 := X_of fun D m E hE args h u => by unfold S137; rw [T137_0 hE]; kernel_rfl
/- 141 -/
def v141_0 : List Pos := [p1, p2, p4]
def c141_0 : XC := (.sO [.L p36 (.cells 5 q1) .v, .mv p37 q4 .v, .ss 5 q2 q36, .mv p3 q37 .v] (.s .ret))
def v141_1 : List Pos := [p1, p2, p4]
def c141_1b : XC := (.seq (.seq (.oX [.fa p10 3 q1, .ld p11 q10 tI, .bn p12 .eql q11 (ci 0) .b]) (.cond q12 .skip (.exit 0))) (.block 1 (.seq (.seq (.oX [.mv p13 q4 .v, .P p14 (.lenl q13) tI, .bn p15 .geq q14 (ci 8) .b]) (.cond q15 (.seq (.oX [.L p16 (.cells 5 q1) .v, .cl p17 96 [q16, (ci 5)] .v, .ss 5 q2 q17, .mv p3 (.c .nils) .v]) .ret) .skip)) (.sO [.P p18 (.build [(kI 0), (.str []), (.str []), (.int .u32 (.ofNat 0)), (.int .u64 (.ofNat 0)), .nils, (kI 0), (kI 0)] []) .v, .al p5 (.new [(kI 0), (.str []), (.str []), (.int .u32 (.ofNat 0)), (.int .u64 (.ofNat 0)), .nils, (kI 0), (kI 0)]), .ss 8 q5 q18] (.sO [.L p20 (.cells 5 q1) .v, .cl p21 62 [q20] .v, .mv p19 q21 .v, .P p22 (.ext q19 0) .v, .P p23 (.ext q19 1) .v, .ss 5 q1 q22, .ss 8 q5 q23] (.sO [.mv p24 q4 .v, .L p25 (.cells 8 q5) .v, .al p26 (.bsl [(kI 0), (.str []), (.str []), (.int .u32 (.ofNat 0)), (.int .u64 (.ofNat 0)), .nils, (kI 0), (kI 0)] 1 [⟨0, 8, q25⟩]), .o ⟨(some p27), (.e (.app 8 96 q24 q26)), none, []⟩ .v, .mv p4 q27 .v] (.seq (.seq (.oX [.L p28 (.cells 5 q1) .v, .cl p29 54 [q28, (.c (.str [44]))] .b, .P p30 (.un .not q29) .b]) (.cond q30 (.seq (.oX [.L p31 (.cells 5 q1) .v, .cl p32 60 [q31, (.c (.str [41]))] .v, .mv p33 q4 .v, .ss 5 q2 q32, .mv p3 q33 .v]) .ret) .skip)) (.s (.oX [.L p34 (.cells 5 q1) .v, .cl p35 55 [q34] .v, .ss 5 q1 q35])))))))))
def c141_e : XC := (.sO [.al p1 (.box q0), .al p2 (.new [.nils, (kI 0), (kI 0), (kI 0), (kI 0)]), .mv p3 (.c .nils) .v] (.seq (.seq (.oX [.L p6 (.cells 5 q1) .v, .cl p7 54 [q6, (.c (.str [41]))] .b]) (.cond q7 (.seq (.oX [.L p8 (.cells 5 q1) .v, .cl p9 55 [q8] .v, .ss 5 q2 q9, .mv p3 (.c .nils) .v]) .ret) .skip)) (.sO [.mv p4 (.c .nils) .v] (.sj v141_0 (.block 0 (.loop v141_1 c141_1b)) c141_0))))
def x141 : XFn := ⟨[.v], false, [(.cells 5 p2), (.tmp p3)], c141_e⟩
def e141_0 (k t1 t2 t4 h) := kN k [(p1, t1), (p2, t2), (p4, t4)] h
def S141_0 (D : CallD) (m : Nat) (t1 t2 t4 : AV) (h : HP) : Res2 :=
 cellsC 5 t1 h fun t36 =>
 stsC 5 t2 t36 h fun h8 =>
 cellsC 5 t2 h8 fun t2a =>
 some (.ret (.tup [t2a, t4]) h8, .no)
def e141_1 (k t1 t2 t4 h) := kN k [(p1, t1), (p2, t2), (p4, t4)] h
def S141_1b (D : CallD) (m : Nat) (g1 : AV → AV → AV → HP → Res2) (t1 t2 t4 : AV) (h : HP) : Res2 :=
 faC 3 t1 fun t10 =>
 ldI t10 h fun t11 =>
 let t12 := eqQ t11 (Int.ofNat 0)
 br t12 (
 lenC t4 fun vt14 => asI .i64 vt14 fun t14 =>
 let t15 := leQ (Int.ofNat 8) t14
 br t15 (
 cellsC 5 t1 h fun t16 =>
 cal D 96 [t16, (vI (Int.ofNat 5))] h fun t17 h9 =>
 stsC 5 t2 t17 h9 fun h10 =>
 cellsC 5 t2 h10 fun t2a =>
 some (.ret (.tup [t2a, (.nils : AV)]) h10, .no)) (
 let t18 := (AV.agg [(vI (Int.ofNat 0)), (vS ([] : LN)), (vS ([] : LN)), (vW (Int.ofNat 0)), (AV.int .u64 (Int.ofNat 0)), (.nils : AV), (vI (Int.ofNat 0)), (vI (Int.ofNat 0))])
 let t5 := AV.ptr (HP.nxQ h) 0
 let h11 := HP.newQ h (.cells true [(kI 0), (.str []), (.str []), (.int .u32 (.ofNat 0)), (.int .u64 (.ofNat 0)), .nils, (kI 0), (kI 0)])
 stsC 8 t5 t18 h11 fun h12 =>
 cellsC 5 t1 h12 fun t20 =>
 cal D 62 [t20] h12 fun t21 h13 =>
 extC t21 0 fun t22 =>
 extC t21 1 fun t23 =>
 stsC 5 t1 t22 h13 fun h14 =>
 stsC 8 t5 t23 h14 fun h15 =>
 cellsC 8 t5 h15 fun t25 =>
 obQ (evA (.bsl [(kI 0), (.str []), (.str []), (.int .u32 (.ofNat 0)), (.int .u64 (.ofNat 0)), .nils, (kI 0), (kI 0)] 1 [⟨0, 8, (.c t25)⟩]) .leaf) fun r16 =>
 let t26 := vkV r16.2 (HP.nxQ h15)
 let h17 := HP.newQ h15 r16.1
 eff (.app 8 96 (.c t4) (.c t26)) h17 fun t27 h18 =>
 cellsC 5 t1 h18 fun t28 =>
 cal D 54 [t28, (vS ([44] : LN))] h18 fun t29 h19 =>
 asB t29 fun t29a =>
 let t30 := !t29a
 br t30 (
 cellsC 5 t1 h19 fun t31 =>
 cal D 60 [t31, (vS ([41] : LN))] h19 fun t32 h20 =>
 stsC 5 t2 t32 h20 fun h21 =>
 cellsC 5 t2 h21 fun t2a =>
 some (.ret (.tup [t2a, t27]) h21, .no)) (
 cellsC 5 t1 h19 fun t34 =>
 cal D 55 [t34] h19 fun t35 h22 =>
 stsC 5 t1 t35 h22 fun h23 =>
 g1 t1 t2 t27 h23))) (
 S141_0 D m t1 t2 t4 h)
def S141_1 (D : CallD) (m : Nat) : AV → AV → AV → HP → Res2 := nrec (fun _ _ _ _ => none) (fun _ g => S141_1b D m g) m
def e141_2 (k t0 h) := kN k [(p0, t0)] h
def S141_2 (D : CallD) (m : Nat) (t0 : AV) (h : HP) : Res2 :=
 let t1 := AV.ptr (HP.nxQ h) 0
 let h3 := HP.newQ h (.cells true (AV.cells t0))
 let t2 := AV.ptr (HP.nxQ h3) 0
 let h4 := HP.newQ h3 (.cells true [.nils, (kI 0), (kI 0), (kI 0), (kI 0)])
 cellsC 5 t1 h4 fun t6 =>
 cal D 54 [t6, (vS ([41] : LN))] h4 fun t7 h5 =>
 asB t7 fun t7a =>
 br t7a (
 cellsC 5 t1 h5 fun t8 =>
 cal D 55 [t8] h5 fun t9 h6 =>
 stsC 5 t2 t9 h6 fun h7 =>
 cellsC 5 t2 h7 fun t2a =>
 some (.ret (.tup [t2a, (.nils : AV)]) h7, .no)) (
 S141_1 D m t1 t2 (.nils : AV) h5)
def S141 : SFn := fun D m args h u => nou u <| popV args fun t0 args => endA args (S141_2 D m t0 h)
theorem T141_0 (hE : FX x141 D m E) : S141_0 D m = e141_0 (E c141_0 []) := by unfold S141_0; rw [hE c141_0]; kernel_rfl
theorem T141_1b (hE : FX x141 D m E) (G1) : S141_1b D m (e141_1 G1) = e141_1 (E c141_1b [.lp v141_1 G1, .blk 0, .sj v141_0 c141_0]) := by unfold S141_1b; rw [T141_0 hE, hE c141_1b]; kernel_rfl
theorem T141_1 (hE : FX x141 D m E) : S141_1 D m = e141_1 (nrec (fun _ => none) (fun _ G1 st => E c141_1b [.lp v141_1 G1, .blk 0, .sj v141_0 c141_0] st) m) :=
  nrec_emb e141_1 (fun _ _ _ _ => none) (fun g => S141_1b D m g) (fun G1 st => E c141_1b [.lp v141_1 G1, .blk 0, .sj v141_0 c141_0] st) rfl (fun g => T141_1b hE g) m
theorem T141_2 (hE : FX x141 D m E) : S141_2 D m = e141_2 (E c141_e []) := by unfold S141_2; rw [T141_1 hE, hE c141_e]; kernel_rfl
theorem X141 : XTie S141 x141 := X_of fun D m E hE args h u => by unfold S141; rw [T141_2 hE]; kernel_rfl
end
end Go.Proofs.YtdeeainihfnbdaaGreatDoor.Sx
