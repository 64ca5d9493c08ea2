/- Functions, printed by a program of ours: their code, what they do, and that it is so. -/
import Derived.Test.YtcoldhmbmcdemaaGreatSp
set_option maxRecDepth 8000
set_option linter.unusedVariables false
namespace Go.Proofs.YtcoldhmbmcdemaaGreat.Sx
open Go Go.Proofs.YtcoldhmbmcdemaaGreat.Ev
set_option linter.unusedSectionVars false
noncomputable section
variable [Rho]
variable {D : CallD} {m : Nat} {E : XE}
/- 116 -/
def v116_1 : List Pos := [p4, p6, p7]
def c116_1 : XC := (.sO [.L p96 (.cells 3 q6) .v, .mv p97 q7 tI, .ss 3 q4 q96, .mv p5 q97 tI] (.s .ret))
def v116_0 : List Pos := [p0, p1, p4, p6, p7]
def c116_0 : XC := (.sj v116_1 (.sO [.mv p89 q7 tI, .bn p90 .gtr q89 (ci 0) .b] (.cond q90 (.s (.oX [.mv p91 q0 .s, .mv p92 q1 tI, .mv p93 q7 tI, .P p94 (.slice .str q91 (some q92) (some q93) none) .s, .fa p95 1 q6, .st q95 q94])) (.s .skip))) c116_1)
def v116_2 : List Pos := [p0, p1, p4, p6, p7]
def c116_2 : XC := (.sO [.fa p37 0 q6, .st q37 (ci 1)] (.sO [.mv p38 q0 .s, .mv p39 q1 tI, .mv p40 q7 tI, .P p41 (.slice .str q38 (some q39) (some q40) none) .s, .cl p42 159 [q41] .b] (.cond q42 (.s (.oX [.fa p43 0 q6, .st q43 (ci 5)])) (.sO [.mv p44 q7 tI, .mv p45 q1 tI, .bn p46 .sub q44 q45 tI, .bn p47 .gtr q46 (ci 40) .b] (.cond q47 (.sO [.L p48 (.cells 3 q6) .v, .ss 3 q4 q48, .mv p5 (ci 0) tI] (.s .ret)) (.s .skip))))))
def v116_4 : List Pos := [p0, p1, p4, p6, p7]
def c116_4 : XC := (.block 1 (.s (.oX [.mv p35 q7 tI, .bn p36 .add q35 (ci 1) tI, .mv p7 q36 tI])))
def c116_7 : XC := (.cond q34 (.s .skip) (.s (.exit 0)))
def l116_6 : XL := (XL.of [])
def l116_5 : XL := (XL.pre [.P p34 (.pick q23 q33 (cb false)) .b, .jn p23 [p0, p1, p4, p6, p7, p34]] l116_6)
def v116_3 : List Pos := [p0, p1, p4, p6, p7]
def c116_3b : XC := (.sj v116_4 (.opq false (XL.pre [.mv p19 q7 tI, .mv p20 q0 .s, .P p21 (.lens q20) tI, .bn p22 .lss q19 q21 .b, .mv p23 q22 .b, .sp p23, .G p23 true p24 (.mov q0) .s, .G p23 true p25 (.mov q7) tI, .G p23 true p26 (.idxs q24 q25) tC, .o ⟨(some p27), (.call (.fn 157) [q26]), (some (p23, true)), []⟩ .b, .G p23 true p28 (.mov q27) .b, .sp p28, .G p28 false p29 (.mov q0) .s, .G p28 false p30 (.mov q7) tI, .G p28 false p31 (.idxs q29 q30) tC, .o ⟨(some p32), (.call (.fn 158) [q31]), (some (p28, false)), []⟩ .b, .G p23 true p33 (.pick q28 (cb true) q32) .b, .jn p28 [p0, p1, p4, p6, p7, p23, p33]] l116_5) c116_7) c116_4)
def v116_9 : List Pos := [p0, p1, p4, p6, p7]
def c116_9 : XC := (.s (.oX [.fa p88 0 q6, .st q88 (ci 4)]))
def v116_11 : List Pos := [p0, p1, p4, p6, p7, p8, p76]
def c116_11 : XC := (.s (.oX [.bn p87 .add q76 (ci 1) tI, .mv p76 q87 tI]))
def v116_10 : List Pos := [p0, p1, p4, p6, p7, p8, p76]
def c116_10b : XC := (.sO [.bn p77 .lss q76 (ci 8) .b] (.seq (.cond q77 .skip (.exit 4)) (.sj v116_11 (.block 5 (.sO [.mv p78 q76 tI, .mv p11 q78 tI] (.sO [.mv p79 q0 .s, .mv p80 q1 tI, .mv p81 q11 tI, .P p82 (.iaddr (.arr 8 1) q8 q81) .v, .ld p83 q82 .s, .cl p84 156 [q79, q80, q83] .b] (.cond q84 (.s (.oX [.mv p85 q1 tI, .bn p86 .add q85 (ci 2) tI, .mv p7 q86 tI])) (.s .skip))))) c116_11)))
def v116_8 : List Pos := [p0, p1, p4, p6, p7, p8]
def c116_8 : XC := (.sj v116_9 (.sO [.mv p76 (ci 0) tI] (.block 4 (.loop v116_10 c116_10b))) c116_9)
def v116_13 : List Pos := [p0, p1, p4, p6, p7, p8, p9, p10]
def c116_13 : XC := (.s (.oX [.mv p65 q10 tI, .bn p66 .add q65 (ci 1) tI, .mv p10 q66 tI]))
def v116_12 : List Pos := [p0, p1, p4, p6, p7, p8, p9, p10]
def c116_12b : XC := (.seq (.seq (.oX [.mv p61 q10 tI, .mv p62 q9 .s, .P p63 (.lens q62) tI, .bn p64 .lss q61 q63 .b]) (.cond q64 .skip (.exit 2))) (.sj v116_13 (.block 3 (.seq (.ops true (XL.of [.mv p67 q9 .s, .mv p68 q10 tI, .P p69 (.idxs q67 q68) tC, .mv p70 q0 .s, .mv p71 q1 tI, .P p72 (.idxs q70 q71) tC, .bn p73 .eql q69 q72 .b])) (.cond q73 (.s (.oX [.mv p74 q1 tI, .bn p75 .add q74 (ci 1) tI, .mv p7 q75 tI])) (.s .skip)))) c116_13))
def c116_e : XC := (.sO [.al p4 (.new [(kI 0), (.str []), (kI 0)]), .mv p5 (ci 0) tI] (.sO [.mv p12 q1 tI, .P p13 (.build [(kI 0), (.str []), (kI 0)] [⟨2, 1, q12⟩]) .v, .al p6 (.new [(kI 0), (.str []), (kI 0)]), .ss 3 q6 q13] (.sO [.mv p7 (ci 0) tI] (.sj v116_0 (.sO [.mv p14 q0 .s, .mv p15 q1 tI, .P p16 (.idxs q14 q15) tC, .cl p17 157 [q16] .b] (.cond q17 (.sO [.mv p18 q1 tI, .mv p7 q18 tI] (.sj v116_2 (.block 0 (.loop v116_3 c116_3b)) c116_2)) (.sO [.mv p49 q0 .s, .mv p50 q1 tI, .P p51 (.idxs q49 q50) tC, .cl p52 158 [q51] .b] (.cond q52 (.s (.oX [.mv p54 q0 .s, .mv p55 q1 tI, .cl p56 160 [q54, q55] .v, .mv p53 q56 .v, .P p57 (.ext q53 0) tI, .P p58 (.ext q53 1) tI, .fa p59 0 q6, .st q59 q57, .mv p7 q58 tI])) (.sO [.P p60 (.build [(.str []), (.str []), (.str []), (.str []), (.str []), (.str []), (.str []), (.str [])] [⟨0, 1, (.c (.str [60, 60]))⟩, ⟨1, 1, (.c (.str [62, 62]))⟩, ⟨2, 1, (.c (.str [60, 61]))⟩, ⟨3, 1, (.c (.str [62, 61]))⟩, ⟨4, 1, (.c (.str [61, 61]))⟩, ⟨5, 1, (.c (.str [33, 61]))⟩, ⟨6, 1, (.c (.str [38, 38]))⟩, ⟨7, 1, (.c (.str [124, 124]))⟩]) .v, .al p8 (.new [(.str []), (.str []), (.str []), (.str []), (.str []), (.str []), (.str []), (.str [])]), .ss 8 q8 q60] (.sO [.mv p9 (.c (.str [43, 45, 42, 47, 37, 38, 124, 94, 126, 33, 60, 62, 61, 40, 41, 123, 125, 91, 93, 59, 44])) .s] (.sj v116_8 (.sO [.mv p10 (ci 0) tI] (.block 2 (.loop v116_12 c116_12b))) c116_8))))))) c116_0))))
def x116 : XFn := ⟨[.s, tI], false, [(.cells 3 p4), (.tmp p5)], c116_e⟩
def e116_1 (k t4 t6 t7 h) := kN k [(p4, t4), (p6, t6), (p7, (vI t7))] h
def S116_1 (D : CallD) (m : Nat) (t4 t6 : AV) (t7 : Int) (h : HP) : Res2 :=
 cellsC 3 t6 h fun t96 =>
 stsC 3 t4 t96 h fun h18 =>
 cellsC 3 t4 h18 fun t4a =>
 some (.ret (.tup [t4a, (vI t7)]) h18, .no)
def e116_0 (k t0 t1 t4 t6 t7 h) := kN k [(p0, (vS t0)), (p1, (vI t1)), (p4, t4), (p6, t6), (p7, (vI t7))] h
def S116_0 (D : CallD) (m : Nat) (t0 : LN) (t1 : Int) (t4 t6 : AV) (t7 : Int) (h : HP) : Res2 :=
 let t90 := ltQ (Int.ofNat 0) t7
 br t90 (
 slC (vS t0) (some (vI t1)) (some (vI t7)) fun vt94 => asS vt94 fun t94 =>
 faC 1 t6 fun t95 =>
 stoC t95 (vS t94) h fun h19 =>
 S116_1 D m t4 t6 t7 h19) (
 S116_1 D m t4 t6 t7 h)
def e116_2 (k t0 t1 t4 t6 t7 h) := kN k [(p0, (vS t0)), (p1, (vI t1)), (p4, t4), (p6, t6), (p7, (vI t7))] h
def S116_2 (D : CallD) (m : Nat) (t0 : LN) (t1 : Int) (t4 t6 : AV) (t7 : Int) (h : HP) : Res2 :=
 faC 0 t6 fun t37 =>
 stoC t37 (vI (Int.ofNat 1)) h fun h21 =>
 slC (vS t0) (some (vI t1)) (some (vI t7)) fun vt41 => asS vt41 fun t41 =>
 cal D 159 [(vS t41)] h21 fun t42 h22 =>
 asB t42 fun t42a =>
 br t42a (
 faC 0 t6 fun t43 =>
 stoC t43 (vI (Int.ofNat 5)) h22 fun h23 =>
 S116_0 D m t0 t1 t4 t6 t7 h23) (
 let t46 := wrQ .i64 (t7 - t1)
 let t47 := ltQ (Int.ofNat 40) t46
 br t47 (
 cellsC 3 t6 h22 fun t48 =>
 stsC 3 t4 t48 h22 fun h24 =>
 cellsC 3 t4 h24 fun t4a =>
 some (.ret (.tup [t4a, (vI (Int.ofNat 0))]) h24, .no)) (
 S116_0 D m t0 t1 t4 t6 t7 h22))
def e116_4 (k t0 t1 t4 t6 t7 h) := kN k [(p0, (vS t0)), (p1, (vI t1)), (p4, t4), (p6, t6), (p7, (vI t7))] h
def S116_4 (D : CallD) (m : Nat) (g3 : LN → Int → AV → AV → Int → HP → Res2) (t0 : LN) (t1 : Int) (t4 t6 : AV) (t7 : Int) (h : HP) : Res2 :=
 let t36 := wrQ .i64 (addQ t7 (Int.ofNat 1))
 g3 t0 t1 t4 t6 t36 h
def e116_6 (k t0 t1 t4 t6 t7 t34 h) := kN k [(p0, (vS t0)), (p1, (vI t1)), (p4, t4), (p6, t6), (p7, (vI t7)), (p34, (vB t34))] h
def S116_6 (D : CallD) (m : Nat) (g3 : LN → Int → AV → AV → Int → HP → Res2) (t0 : LN) (t1 : Int) (t4 t6 : AV) (t7 : Int) (t34 : Bool) (h : HP) : Res2 :=
 br t34 (
 S116_4 D m g3 t0 t1 t4 t6 t7 h) (
 S116_2 D m t0 t1 t4 t6 t7 h)
def e116_5 (k t0 t1 t4 t6 t7 t23 t33 h) := kN k [(p0, (vS t0)), (p1, (vI t1)), (p4, t4), (p6, t6), (p7, (vI t7)), (p23, (vB t23)), (p33, (vB t33))] h
def S116_5 (D : CallD) (m : Nat) (g3 : LN → Int → AV → AV → Int → HP → Res2) (t0 : LN) (t1 : Int) (t4 t6 : AV) (t7 : Int) (t23 t33 : Bool) (h : HP) : Res2 :=
 obB (brV t23 (some (vB t33)) (some (vB false))) fun t34 =>
 S116_6 D m g3 t0 t1 t4 t6 t7 t34 h
def e116_3 (k t0 t1 t4 t6 t7 h) := kN k [(p0, (vS t0)), (p1, (vI t1)), (p4, t4), (p6, t6), (p7, (vI t7))] h
def S116_3b (D : CallD) (m : Nat) (g3 : LN → Int → AV → AV → Int → HP → Res2) (t0 : LN) (t1 : Int) (t4 t6 : AV) (t7 : Int) (h : HP) : Res2 :=
 let t21 := Int.ofNat (lenL t0)
 let t22 := ltQ t7 t21
 br t22 (
 ixC (vS t0) (vI t7) fun vt26 => asI .u8 vt26 fun t26 =>
 cal D 157 [(vC t26)] h fun t27 h25 =>
 asB t27 fun t27a =>
 br t27a (
 S116_5 D m g3 t0 t1 t4 t6 t7 true true h25) (
 ixC (vS t0) (vI t7) fun vt31 => asI .u8 vt31 fun t31 =>
 cal D 158 [(vC t31)] h25 fun t32 h26 =>
 asB t32 fun t32a =>
 S116_5 D m g3 t0 t1 t4 t6 t7 true t32a h26)) (
 S116_6 D m g3 t0 t1 t4 t6 t7 false h)
def S116_3 (D : CallD) (m : Nat) : LN → Int → AV → AV → Int → HP → Res2 := nrec (fun _ _ _ _ _ _ => none) (fun _ g => S116_3b D m g) m
def e116_9 (k t0 t1 t4 t6 t7 h) := kN k [(p0, (vS t0)), (p1, (vI t1)), (p4, t4), (p6, t6), (p7, (vI t7))] h
def S116_9 (D : CallD) (m : Nat) (t0 : LN) (t1 : Int) (t4 t6 : AV) (t7 : Int) (h : HP) : Res2 :=
 faC 0 t6 fun t88 =>
 stoC t88 (vI (Int.ofNat 4)) h fun h32 =>
 S116_0 D m t0 t1 t4 t6 t7 h32
def e116_11 (k t0 t1 t4 t6 t7 t8 t76 h) := kN k [(p0, (vS t0)), (p1, (vI t1)), (p4, t4), (p6, t6), (p7, (vI t7)), (p8, t8), (p76, (vI t76))] h
def S116_11 (D : CallD) (m : Nat) (g10 : LN → Int → AV → AV → Int → AV → Int → HP → Res2) (t0 : LN) (t1 : Int) (t4 t6 : AV) (t7 : Int) (t8 : AV) (t76 : Int) (h : HP) : Res2 :=
 let t87 := wrQ .i64 (addQ t76 (Int.ofNat 1))
 g10 t0 t1 t4 t6 t7 t8 t87 h
def e116_10 (k t0 t1 t4 t6 t7 t8 t76 h) := kN k [(p0, (vS t0)), (p1, (vI t1)), (p4, t4), (p6, t6), (p7, (vI t7)), (p8, t8), (p76, (vI t76))] h
def S116_10b (D : CallD) (m : Nat) (g10 : LN → Int → AV → AV → Int → AV → Int → HP → Res2) (t0 : LN) (t1 : Int) (t4 t6 : AV) (t7 : Int) (t8 : AV) (t76 : Int) (h : HP) : Res2 :=
 let t77 := ltQ t76 (Int.ofNat 8)
 br t77 (
 iarC 8 1 t8 (vI t76) fun t82 =>
 ldS t82 h fun t83 =>
 cal D 156 [(vS t0), (vI t1), (vS t83)] h fun t84 h33 =>
 asB t84 fun t84a =>
 br t84a (
 let t86 := wrQ .i64 (addQ t1 (Int.ofNat 2))
 S116_11 D m g10 t0 t1 t4 t6 t86 t8 t76 h33) (
 S116_11 D m g10 t0 t1 t4 t6 t7 t8 t76 h33)) (
 S116_9 D m t0 t1 t4 t6 t7 h)
def S116_10 (D : CallD) (m : Nat) : LN → Int → AV → AV → Int → AV → Int → HP → Res2 := nrec (fun _ _ _ _ _ _ _ _ => none) (fun _ g => S116_10b D m g) m
def e116_8 (k t0 t1 t4 t6 t7 t8 h) := kN k [(p0, (vS t0)), (p1, (vI t1)), (p4, t4), (p6, t6), (p7, (vI t7)), (p8, t8)] h
def S116_8 (D : CallD) (m : Nat) (t0 : LN) (t1 : Int) (t4 t6 : AV) (t7 : Int) (t8 : AV) (h : HP) : Res2 :=
 S116_10 D m t0 t1 t4 t6 t7 t8 (Int.ofNat 0) h
def e116_13 (k t0 t1 t4 t6 t7 t8 t9 t10 h) := kN k [(p0, (vS t0)), (p1, (vI t1)), (p4, t4), (p6, t6), (p7, (vI t7)), (p8, t8), (p9, (vS t9)), (p10, (vI t10))] h
def S116_13 (D : CallD) (m : Nat) (g12 : LN → Int → AV → AV → Int → AV → LN → Int → HP → Res2) (t0 : LN) (t1 : Int) (t4 t6 : AV) (t7 : Int) (t8 : AV) (t9 : LN) (t10 : Int) (h : HP) : Res2 :=
 let t66 := wrQ .i64 (addQ t10 (Int.ofNat 1))
 g12 t0 t1 t4 t6 t7 t8 t9 t66 h
def e116_12 (k t0 t1 t4 t6 t7 t8 t9 t10 h) := kN k [(p0, (vS t0)), (p1, (vI t1)), (p4, t4), (p6, t6), (p7, (vI t7)), (p8, t8), (p9, (vS t9)), (p10, (vI t10))] h
def S116_12b (D : CallD) (m : Nat) (g12 : LN → Int → AV → AV → Int → AV → LN → Int → HP → Res2) (t0 : LN) (t1 : Int) (t4 t6 : AV) (t7 : Int) (t8 : AV) (t9 : LN) (t10 : Int) (h : HP) : Res2 :=
 let t63 := Int.ofNat (lenL t9)
 let t64 := ltQ t10 t63
 br t64 (
 ixC (vS t9) (vI t10) fun vt69 => asI .u8 vt69 fun t69 =>
 ixC (vS t0) (vI t1) fun vt72 => asI .u8 vt72 fun t72 =>
 let t73 := eqQ t69 t72
 br t73 (
 let t75 := wrQ .i64 (addQ t1 (Int.ofNat 1))
 S116_13 D m g12 t0 t1 t4 t6 t75 t8 t9 t10 h) (
 S116_13 D m g12 t0 t1 t4 t6 t7 t8 t9 t10 h)) (
 S116_8 D m t0 t1 t4 t6 t7 t8 h)
def S116_12 (D : CallD) (m : Nat) : LN → Int → AV → AV → Int → AV → LN → Int → HP → Res2 := nrec (fun _ _ _ _ _ _ _ _ _ => none) (fun _ g => S116_12b D m g) m
def e116_14 (k t0 t1 h) := kN k [(p0, (vS t0)), (p1, (vI t1))] h
def S116_14 (D : CallD) (m : Nat) (t0 : LN) (t1 : Int) (h : HP) : Res2 :=
 let t4 := AV.ptr (HP.nxQ h) 0
 let h15 := HP.newQ h (.cells true [(kI 0), (.str []), (kI 0)])
 let t13 := (AV.agg [(vI (Int.ofNat 0)), (vS ([] : LN)), (vI t1)])
 let t6 := AV.ptr (HP.nxQ h15) 0
 let h16 := HP.newQ h15 (.cells true [(kI 0), (.str []), (kI 0)])
 stsC 3 t6 t13 h16 fun h17 =>
 ixC (vS t0) (vI t1) fun vt16 => asI .u8 vt16 fun t16 =>
 cal D 157 [(vC t16)] h17 fun t17 h20 =>
 asB t17 fun t17a =>
 br t17a (
 S116_3 D m t0 t1 t4 t6 t1 h20) (
 ixC (vS t0) (vI t1) fun vt51 => asI .u8 vt51 fun t51 =>
 cal D 158 [(vC t51)] h20 fun t52 h27 =>
 asB t52 fun t52a =>
 br t52a (
 cal D 160 [(vS t0), (vI t1)] h27 fun t56 h28 =>
 extC t56 0 fun vt57 => asI .i64 vt57 fun t57 =>
 extC t56 1 fun vt58 => asI .i64 vt58 fun t58 =>
 let t59 := (AV.ptr (HP.nxQ h15) (Nat.add 0 0))
 stoC t59 (vI t57) h28 fun h29 =>
 S116_0 D m t0 t1 t4 t6 t58 h29) (
 let t60 := (AV.agg [(vS ([60, 60] : LN)), (vS ([62, 62] : LN)), (vS ([60, 61] : LN)), (vS ([62, 61] : LN)), (vS ([61, 61] : LN)), (vS ([33, 61] : LN)), (vS ([38, 38] : LN)), (vS ([124, 124] : LN))])
 let t8 := AV.ptr (HP.nxQ h27) 0
 let h30 := HP.newQ h27 (.cells true [(.str []), (.str []), (.str []), (.str []), (.str []), (.str []), (.str []), (.str [])])
 stsC 8 t8 t60 h30 fun h31 =>
 S116_12 D m t0 t1 t4 t6 (Int.ofNat 0) t8 ([43, 45, 42, 47, 37, 38, 124, 94, 126, 33, 60, 62, 61, 40, 41, 123, 125, 91, 93, 59, 44] : LN) (Int.ofNat 0) h31))
def S116 : SFn := fun D m args h u => nou u <| popS args fun t0 args => popI .i64 args fun t1 args => endA args (S116_14 D m t0 t1 h)
theorem T116_1 (hE : FX x116 D m E) : S116_1 D m = e116_1 (E c116_1 []) := by unfold S116_1; rw [hE c116_1]; kernel_rfl
theorem T116_0 (hE : FX x116 D m E) : S116_0 D m = e116_0 (E c116_0 []) := by unfold S116_0; rw [T116_1 hE, hE c116_0]; kernel_rfl
theorem T116_2 (hE : FX x116 D m E) : S116_2 D m = e116_2 (E c116_2 [.sj v116_0 c116_0]) := by unfold S116_2; rw [T116_0 hE, hE c116_2]; kernel_rfl
theorem T116_4 (hE : FX x116 D m E) (G3) : S116_4 D m (e116_3 G3) = e116_4 (E c116_4 [.lp v116_3 G3, .blk 0, .sj v116_2 c116_2, .sj v116_0 c116_0]) := by unfold S116_4; rw [hE c116_4]; kernel_rfl
theorem T116_6 (hE : FX x116 D m E) (G3) : S116_6 D m (e116_3 G3) = e116_6 (E (.opq false l116_6 c116_7) [.sj v116_4 c116_4, .lp v116_3 G3, .blk 0, .sj v116_2 c116_2, .sj v116_0 c116_0]) := by unfold S116_6; rw [T116_4 hE G3, T116_2 hE, hE (.opq false l116_6 c116_7)]; kernel_rfl
theorem T116_5 (hE : FX x116 D m E) (G3) : S116_5 D m (e116_3 G3) = e116_5 (E (.opq false l116_5 c116_7) [.sj v116_4 c116_4, .lp v116_3 G3, .blk 0, .sj v116_2 c116_2, .sj v116_0 c116_0]) := by unfold S116_5; rw [T116_6 hE G3, hE (.opq false l116_5 c116_7)]; kernel_rfl
theorem T116_3b (hE : FX x116 D m E) (G3) : S116_3b D m (e116_3 G3) = e116_3 (E c116_3b [.lp v116_3 G3, .blk 0, .sj v116_2 c116_2, .sj v116_0 c116_0]) := by unfold S116_3b; rw [T116_5 hE G3, T116_6 hE G3, hE c116_3b]; kernel_rfl
theorem T116_3 (hE : FX x116 D m E) : S116_3 D m = e116_3 (nrec (fun _ => none) (fun _ G3 st => E c116_3b [.lp v116_3 G3, .blk 0, .sj v116_2 c116_2, .sj v116_0 c116_0] st) m) :=
  nrec_emb e116_3 (fun _ _ _ _ _ _ => none) (fun g => S116_3b D m g) (fun G3 st => E c116_3b [.lp v116_3 G3, .blk 0, .sj v116_2 c116_2, .sj v116_0 c116_0] st) rfl (fun g => T116_3b hE g) m
theorem T116_9 (hE : FX x116 D m E) : S116_9 D m = e116_9 (E c116_9 [.sj v116_0 c116_0]) := by unfold S116_9; rw [T116_0 hE, hE c116_9]; kernel_rfl
theorem T116_11 (hE : FX x116 D m E) (G10) : S116_11 D m (e116_10 G10) = e116_11 (E c116_11 [.lp v116_10 G10, .blk 4, .sj v116_9 c116_9, .sj v116_0 c116_0]) := by unfold S116_11; rw [hE c116_11]; kernel_rfl
theorem T116_10b (hE : FX x116 D m E) (G10) : S116_10b D m (e116_10 G10) = e116_10 (E c116_10b [.lp v116_10 G10, .blk 4, .sj v116_9 c116_9, .sj v116_0 c116_0]) := by unfold S116_10b; rw [T116_11 hE G10, T116_9 hE, hE c116_10b]; kernel_rfl
theorem T116_10 (hE : FX x116 D m E) : S116_10 D m = e116_10 (nrec (fun _ => none) (fun _ G10 st => E c116_10b [.lp v116_10 G10, .blk 4, .sj v116_9 c116_9, .sj v116_0 c116_0] st) m) :=
  nrec_emb e116_10 (fun _ _ _ _ _ _ _ _ => none) (fun g => S116_10b D m g) (fun G10 st => E c116_10b [.lp v116_10 G10, .blk 4, .sj v116_9 c116_9, .sj v116_0 c116_0] st) rfl (fun g => T116_10b hE g) m
theorem T116_8 (hE : FX x116 D m E) : S116_8 D m = e116_8 (E c116_8 [.sj v116_0 c116_0]) := by unfold S116_8; rw [T116_10 hE, hE c116_8]; kernel_rfl
theorem T116_13 (hE : FX x116 D m E) (G12) : S116_13 D m (e116_12 G12) = e116_13 (E c116_13 [.lp v116_12 G12, .blk 2, .sj v116_8 c116_8, .sj v116_0 c116_0]) := by unfold S116_13; rw [hE c116_13]; kernel_rfl
theorem T116_12b (hE : FX x116 D m E) (G12) : S116_12b D m (e116_12 G12) = e116_12 (E c116_12b [.lp v116_12 G12, .blk 2, .sj v116_8 c116_8, .sj v116_0 c116_0]) := by unfold S116_12b; rw [T116_13 hE G12, T116_8 hE, hE c116_12b]; kernel_rfl
theorem T116_12 (hE : FX x116 D m E) : S116_12 D m = e116_12 (nrec (fun _ => none) (fun _ G12 st => E c116_12b [.lp v116_12 G12, .blk 2, .sj v116_8 c116_8, .sj v116_0 c116_0] st) m) :=
  nrec_emb e116_12 (fun _ _ _ _ _ _ _ _ _ => none) (fun g => S116_12b D m g) (fun G12 st => E c116_12b [.lp v116_12 G12, .blk 2, .sj v116_8 c116_8, .sj v116_0 c116_0] st) rfl (fun g => T116_12b hE g) m
theorem T116_14 (hE : FX x116 D m E) : S116_14 D m = e116_14 (E c116_e []) := by unfold S116_14; rw [T116_3 hE, T116_0 hE, T116_12 hE, hE c116_e]; kernel_rfl
theorem X116 : XTie S116 x116 := X_of fun D m E hE args h u => by unfold S116; rw [T116_14 hE]; kernel_rfl
/- 117 -/
def c117_3 : XC := (.s .ret)
def l117_2 : XL := (XL.of [.mv p4 q26 .b])
def l117_1 : XL := (XL.pre [.mv p20 q19 .b, .sp p20, .o ⟨(some p21), (.l (.cells 5 q2)), (some (p20, true)), []⟩ .v, .o ⟨(some p22), (.call (.fn 82) [q21]), (some (p20, true)), []⟩ .v, .G p20 true p23 (.field 1 1 false q22) .s, .G p20 true p24 (.mov q1) .s, .G p20 true p25 (.bin .eql q23 q24) .b, .P p26 (.pick q20 q25 (cb false)) .b, .jn p20 [p26]] l117_2)
def l117_0 : XL := (XL.pre [.P p19 (.pick q8 q18 (cb false)) .b, .jn p8 [p1, p2, p19]] l117_1)
def c117_e : XC := (.sO [.al p2 (.box q0), .mv p4 (cb false) .b] (.opq false (XL.pre [.fa p5 3 q2, .ld p6 q5 tI, .bn p7 .eql q6 (ci 0) .b, .mv p8 q7 .b, .sp p8, .o ⟨(some p9), (.l (.cells 5 q2)), (some (p8, true)), []⟩ .v, .o ⟨(some p10), (.call (.fn 82) [q9]), (some (p8, true)), []⟩ .v, .G p8 true p11 (.field 0 1 false q10) tI, .G p8 true p12 (.bin .eql q11 (ci 4)) .b, .G p8 true p13 (.mov q12) .b, .sp p13, .o ⟨(some p14), (.l (.cells 5 q2)), (some (p13, false)), []⟩ .v, .o ⟨(some p15), (.call (.fn 82) [q14]), (some (p13, false)), []⟩ .v, .G p13 false p16 (.field 0 1 false q15) tI, .G p13 false p17 (.bin .eql q16 (ci 5)) .b, .G p8 true p18 (.pick q13 (cb true) q17) .b, .jn p13 [p1, p2, p8, p18]] l117_0) c117_3))
def x117 : XFn := ⟨[.v, .s], false, [(.tmp p4)], c117_e⟩
def e117_2 (k t26 h) := kN k [(p26, (vB t26))] h
def S117_2 (D : CallD) (m : Nat) (t26 : Bool) (h : HP) : Res2 :=
 some (.ret (vB t26) h, .no)
def e117_1 (k t1 t2 t19 h) := kN k [(p1, (vS t1)), (p2, t2), (p19, (vB t19))] h
def S117_1 (D : CallD) (m : Nat) (t1 : LN) (t2 : AV) (t19 : Bool) (h : HP) : Res2 :=
 br t19 (
 cellsC 5 t2 h fun t21 =>
 cal D 82 [t21] h fun t22 h7 =>
 fldC 1 1 false t22 fun vt23 => asS vt23 fun t23 =>
 let t25 := eqL t23 t1
 S117_2 D m t25 h7) (
 S117_2 D m false h)
def e117_0 (k t1 t2 t8 t18 h) := kN k [(p1, (vS t1)), (p2, t2), (p8, (vB t8)), (p18, (vB t18))] h
def S117_0 (D : CallD) (m : Nat) (t1 : LN) (t2 : AV) (t8 t18 : Bool) (h : HP) : Res2 :=
 obB (brV t8 (some (vB t18)) (some (vB false))) fun t19 =>
 S117_1 D m t1 t2 t19 h
def e117_4 (k t0 t1 h) := kN k [(p0, t0), (p1, (vS t1))] h
def S117_4 (D : CallD) (m : Nat) (t0 : AV) (t1 : LN) (h : HP) : Res2 :=
 let t2 := AV.ptr (HP.nxQ h) 0
 let h5 := HP.newQ h (.cells true (AV.cells t0))
 let t5 := (AV.ptr (HP.nxQ h) (Nat.add 0 3))
 ldI t5 h5 fun t6 =>
 let t7 := eqQ t6 (Int.ofNat 0)
 br t7 (
 cellsC 5 t2 h5 fun t9 =>
 cal D 82 [t9] h5 fun t10 h6 =>
 fldC 0 1 false t10 fun vt11 => asI .i64 vt11 fun t11 =>
 let t12 := eqQ t11 (Int.ofNat 4)
 br t12 (
 S117_0 D m t1 t2 true true h6) (
 cellsC 5 t2 h6 fun t14 =>
 cal D 82 [t14] h6 fun t15 h8 =>
 fldC 0 1 false t15 fun vt16 => asI .i64 vt16 fun t16 =>
 let t17 := eqQ t16 (Int.ofNat 5)
 S117_0 D m t1 t2 true t17 h8)) (
 S117_1 D m t1 t2 false h5)
def S117 : SFn := fun D m args h u => nou u <| popV args fun t0 args => popS args fun t1 args => endA args (S117_4 D m t0 t1 h)
theorem T117_2 (hE : FX x117 D m E) : S117_2 D m = e117_2 (E (.opq false l117_2 c117_3) []) := by unfold S117_2; rw [hE (.opq false l117_2 c117_3)]; kernel_rfl
theorem T117_1 (hE : FX x117 D m E) : S117_1 D m = e117_1 (E (.opq false l117_1 c117_3) []) := by unfold S117_1; rw [T117_2 hE, hE (.opq false l117_1 c117_3)]; kernel_rfl
theorem T117_0 (hE : FX x117 D m E) : S117_0 D m = e117_0 (E (.opq false l117_0 c117_3) []) := by unfold S117_0; rw [T117_1 hE, hE (.opq false l117_0 c117_3)]; kernel_rfl
theorem T117_4 (hE : FX x117 D m E) : S117_4 D m = e117_4 (E c117_e []) := by unfold S117_4; rw [T117_0 hE, T117_1 hE, hE c117_e]; kernel_rfl
theorem X117 : XTie S117 x117 := X_of fun D m E hE args h u => by unfold S117; rw [T117_4 hE]; kernel_rfl
/- 118 -/
def v118_0 : List Pos := [p1, p2]
def c118_0 : XC := (.sO [.L p16 (.cells 5 q1) .v, .ss 5 q2 q16] (.s .ret))
def c118_2 : XC := (.cond q11 (.s (.oX [.fa p12 1 q1, .ld p13 q12 tI, .bn p14 .add q13 (ci 1) tI, .fa p15 1 q1, .st q15 q14])) (.s .skip))
def l118_1 : XL := (XL.of [])
def c118_e : XC := (.sO [.al p1 (.box q0), .al p2 (.new [.nils, (kI 0), (kI 0), (kI 0), (kI 0)])] (.sj v118_0 (.opq false (XL.pre [.fa p3 3 q1, .ld p4 q3 tI, .bn p5 .eql q4 (ci 0) .b, .mv p6 q5 .b, .sp p6, .o ⟨(some p7), (.l (.cells 5 q1)), (some (p6, true)), []⟩ .v, .o ⟨(some p8), (.call (.fn 82) [q7]), (some (p6, true)), []⟩ .v, .G p6 true p9 (.field 0 1 false q8) tI, .G p6 true p10 (.bin .neq q9 (ci 0)) .b, .P p11 (.pick q6 q10 (cb false)) .b, .jn p6 [p1, p2, p11]] l118_1) c118_2) c118_0))
def x118 : XFn := ⟨[.v], false, [(.cells 5 p2)], c118_e⟩
def e118_0 (k t1 t2 h) := kN k [(p1, t1), (p2, t2)] h
def S118_0 (D : CallD) (m : Nat) (t1 t2 : AV) (h : HP) : Res2 :=
 cellsC 5 t1 h fun t16 =>
 stsC 5 t2 t16 h fun h6 =>
 cellsC 5 t2 h6 fun t2a =>
 some (.ret t2a h6, .no)
def e118_1 (k t1 t2 t11 h) := kN k [(p1, t1), (p2, t2), (p11, (vB t11))] h
def S118_1 (D : CallD) (m : Nat) (t1 t2 : AV) (t11 : Bool) (h : HP) : Res2 :=
 br t11 (
 faC 1 t1 fun t12 =>
 ldI t12 h fun t13 =>
 let t14 := wrQ .i64 (addQ t13 (Int.ofNat 1))
 faC 1 t1 fun t15 =>
 stoC t15 (vI t14) h fun h8 =>
 S118_0 D m t1 t2 h8) (
 S118_0 D m t1 t2 h)
def e118_3 (k t0 h) := kN k [(p0, t0)] h
def S118_3 (D : CallD) (m : Nat) (t0 : AV) (h : HP) : Res2 :=
 let t1 := AV.ptr (HP.nxQ h) 0
 let h4 := HP.newQ h (.cells true (AV.cells t0))
 let t2 := AV.ptr (HP.nxQ h4) 0
 let h5 := HP.newQ h4 (.cells true [.nils, (kI 0), (kI 0), (kI 0), (kI 0)])
 let t3 := (AV.ptr (HP.nxQ h) (Nat.add 0 3))
 ldI t3 h5 fun t4 =>
 let t5 := eqQ t4 (Int.ofNat 0)
 br t5 (
 cellsC 5 t1 h5 fun t7 =>
 cal D 82 [t7] h5 fun t8 h7 =>
 fldC 0 1 false t8 fun vt9 => asI .i64 vt9 fun t9 =>
 let t10 := notQ (eqQ t9 (Int.ofNat 0))
 S118_1 D m t1 t2 t10 h7) (
 S118_1 D m t1 t2 false h5)
def S118 : SFn := fun D m args h u => nou u <| popV args fun t0 args => endA args (S118_3 D m t0 h)
theorem T118_0 (hE : FX x118 D m E) : S118_0 D m = e118_0 (E c118_0 []) := by unfold S118_0; rw [hE c118_0]; kernel_rfl
theorem T118_1 (hE : FX x118 D m E) : S118_1 D m = e118_1 (E (.opq false l118_1 c118_2) [.sj v118_0 c118_0]) := by unfold S118_1; rw [T118_0 hE, hE (.opq false l118_1 c118_2)]; kernel_rfl
theorem T118_3 (hE : FX x118 D m E) : S118_3 D m = e118_3 (E c118_e []) := by unfold S118_3; rw [T118_1 hE, hE c118_e]; kernel_rfl
theorem X118 : XTie S118 x118 := X_of fun D m E hE args h u => by unfold S118; rw [T118_3 hE]; kernel_rfl
/- 119 -/
def v119_0 : List Pos := [p1, p2]
def c119_0 : XC := (.sO [.L p23 (.cells 5 q1) .v, .cl p24 123 [q23, (.c (.str [118, 111, 105, 100]))] .v, .ss 5 q2 q24, .mv p3 (ci 0) tI] (.s .ret))
def v119_2 : List Pos := [p1, p2, p4]
def c119_2 : XC := (.sO [.L p13 (.cells 5 q1) .v, .cl p14 118 [q13] .v, .ss 5 q1 q14] (.seq (.seq (.oX [.L p15 (.cells 5 q1) .v, .cl p16 117 [q15, (.c (.str [42]))] .b]) (.cond q16 (.seq (.oX [.L p17 (.cells 5 q1) .v, .cl p18 118 [q17] .v, .mv p19 q4 tI, .bn p20 .add q19 (ci 2) tI, .ss 5 q2 q18, .mv p3 q20 tI]) .ret) .skip)) (.sO [.L p21 (.cells 5 q1) .v, .mv p22 q4 tI, .ss 5 q2 q21, .mv p3 q22 tI] (.s .ret))))
def c119_3 : XC := (.cond q10 (.sO [.mv p4 (ci 1) tI] (.sj v119_2 (.sO [.L p11 (.cells 5 q1) .v, .cl p12 117 [q11, (.c (.str [100, 111, 117, 98, 108, 101]))] .b] (.cond q12 (.s (.oX [.mv p4 (ci 2) tI])) (.s .skip))) c119_2)) (.s .skip))
def l119_1 : XL := (XL.of [])
def c119_e : XC := (.sO [.al p1 (.box q0), .al p2 (.new [.nils, (kI 0), (kI 0), (kI 0), (kI 0)]), .mv p3 (ci 0) tI] (.sj v119_0 (.opq false (XL.pre [.L p5 (.cells 5 q1) .v, .cl p6 117 [q5, (.c (.str [105, 110, 116]))] .b, .mv p7 q6 .b, .sp p7, .o ⟨(some p8), (.l (.cells 5 q1)), (some (p7, false)), []⟩ .v, .o ⟨(some p9), (.call (.fn 117) [q8, (.c (.str [100, 111, 117, 98, 108, 101]))]), (some (p7, false)), []⟩ .b, .P p10 (.pick q7 (cb true) q9) .b, .jn p7 [p1, p2, p10]] l119_1) c119_3) c119_0))
def x119 : XFn := ⟨[.v], false, [(.cells 5 p2), (.tmp p3)], c119_e⟩
def e119_0 (k t1 t2 h) := kN k [(p1, t1), (p2, t2)] h
def S119_0 (D : CallD) (m : Nat) (t1 t2 : AV) (h : HP) : Res2 :=
 cellsC 5 t1 h fun t23 =>
 cal D 123 [t23, (vS ([118, 111, 105, 100] : LN))] h fun t24 h7 =>
 stsC 5 t2 t24 h7 fun h8 =>
 cellsC 5 t2 h8 fun t2a =>
 some (.ret (.tup [t2a, (vI (Int.ofNat 0))]) h8, .no)
def e119_2 (k t1 t2 t4 h) := kN k [(p1, t1), (p2, t2), (p4, (vI t4))] h
def S119_2 (D : CallD) (m : Nat) (t1 t2 : AV) (t4 : Int) (h : HP) : Res2 :=
 cellsC 5 t1 h fun t13 =>
 cal D 118 [t13] h fun t14 h10 =>
 stsC 5 t1 t14 h10 fun h11 =>
 cellsC 5 t1 h11 fun t15 =>
 cal D 117 [t15, (vS ([42] : LN))] h11 fun t16 h12 =>
 asB t16 fun t16a =>
 br t16a (
 cellsC 5 t1 h12 fun t17 =>
 cal D 118 [t17] h12 fun t18 h13 =>
 let t20 := wrQ .i64 (addQ t4 (Int.ofNat 2))
 stsC 5 t2 t18 h13 fun h14 =>
 cellsC 5 t2 h14 fun t2a =>
 some (.ret (.tup [t2a, (vI t20)]) h14, .no)) (
 cellsC 5 t1 h12 fun t21 =>
 stsC 5 t2 t21 h12 fun h15 =>
 cellsC 5 t2 h15 fun t2a =>
 some (.ret (.tup [t2a, (vI t4)]) h15, .no))
def e119_1 (k t1 t2 t10 h) := kN k [(p1, t1), (p2, t2), (p10, (vB t10))] h
def S119_1 (D : CallD) (m : Nat) (t1 t2 : AV) (t10 : Bool) (h : HP) : Res2 :=
 br t10 (
 cellsC 5 t1 h fun t11 =>
 cal D 117 [t11, (vS ([100, 111, 117, 98, 108, 101] : LN))] h fun t12 h16 =>
 asB t12 fun t12a =>
 br t12a (
 S119_2 D m t1 t2 (Int.ofNat 2) h16) (
 S119_2 D m t1 t2 (Int.ofNat 1) h16)) (
 S119_0 D m t1 t2 h)
def e119_4 (k t0 h) := kN k [(p0, t0)] h
def S119_4 (D : CallD) (m : Nat) (t0 : AV) (h : HP) : Res2 :=
 let t1 := AV.ptr (HP.nxQ h) 0
 let h5 := HP.newQ h (.cells true (AV.cells t0))
 let t2 := AV.ptr (HP.nxQ h5) 0
 let h6 := HP.newQ h5 (.cells true [.nils, (kI 0), (kI 0), (kI 0), (kI 0)])
 cellsC 5 t1 h6 fun t5 =>
 cal D 117 [t5, (vS ([105, 110, 116] : LN))] h6 fun t6 h9 =>
 asB t6 fun t6a =>
 br t6a (
 S119_1 D m t1 t2 true h9) (
 cellsC 5 t1 h9 fun t8 =>
 cal D 117 [t8, (vS ([100, 111, 117, 98, 108, 101] : LN))] h9 fun t9 h17 =>
 asB t9 fun t9a =>
 S119_1 D m t1 t2 t9a h17)
def S119 : SFn := fun D m args h u => nou u <| popV args fun t0 args => endA args (S119_4 D m t0 h)
theorem T119_0 (hE : FX x119 D m E) : S119_0 D m = e119_0 (E c119_0 []) := by unfold S119_0; rw [hE c119_0]; kernel_rfl
theorem T119_2 (hE : FX x119 D m E) : S119_2 D m = e119_2 (E c119_2 [.sj v119_0 c119_0]) := by unfold S119_2; rw [hE c119_2]; kernel_rfl
theorem T119_1 (hE : FX x119 D m E) : S119_1 D m = e119_1 (E (.opq false l119_1 c119_3) [.sj v119_0 c119_0]) := by unfold S119_1; rw [T119_2 hE, T119_0 hE, hE (.opq false l119_1 c119_3)]; kernel_rfl
theorem T119_4 (hE : FX x119 D m E) : S119_4 D m = e119_4 (E c119_e []) := by unfold S119_4; rw [T119_1 hE, hE c119_e]; kernel_rfl
theorem X119 : XTie S119 x119 := X_of fun D m E hE args h u => by unfold S119; rw [T119_4 hE]; kernel_rfl
/- 120 -/
def v120_0 : List Pos := [p2, p4]
def c120_0 : XC := (.seq (.ops true (XL.of [.L p18 (.cells 5 q2) .v, .L p20 (.cells 5 q2) .v, .o ⟨(some p19), (.call (.fn 118) [q18]), none, [⟨none, .cells 5 q2, p20⟩]⟩ .v, .cl p21 82 [q20] .v, .P p22 (.field 1 1 false q21) .s, .ss 5 q4 q19, .mv p5 q22 .s])) (.s .ret))
def c120_2 : XC := (.cond q15 (.sO [.L p16 (.cells 5 q2) .v, .cl p17 161 [q16, (ci 11)] .v, .ss 5 q4 q17, .mv p5 (.c (.str [])) .s] (.s .ret)) (.s .skip))
def l120_1 : XL := (XL.of [])
def c120_e : XC := (.sO [.al p2 (.box q0), .al p4 (.new [.nils, (kI 0), (kI 0), (kI 0), (kI 0)]), .mv p5 (.c (.str [])) .s] (.sj v120_0 (.opq false (XL.pre [.fa p6 3 q2, .ld p7 q6 tI, .bn p8 .neq q7 (ci 0) .b, .mv p9 q8 .b, .sp p9, .o ⟨(some p10), (.l (.cells 5 q2)), (some (p9, false)), []⟩ .v, .o ⟨(some p11), (.call (.fn 82) [q10]), (some (p9, false)), []⟩ .v, .G p9 false p12 (.field 0 1 false q11) tI, .G p9 false p13 (.mov q1) tI, .G p9 false p14 (.bin .neq q12 q13) .b, .P p15 (.pick q9 (cb true) q14) .b, .jn p9 [p2, p4, p15]] l120_1) c120_2) c120_0))
def x120 : XFn := ⟨[.v, tI], false, [(.cells 5 p4), (.tmp p5)], c120_e⟩
def e120_0 (k t2 t4 h) := kN k [(p2, t2), (p4, t4)] h
def S120_0 (D : CallD) (m : Nat) (t2 t4 : AV) (h : HP) : Res2 :=
 cellsC 5 t2 h fun t18 =>
 cellsC 5 t2 h fun t20 =>
 cal D 118 [t18] h fun t19 h6 =>
 br (again [⟨none, .cells 5 q2, p20⟩] (mkT [(p20, t20), (p2, t2)]) h6) (
 cal D 82 [t20] h6 fun t21 h7 =>
 fldC 1 1 false t21 fun vt22 => asS vt22 fun t22 =>
 stsC 5 t4 t19 h7 fun h8 =>
 cellsC 5 t4 h8 fun t4a =>
 some (.ret (.tup [t4a, (vS t22)]) h8, .no)) none
def e120_1 (k t2 t4 t15 h) := kN k [(p2, t2), (p4, t4), (p15, (vB t15))] h
def S120_1 (D : CallD) (m : Nat) (t2 t4 : AV) (t15 : Bool) (h : HP) : Res2 :=
 br t15 (
 cellsC 5 t2 h fun t16 =>
 cal D 161 [t16, (vI (Int.ofNat 11))] h fun t17 h9 =>
 stsC 5 t4 t17 h9 fun h10 =>
 cellsC 5 t4 h10 fun t4a =>
 some (.ret (.tup [t4a, (vS ([] : LN))]) h10, .no)) (
 S120_0 D m t2 t4 h)
def e120_3 (k t0 t1 h) := kN k [(p0, t0), (p1, (vI t1))] h
def S120_3 (D : CallD) (m : Nat) (t0 : AV) (t1 : Int) (h : HP) : Res2 :=
 let t2 := AV.ptr (HP.nxQ h) 0
 let h4 := HP.newQ h (.cells true (AV.cells t0))
 let t4 := AV.ptr (HP.nxQ h4) 0
 let h5 := HP.newQ h4 (.cells true [.nils, (kI 0), (kI 0), (kI 0), (kI 0)])
 let t6 := (AV.ptr (HP.nxQ h) (Nat.add 0 3))
 ldI t6 h5 fun t7 =>
 let t8 := notQ (eqQ t7 (Int.ofNat 0))
 br t8 (
 S120_1 D m t2 t4 true h5) (
 cellsC 5 t2 h5 fun t10 =>
 cal D 82 [t10] h5 fun t11 h11 =>
 fldC 0 1 false t11 fun vt12 => asI .i64 vt12 fun t12 =>
 let t14 := notQ (eqQ t12 t1)
 S120_1 D m t2 t4 t14 h11)
def S120 : SFn := fun D m args h u => nou u <| popV args fun t0 args => popI .i64 args fun t1 args => endA args (S120_3 D m t0 t1 h)
theorem T120_0 (hE : FX x120 D m E) : S120_0 D m = e120_0 (E c120_0 []) := by unfold S120_0; rw [hE c120_0]; kernel_rfl
theorem T120_1 (hE : FX x120 D m E) : S120_1 D m = e120_1 (E (.opq false l120_1 c120_2) [.sj v120_0 c120_0]) := by unfold S120_1; rw [T120_0 hE, hE (.opq false l120_1 c120_2)]; kernel_rfl
theorem T120_3 (hE : FX x120 D m E) : S120_3 D m = e120_3 (E c120_e []) := by unfold S120_3; rw [T120_1 hE, hE c120_e]; kernel_rfl
theorem X120 : XTie S120 x120 := X_of fun D m E hE args h u => by unfold S120; rw [T120_3 hE]; kernel_rfl
/- 121 -/
def v121_1 : List Pos := [p1, p2, p4]
def c121_1 : XC := (.sO [.L p72 (.cells 5 q1) .v, .mv p73 q4 .v, .ss 5 q2 q72, .mv p3 q73 .v] (.s .ret))
def v121_2 : List Pos := [p1, p2, p4]
def c121_2b : XC := (.seq (.seq (.oX [.fa p36 3 q1, .ld p37 q36 tI, .bn p38 .eql q37 (ci 0) .b]) (.cond q38 .skip (.exit 0))) (.block 1 (.seq (.seq (.oX [.mv p39 q4 .v, .P p40 (.lenl q39) tI, .bn p41 .geq q40 (ci 8) .b]) (.cond q41 (.seq (.oX [.L p42 (.cells 5 q1) .v, .cl p43 161 [q42, (ci 5)] .v, .ss 5 q2 q43, .mv p3 (.c .nils) .v]) .ret) .skip)) (.sO [.L p44 (.cells 5 q1) .v, .cl p45 82 [q44] .v, .P p46 (.field 2 1 false q45) tI, .P p47 (.build [(.str []), (kI 0), (kI 0)] [⟨2, 1, q46⟩]) .v, .al p5 (.new [(.str []), (kI 0), (kI 0)]), .ss 3 q5 q47] (.sO [.L p49 (.cells 5 q1) .v, .cl p50 119 [q49] .v, .mv p48 q50 .v, .P p51 (.ext q48 0) .v, .P p52 (.ext q48 1) tI, .ss 5 q1 q51, .fa p53 1 q5, .st q53 q52] (.sO [.L p55 (.cells 5 q1) .v, .cl p56 120 [q55, (ci 1)] .v, .mv p54 q56 .v, .P p57 (.ext q54 0) .v, .P p58 (.ext q54 1) .s, .ss 5 q1 q57, .fa p59 0 q5, .st q59 q58] (.sO [.mv p60 q4 .v, .L p61 (.cells 3 q5) .v, .al p62 (.bsl [(.str []), (kI 0), (kI 0)] 1 [⟨0, 3, q61⟩]), .o ⟨(some p63), (.e (.app 3 32 q60 q62)), none, []⟩ .v, .mv p4 q63 .v] (.seq (.seq (.oX [.L p64 (.cells 5 q1) .v, .cl p65 117 [q64, (.c (.str [44]))] .b, .P p66 (.un .not q65) .b]) (.cond q66 (.seq (.oX [.L p67 (.cells 5 q1) .v, .cl p68 123 [q67, (.c (.str [41]))] .v, .mv p69 q4 .v, .ss 5 q2 q68, .mv p3 q69 .v]) .ret) .skip)) (.s (.oX [.L p70 (.cells 5 q1) .v, .cl p71 118 [q70] .v, .ss 5 q1 q71]))))))))))
def v121_0 : List Pos := [p1, p2]
def c121_0 : XC := (.seq (.seq (.oX [.L p32 (.cells 5 q1) .v, .cl p33 117 [q32, (.c (.str [41]))] .b]) (.cond q33 (.seq (.oX [.L p34 (.cells 5 q1) .v, .cl p35 118 [q34] .v, .ss 5 q2 q35, .mv p3 (.c .nils) .v]) .ret) .skip)) (.sO [.mv p4 (.c .nils) .v] (.sj v121_1 (.block 0 (.loop v121_2 c121_2b)) c121_1)))
def c121_e : XC := (.sO [.al p1 (.box q0), .al p2 (.new [.nils, (kI 0), (kI 0), (kI 0), (kI 0)]), .mv p3 (.c .nils) .v] (.sj v121_0 (.sO [.L p6 (.cells 5 q1) .v, .cl p7 117 [q6, (.c (.str [118, 111, 105, 100]))] .b, .mv p8 q7 .b, .ge p8 (XL.of [.G p8 true p9 (.faddr 0 q1) .v, .o ⟨(some p10), (.l (.cell q9)), (some (p8, true)), []⟩ .v, .G p8 true p11 (.faddr 1 q1) .v, .o ⟨(some p12), (.l (.cell q11)), (some (p8, true)), []⟩ tI, .G p8 true p13 (.bin .add q12 (ci 1)) tI, .G p8 true p14 (.iaddr (.sl 3) q10 q13) .v, .G p8 true p15 (.faddr 0 q14) .v, .o ⟨(some p16), (.l (.cell q15)), (some (p8, true)), []⟩ tI, .G p8 true p17 (.bin .eql q16 (ci 4)) .b, .P p18 (.pick q8 q17 (cb false)) .b]) p18 .b, .mv p19 q18 .b, .ge p19 (XL.of [.G p19 true p20 (.faddr 0 q1) .v, .o ⟨(some p21), (.l (.cell q20)), (some (p19, true)), []⟩ .v, .G p19 true p22 (.faddr 1 q1) .v, .o ⟨(some p23), (.l (.cell q22)), (some (p19, true)), []⟩ tI, .G p19 true p24 (.bin .add q23 (ci 1)) tI, .G p19 true p25 (.iaddr (.sl 3) q21 q24) .v, .G p19 true p26 (.faddr 1 q25) .v, .o ⟨(some p27), (.l (.cell q26)), (some (p19, true)), []⟩ .s, .G p19 true p28 (.bin .eql q27 (.c (.str [41]))) .b, .P p29 (.pick q19 q28 (cb false)) .b]) p29 .b] (.cond q29 (.s (.oX [.L p30 (.cells 5 q1) .v, .cl p31 118 [q30] .v, .ss 5 q1 q31])) (.s .skip))) c121_0))
def x121 : XFn := ⟨[.v], false, [(.cells 5 p2), (.tmp p3)], c121_e⟩
def S121 : SFn := evFX x121
theorem X121 : XTie S121 x121 := fun _ _ _ _ _ => rfl
/- 122 -/
def v122_0 : List Pos := [p1, p2, p3, p4]
def c122_0 : XC := (.seq (.ops true (XL.of [.L p32 (.cells 5 q1) .v, .L p34 (.cells 7 q4) .v, .o ⟨(some p33), (.call (.fn 123) [q32, (.c (.str [125]))]), none, [⟨none, .cells 7 q4, p34⟩]⟩ .v, .o ⟨none, (.e (.stores 5 q2 q33)), none, [⟨none, .cells 7 q4, p34⟩]⟩ .v, .ss 7 q3 q34])) (.s .ret))
def v122_2 : List Pos := [p1, p2, p3, p4]
def c122_2 : XC := (.block 1 (.sO [.P p20 (.build [(kI 0), .nils, .nils, (.str []), (kI 0), (kI 0), (kI 0)] []) .v, .al p5 (.new [(kI 0), .nils, .nils, (.str []), (kI 0), (kI 0), (kI 0)]), .ss 7 q5 q20] (.sO [.L p22 (.cells 5 q1) .v, .cl p23 162 [q22] .v, .mv p21 q23 .v, .P p24 (.ext q21 0) .v, .P p25 (.ext q21 1) .v, .ss 5 q1 q24, .ss 7 q5 q25] (.s (.oX [.fa p26 2 q4, .ld p27 q26 .v, .L p28 (.cells 7 q5) .v, .al p29 (.bsl [(kI 0), .nils, .nils, (.str []), (kI 0), (kI 0), (kI 0)] 1 [⟨0, 7, q28⟩]), .o ⟨(some p30), (.e (.app 7 96 q27 q29)), none, []⟩ .v, .fa p31 2 q4, .st q31 q30])))))
def c122_4 : XC := (.cond q19 (.s .skip) (.s (.exit 0)))
def l122_3 : XL := (XL.of [])
def v122_1 : List Pos := [p1, p2, p3, p4]
def c122_1b : XC := (.sj v122_2 (.opq false (XL.pre [.fa p12 3 q1, .ld p13 q12 tI, .bn p14 .eql q13 (ci 0) .b, .mv p15 q14 .b, .sp p15, .o ⟨(some p16), (.l (.cells 5 q1)), (some (p15, true)), []⟩ .v, .o ⟨(some p17), (.call (.fn 117) [q16, (.c (.str [125]))]), (some (p15, true)), []⟩ .b, .G p15 true p18 (.un .not q17) .b, .P p19 (.pick q15 q18 (cb false)) .b, .jn p15 [p1, p2, p3, p4, p19]] l122_3) c122_4) c122_2)
def c122_e : XC := (.sO [.al p1 (.box q0), .al p2 (.new [.nils, (kI 0), (kI 0), (kI 0), (kI 0)]), .al p3 (.new [(kI 0), .nils, .nils, (.str []), (kI 0), (kI 0), (kI 0)])] (.sO [.L p6 (.cells 5 q1) .v, .cl p7 82 [q6] .v, .P p8 (.field 2 1 false q7) tI, .P p9 (.build [(kI 0), .nils, .nils, (.str []), (kI 0), (kI 0), (kI 0)] [⟨0, 1, (ci 1)⟩, ⟨6, 1, q8⟩]) .v, .al p4 (.new [(kI 0), .nils, .nils, (.str []), (kI 0), (kI 0), (kI 0)]), .ss 7 q4 q9] (.sO [.L p10 (.cells 5 q1) .v, .cl p11 123 [q10, (.c (.str [123]))] .v, .ss 5 q1 q11] (.sj v122_0 (.block 0 (.loop v122_1 c122_1b)) c122_0))))
def x122 : XFn := ⟨[.v], false, [(.cells 5 p2), (.cells 7 p3)], c122_e⟩
def S122 : SFn := evFX x122
theorem X122 : XTie S122 x122 := fun _ _ _ _ _ => rfl
/- 123 -/
def c123_e : XC := (.sO [.al p2 (.box q0), .al p4 (.new [.nils, (kI 0), (kI 0), (kI 0), (kI 0)])] (.seq (.seq (.oX [.L p5 (.cells 5 q2) .v, .mv p6 q1 .s, .cl p7 117 [q5, q6] .b]) (.cond q7 (.seq (.oX [.L p8 (.cells 5 q2) .v, .cl p9 118 [q8] .v, .ss 5 q4 q9]) .ret) .skip)) (.sO [.L p10 (.cells 5 q2) .v, .cl p11 161 [q10, (ci 11)] .v, .ss 5 q4 q11] (.s .ret))))
def x123 : XFn := ⟨[.v, .s], false, [(.cells 5 p4)], c123_e⟩
def e123_0 (k t0 t1 h) := kN k [(p0, t0), (p1, (vS t1))] h
def S123_0 (D : CallD) (m : Nat) (t0 : AV) (t1 : LN) (h : HP) : Res2 :=
 let t2 := AV.ptr (HP.nxQ h) 0
 let h1 := HP.newQ h (.cells true (AV.cells t0))
 let t4 := AV.ptr (HP.nxQ h1) 0
 let h2 := HP.newQ h1 (.cells true [.nils, (kI 0), (kI 0), (kI 0), (kI 0)])
 cellsC 5 t2 h2 fun t5 =>
 cal D 117 [t5, (vS t1)] h2 fun t7 h3 =>
 asB t7 fun t7a =>
 br t7a (
 cellsC 5 t2 h3 fun t8 =>
 cal D 118 [t8] h3 fun t9 h4 =>
 stsC 5 t4 t9 h4 fun h5 =>
 cellsC 5 t4 h5 fun t4a =>
 some (.ret t4a h5, .no)) (
 cellsC 5 t2 h3 fun t10 =>
 cal D 161 [t10, (vI (Int.ofNat 11))] h3 fun t11 h6 =>
 stsC 5 t4 t11 h6 fun h7 =>
 cellsC 5 t4 h7 fun t4a =>
 some (.ret t4a h7, .no))
def S123 : SFn := fun D m args h u => nou u <| popV args fun t0 args => popS args fun t1 args => endA args (S123_0 D m t0 t1 h)
theorem T123_0 (hE : FX x123 D m E) : S123_0 D m = e123_0 (E c123_e []) := by unfold S123_0; rw [hE c123_e]; kernel_rfl
theorem X123 : XTie S123 x123 := X_of fun D m E hE args h u => by unfold S123; rw [T123_0 hE]; kernel_rfl
/- 124 -/
def v124_0 : List Pos := [p1, p2, p5]
def c124_0 : XC := (.sO [.L p32 (.cells 5 q1) .v, .cl p33 123 [q32, (.c (.str [93]))] .v, .mv p34 q5 tI, .ss 5 q2 q33, .mv p3 q34 tI] (.s .ret))
def c124_e : XC := (.sO [.al p1 (.box q0), .al p2 (.new [.nils, (kI 0), (kI 0), (kI 0), (kI 0)]), .mv p3 (ci 0) tI] (.seq (.seq (.oX [.L p7 (.cells 5 q1) .v, .cl p8 117 [q7, (.c (.str [91]))] .b, .P p9 (.un .not q8) .b]) (.cond q9 (.seq (.oX [.L p10 (.cells 5 q1) .v, .ss 5 q2 q10, .mv p3 (ci 0) tI]) .ret) .skip)) (.sO [.L p11 (.cells 5 q1) .v, .cl p12 118 [q11] .v, .ss 5 q1 q12] (.sO [.L p13 (.cells 5 q1) .v, .al p4 (.new [.nils, (kI 0), (kI 0), (kI 0), (kI 0)]), .ss 5 q4 q13] (.sO [.mv p5 (ci 0) tI] (.sO [.L p15 (.cells 5 q1) .v, .cl p16 120 [q15, (ci 2)] .v, .mv p14 q16 .v, .P p17 (.ext q14 0) .v, .P p18 (.ext q14 1) .s, .ss 5 q1 q17, .mv p6 q18 .s] (.sj v124_0 (.sO [.fa p19 3 q1, .ld p20 q19 tI, .bn p21 .eql q20 (ci 0) .b] (.cond q21 (.sO [.mv p22 q6 .s, .cl p23 163 [q22] tI, .mv p5 q23 tI] (.sO [.mv p24 q5 tI, .bn p25 .lss q24 (ci 1) .b, .mv p26 q25 .b, .ge p26 (XL.of [.G p26 false p27 (.mov q5) tI, .G p26 false p28 (.bin .gtr q27 (ci 1000)) .b, .P p29 (.pick q26 (cb true) q28) .b]) p29 .b] (.cond q29 (.sO [.L p30 (.cells 5 q4) .v, .cl p31 161 [q30, (ci 1)] .v, .ss 5 q2 q31, .mv p3 (ci 0) tI] (.s .ret)) (.s .skip)))) (.s .skip))) c124_0)))))))
def x124 : XFn := ⟨[.v], false, [(.cells 5 p2), (.tmp p3)], c124_e⟩
def e124_0 (k t1 t2 t5 h) := kN k [(p1, t1), (p2, t2), (p5, (vI t5))] h
def S124_0 (D : CallD) (m : Nat) (t1 t2 : AV) (t5 : Int) (h : HP) : Res2 :=
 cellsC 5 t1 h fun t32 =>
 cal D 123 [t32, (vS ([93] : LN))] h fun t33 h12 =>
 stsC 5 t2 t33 h12 fun h13 =>
 cellsC 5 t2 h13 fun t2a =>
 some (.ret (.tup [t2a, (vI t5)]) h13, .no)
def e124_1 (k t0 h) := kN k [(p0, t0)] h
def S124_1 (D : CallD) (m : Nat) (t0 : AV) (h : HP) : Res2 :=
 let t1 := AV.ptr (HP.nxQ h) 0
 let h2 := HP.newQ h (.cells true (AV.cells t0))
 let t2 := AV.ptr (HP.nxQ h2) 0
 let h3 := HP.newQ h2 (.cells true [.nils, (kI 0), (kI 0), (kI 0), (kI 0)])
 cellsC 5 t1 h3 fun t7 =>
 cal D 117 [t7, (vS ([91] : LN))] h3 fun t8 h4 =>
 asB t8 fun t8a =>
 let t9 := !t8a
 br t9 (
 cellsC 5 t1 h4 fun t10 =>
 stsC 5 t2 t10 h4 fun h5 =>
 cellsC 5 t2 h5 fun t2a =>
 some (.ret (.tup [t2a, (vI (Int.ofNat 0))]) h5, .no)) (
 cellsC 5 t1 h4 fun t11 =>
 cal D 118 [t11] h4 fun t12 h6 =>
 stsC 5 t1 t12 h6 fun h7 =>
 cellsC 5 t1 h7 fun t13 =>
 let t4 := AV.ptr (HP.nxQ h7) 0
 let h8 := HP.newQ h7 (.cells true [.nils, (kI 0), (kI 0), (kI 0), (kI 0)])
 stsC 5 t4 t13 h8 fun h9 =>
 cellsC 5 t1 h9 fun t15 =>
 cal D 120 [t15, (vI (Int.ofNat 2))] h9 fun t16 h10 =>
 extC t16 0 fun t17 =>
 extC t16 1 fun vt18 => asS vt18 fun t18 =>
 stsC 5 t1 t17 h10 fun h11 =>
 let t19 := (AV.ptr (HP.nxQ h) (Nat.add 0 3))
 ldI t19 h11 fun t20 =>
 let t21 := eqQ t20 (Int.ofNat 0)
 br t21 (
 cal D 163 [(vS t18)] h11 fun t23 h14 =>
 asI .i64 t23 fun t23a =>
 let t25 := ltQ t23a (Int.ofNat 1)
 obB (brV t25 (
 some (vB true)) (
 let t28 := ltQ (Int.ofNat 1000) t23a
 some (vB t28))) fun t29 =>
 br t29 (
 cellsC 5 t4 h14 fun t30 =>
 cal D 161 [t30, (vI (Int.ofNat 1))] h14 fun t31 h15 =>
 stsC 5 t2 t31 h15 fun h16 =>
 cellsC 5 t2 h16 fun t2a =>
 some (.ret (.tup [t2a, (vI (Int.ofNat 0))]) h16, .no)) (
 S124_0 D m t1 t2 t23a h14)) (
 S124_0 D m t1 t2 (Int.ofNat 0) h11))
def S124 : SFn := fun D m args h u => nou u <| popV args fun t0 args => endA args (S124_1 D m t0 h)
theorem T124_0 (hE : FX x124 D m E) : S124_0 D m = e124_0 (E c124_0 []) := by unfold S124_0; rw [hE c124_0]; kernel_rfl
theorem T124_1 (hE : FX x124 D m E) : S124_1 D m = e124_1 (E c124_e []) := by unfold S124_1; rw [T124_0 hE, hE c124_e]; kernel_rfl
theorem X124 : XTie S124 x124 := X_of fun D m E hE args h u => by unfold S124; rw [T124_1 hE]; kernel_rfl
/- 125 -/
def v125_0 : List Pos := [p1, p2, p3, p4]
def c125_0 : XC := (.seq (.ops true (XL.of [.L p27 (.cells 5 q1) .v, .L p29 (.cells 8 q4) .v, .o ⟨(some p28), (.call (.fn 166) [q27]), none, [⟨none, .cells 8 q4, p29⟩]⟩ .v, .o ⟨none, (.e (.stores 5 q2 q28)), none, [⟨none, .cells 8 q4, p29⟩]⟩ .v, .ss 8 q3 q29])) (.s .ret))
def c125_e : XC := (.sO [.al p1 (.box q0), .al p2 (.new [.nils, (kI 0), (kI 0), (kI 0), (kI 0)]), .al p3 (.new [(kI 0), (.str []), (.str []), (.int .u32 (.ofNat 0)), (.int .u64 (.ofNat 0)), .nils, (kI 0), (kI 0)])] (.sO [.L p7 (.cells 5 q1) .v, .cl p8 165 [q7] .v, .cl p9 164 [q8, (ci 0)] .v, .mv p6 q9 .v, .P p10 (.ext q6 0) .v, .P p11 (.ext q6 1) .v, .al p4 (.new [(kI 0), (.str []), (.str []), (.int .u32 (.ofNat 0)), (.int .u64 (.ofNat 0)), .nils, (kI 0), (kI 0)]), .ss 5 q1 q10, .ss 8 q4 q11] (.sj v125_0 (.sO [.L p12 (.cells 5 q1) .v, .cl p13 117 [q12, (.c (.str [61]))] .b] (.cond q13 (.sO [.P p14 (.build [(kI 0), (.str []), (.str []), (.int .u32 (.ofNat 0)), (.int .u64 (.ofNat 0)), .nils, (kI 0), (kI 0)] []) .v, .al p5 (.new [(kI 0), (.str []), (.str []), (.int .u32 (.ofNat 0)), (.int .u64 (.ofNat 0)), .nils, (kI 0), (kI 0)]), .ss 8 q5 q14] (.sO [.L p16 (.cells 5 q1) .v, .cl p17 118 [q16] .v, .cl p18 125 [q17] .v, .mv p15 q18 .v, .P p19 (.ext q15 0) .v, .P p20 (.ext q15 1) .v, .ss 5 q1 q19, .ss 8 q5 q20] (.s (.oX [.L p21 (.cells 8 q4) .v, .L p22 (.cells 8 q5) .v, .al p23 (.bsl [(kI 0), (.str []), (.str []), (.int .u32 (.ofNat 0)), (.int .u64 (.ofNat 0)), .nils, (kI 0), (kI 0), (kI 0), (.str []), (.str []), (.int .u32 (.ofNat 0)), (.int .u64 (.ofNat 0)), .nils, (kI 0), (kI 0)] 2 [⟨0, 8, q21⟩, ⟨8, 8, q22⟩]), .fa p24 7 q4, .ld p25 q24 tI, .P p26 (.build [(kI 0), (.str []), (.str []), (.int .u32 (.ofNat 0)), (.int .u64 (.ofNat 0)), .nils, (kI 0), (kI 0)] [⟨0, 1, (ci 6)⟩, ⟨5, 1, q23⟩, ⟨7, 1, q25⟩]) .v, .ss 8 q4 q26])))) (.s .skip))) c125_0)))
def x125 : XFn := ⟨[.v], false, [(.cells 5 p2), (.cells 8 p3)], c125_e⟩
def e125_0 (k t1 t2 t3 t4 h) := kN k [(p1, t1), (p2, t2), (p3, t3), (p4, t4)] h
def S125_0 (D : CallD) (m : Nat) (t1 t2 t3 t4 : AV) (h : HP) : Res2 :=
 cellsC 5 t1 h fun t27 =>
 cellsC 8 t4 h fun t29 =>
 cal D 166 [t27] h fun t28 h10 =>
 br (again [⟨none, .cells 8 q4, p29⟩] (mkT [(p29, t29), (p4, t4)]) h10) (
 stsC 5 t2 t28 h10 fun h11 =>
 br (againE (.stores 5 q2 q28) [⟨none, .cells 8 q4, p29⟩] (mkT [(p2, t2), (p29, t29), (p4, t4)]) h11) (
 stsC 8 t3 t29 h11 fun h12 =>
 cellsC 5 t2 h12 fun t2a =>
 cellsC 8 t3 h12 fun t3a =>
 some (.ret (.tup [t2a, t3a]) h12, .no)) none) none
def e125_1 (k t0 h) := kN k [(p0, t0)] h
def S125_1 (D : CallD) (m : Nat) (t0 : AV) (h : HP) : Res2 :=
 let t1 := AV.ptr (HP.nxQ h) 0
 let h2 := HP.newQ h (.cells true (AV.cells t0))
 let t2 := AV.ptr (HP.nxQ h2) 0
 let h3 := HP.newQ h2 (.cells true [.nils, (kI 0), (kI 0), (kI 0), (kI 0)])
 let t3 := AV.ptr (HP.nxQ h3) 0
 let h4 := HP.newQ h3 (.cells true [(kI 0), (.str []), (.str []), (.int .u32 (.ofNat 0)), (.int .u64 (.ofNat 0)), .nils, (kI 0), (kI 0)])
 cellsC 5 t1 h4 fun t7 =>
 cal D 165 [t7] h4 fun t8 h5 =>
 cal D 164 [t8, (vI (Int.ofNat 0))] h5 fun t9 h6 =>
 extC t9 0 fun t10 =>
 extC t9 1 fun t11 =>
 let t4 := AV.ptr (HP.nxQ h6) 0
 let h7 := HP.newQ h6 (.cells true [(kI 0), (.str []), (.str []), (.int .u32 (.ofNat 0)), (.int .u64 (.ofNat 0)), .nils, (kI 0), (kI 0)])
 stsC 5 t1 t10 h7 fun h8 =>
 stsC 8 t4 t11 h8 fun h9 =>
 cellsC 5 t1 h9 fun t12 =>
 cal D 117 [t12, (vS ([61] : LN))] h9 fun t13 h13 =>
 asB t13 fun t13a =>
 br t13a (
 let t14 := (AV.agg [(vI (Int.ofNat 0)), (vS ([] : LN)), (vS ([] : LN)), (vW (Int.ofNat 0)), (AV.int .u64 (Int.ofNat 0)), (.nils : AV), (vI (Int.ofNat 0)), (vI (Int.ofNat 0))])
 let t5 := AV.ptr (HP.nxQ h13) 0
 let h14 := HP.newQ h13 (.cells true [(kI 0), (.str []), (.str []), (.int .u32 (.ofNat 0)), (.int .u64 (.ofNat 0)), .nils, (kI 0), (kI 0)])
 stsC 8 t5 t14 h14 fun h15 =>
 cellsC 5 t1 h15 fun t16 =>
 cal D 118 [t16] h15 fun t17 h16 =>
 cal D 125 [t17] h16 fun t18 h17 =>
 extC t18 0 fun t19 =>
 extC t18 1 fun t20 =>
 stsC 5 t1 t19 h17 fun h18 =>
 stsC 8 t5 t20 h18 fun h19 =>
 cellsC 8 t4 h19 fun t21 =>
 cellsC 8 t5 h19 fun t22 =>
 obQ (evA (.bsl [(kI 0), (.str []), (.str []), (.int .u32 (.ofNat 0)), (.int .u64 (.ofNat 0)), .nils, (kI 0), (kI 0), (kI 0), (.str []), (.str []), (.int .u32 (.ofNat 0)), (.int .u64 (.ofNat 0)), .nils, (kI 0), (kI 0)] 2 [⟨0, 8, (.c t21)⟩, ⟨8, 8, (.c t22)⟩]) .leaf) fun r20 =>
 let t23 := vkV r20.2 (HP.nxQ h19)
 let h21 := HP.newQ h19 r20.1
 let t24 := (AV.ptr (HP.nxQ h6) (Nat.add 0 7))
 ldI t24 h21 fun t25 =>
 obQ (evP (.build [(kI 0), (.str []), (.str []), (.int .u32 (.ofNat 0)), (.int .u64 (.ofNat 0)), .nils, (kI 0), (kI 0)] [⟨0, 1, (.c (vI (Int.ofNat 6)))⟩, ⟨5, 1, (.c t23)⟩, ⟨7, 1, (.c (vI t25))⟩]) .leaf) fun t26 =>
 stsC 8 t4 t26 h21 fun h22 =>
 S125_0 D m t1 t2 t3 t4 h22) (
 S125_0 D m t1 t2 t3 t4 h13)
def S125 : SFn := fun D m args h u => nou u <| popV args fun t0 args => endA args (S125_1 D m t0 h)
theorem T125_0 (hE : FX x125 D m E) : S125_0 D m = e125_0 (E c125_0 []) := by unfold S125_0; rw [hE c125_0]; kernel_rfl
theorem T125_1 (hE : FX x125 D m E) : S125_1 D m = e125_1 (E c125_e []) := by unfold S125_1; rw [T125_0 hE, hE c125_e]; kernel_rfl
theorem X125 : XTie S125 x125 := X_of fun D m E hE args h u => by unfold S125; rw [T125_1 hE]; kernel_rfl
/- 126 -/
def c126_e : XC := (.sO [.al p3 (.box q0), .al p4 (.box q1), .al p6 (.new [.nils, (kI 0), (kI 0), (kI 0), (kI 0), (kI 0), (kI 0)])] (.seq (.ops true (XL.of [.al p7 (.bsl [] 0 []), .fa p8 0 q3, .ld p9 q8 .v, .L p11 (.cells 17 q4) .v, .mv p12 q2 .s, .fa p13 1 q3, .ld p14 q13 tI, .P p15 (.build [(.bool false), (.bool false), (.bool false), (.str []), (kI 0), (kI 0), .nils, (.bool false), .nils, (kI 0), .nils, .nils, (.str []), (kI 0), (kI 0), (kI 0), (kI 0), (.str []), (kI 0)] [⟨0, 17, q11⟩, ⟨17, 1, q12⟩, ⟨18, 1, q14⟩]) .v, .al p16 (.bsl [(.bool false), (.bool false), (.bool false), (.str []), (kI 0), (kI 0), .nils, (.bool false), .nils, (kI 0), .nils, .nils, (.str []), (kI 0), (kI 0), (kI 0), (kI 0), (.str []), (kI 0)] 1 [⟨0, 19, q15⟩]), .o ⟨(some p10), (.e (.app 19 224 q7 q9)), none, [⟨none, .cells 17 q4, p11⟩, ⟨none, .cell q13, p14⟩]⟩ .v, .o ⟨(some p17), (.e (.app 19 224 q10 q16)), none, []⟩ .v, .fa p18 0 q3, .st q18 q17])) (.sO [.L p19 (.cells 7 q3) .v, .ss 7 q6 q19] (.s .ret))))
def x126 : XFn := ⟨[.v, .v, .s], false, [(.cells 7 p6)], c126_e⟩
def e126_0 (k t0 t1 t2 h) := kN k [(p0, t0), (p1, t1), (p2, (vS t2))] h
def S126_0 (D : CallD) (m : Nat) (t0 t1 : AV) (t2 : LN) (h : HP) : Res2 :=
 let t3 := AV.ptr (HP.nxQ h) 0
 let h1 := HP.newQ h (.cells true (AV.cells t0))
 let t4 := AV.ptr (HP.nxQ h1) 0
 let h2 := HP.newQ h1 (.cells true (AV.cells t1))
 let t6 := AV.ptr (HP.nxQ h2) 0
 let h3 := HP.newQ h2 (.cells true [.nils, (kI 0), (kI 0), (kI 0), (kI 0), (kI 0), (kI 0)])
 let t7 := AV.slice (HP.nxQ h3) 0 0 (.exact 0)
 let h4 := HP.newQ h3 (.cells true [])
 let t8 := (AV.ptr (HP.nxQ h) (Nat.add 0 0))
 cellC t8 h4 fun t9 =>
 cellsC 17 t4 h4 fun t11 =>
 let t13 := (AV.ptr (HP.nxQ h) (Nat.add 0 1))
 ldI t13 h4 fun t14 =>
 obQ (evP (.build [(.bool false), (.bool false), (.bool false), (.str []), (kI 0), (kI 0), .nils, (.bool false), .nils, (kI 0), .nils, .nils, (.str []), (kI 0), (kI 0), (kI 0), (kI 0), (.str []), (kI 0)] [⟨0, 17, (.c t11)⟩, ⟨17, 1, (.c (vS t2))⟩, ⟨18, 1, (.c (vI t14))⟩]) .leaf) fun t15 =>
 obQ (evA (.bsl [(.bool false), (.bool false), (.bool false), (.str []), (kI 0), (kI 0), .nils, (.bool false), .nils, (kI 0), .nils, .nils, (.str []), (kI 0), (kI 0), (kI 0), (kI 0), (.str []), (kI 0)] 1 [⟨0, 19, (.c t15)⟩]) .leaf) fun r5 =>
 let t16 := vkV r5.2 (HP.nxQ h4)
 let h6 := HP.newQ h4 r5.1
 eff (.app 19 224 (.c t7) (.c t9)) h6 fun t10 h7 =>
 br (againE (.app 19 224 q7 q9) [⟨none, .cells 17 q4, p11⟩, ⟨none, .cell q13, p14⟩] (mkT [(p14, (vI t14)), (p13, t13), (p11, t11), (p4, t4)]) h7) (
 eff (.app 19 224 (.c t10) (.c t16)) h7 fun t17 h8 =>
 let t18 := (AV.ptr (HP.nxQ h) (Nat.add 0 0))
 stoC t18 t17 h8 fun h9 =>
 cellsC 7 t3 h9 fun t19 =>
 stsC 7 t6 t19 h9 fun h10 =>
 cellsC 7 t6 h10 fun t6a =>
 some (.ret t6a h10, .no)) none
def S126 : SFn := fun D m args h u => nou u <| popV args fun t0 args => popV args fun t1 args => popS args fun t2 args => endA args (S126_0 D m t0 t1 t2 h)
theorem T126_0 (hE : FX x126 D m E) : S126_0 D m = e126_0 (E c126_e []) := by unfold S126_0; rw [hE c126_e]; kernel_rfl
theorem X126 : XTie S126 x126 := X_of fun D m E hE args h u => by unfold S126; rw [T126_0 hE]; kernel_rfl
/- 127 -/
def c127_e : XC := (.sO [.mv p2 (cb false) .b] (.sO [.mv p3 q0 .s, .bn p4 .eql q3 (.c (.str [112, 117, 116, 119])) .b, .mv p5 q4 .b, .ge p5 (XL.of [.G p5 false p6 (.mov q0) .s, .G p5 false p7 (.bin .eql q6 (.c (.str [112, 117, 116, 100]))) .b, .P p8 (.pick q5 (cb true) q7) .b]) p8 .b, .mv p9 q8 .b, .ge p9 (XL.of [.G p9 false p10 (.mov q0) .s, .G p9 false p11 (.bin .eql q10 (.c (.str [103, 101, 116, 119]))) .b, .P p12 (.pick q9 (cb true) q11) .b]) p12 .b, .mv p2 q12 .b] (.s .ret)))
def x127 : XFn := ⟨[.s], false, [(.tmp p2)], c127_e⟩
def e127_0 (k t0 h) := kN k [(p0, (vS t0))] h
def S127_0 (D : CallD) (m : Nat) (t0 : LN) (h : HP) : Res2 :=
 let t4 := eqL t0 ([112, 117, 116, 119] : LN)
 obB (brV t4 (
 some (vB true)) (
 let t7 := eqL t0 ([112, 117, 116, 100] : LN)
 some (vB t7))) fun t8 =>
 obB (brV t8 (
 some (vB true)) (
 let t11 := eqL t0 ([103, 101, 116, 119] : LN)
 some (vB t11))) fun t12 =>
 some (.ret (vB t12) h, .no)
def S127 : SFn := fun D m args h u => nou u <| popS args fun t0 args => endA args (S127_0 D m t0 h)
theorem T127_0 (hE : FX x127 D m E) : S127_0 D m = e127_0 (E c127_e []) := by unfold S127_0; rw [hE c127_e]; kernel_rfl
theorem X127 : XTie S127 x127 := X_of fun D m E hE args h u => by unfold S127; rw [T127_0 hE]; kernel_rfl
/- 128 -/
def c128_e : XC := (.sO [.mv p2 (cb false) .b] (.sO [.mv p3 q0 tI, .bn p4 .eql q3 (ci 1) .b, .mv p5 q4 .b, .ge p5 (XL.of [.G p5 false p6 (.mov q0) tI, .G p5 false p7 (.bin .eql q6 (ci 2)) .b, .P p8 (.pick q5 (cb true) q7) .b]) p8 .b, .mv p2 q8 .b] (.s .ret)))
def x128 : XFn := ⟨[tI], false, [(.tmp p2)], c128_e⟩
def e128_0 (k t0 h) := kN k [(p0, (vI t0))] h
def S128_0 (D : CallD) (m : Nat) (t0 : Int) (h : HP) : Res2 :=
 let t4 := eqQ t0 (Int.ofNat 1)
 obB (brV t4 (
 some (vB true)) (
 let t7 := eqQ t0 (Int.ofNat 2)
 some (vB t7))) fun t8 =>
 some (.ret (vB t8) h, .no)
def S128 : SFn := fun D m args h u => nou u <| popI .i64 args fun t0 args => endA args (S128_0 D m t0 h)
theorem T128_0 (hE : FX x128 D m E) : S128_0 D m = e128_0 (E c128_e []) := by unfold S128_0; rw [hE c128_e]; kernel_rfl
theorem X128 : XTie S128 x128 := X_of fun D m E hE args h u => by unfold S128; rw [T128_0 hE]; kernel_rfl
/- 129 -/
def c129_e : XC := (.sO [.al p1 (.box q0), .al p2 (.new [.nils, (kI 0), (kI 0), (kI 0), (kI 0), (kI 0), (kI 0)])] (.sO [.fa p3 1 q1, .ld p4 q3 tI, .bn p5 .add q4 (ci 1) tI, .fa p6 1 q1, .st q6 q5] (.sO [.L p7 (.cells 7 q1) .v, .ss 7 q2 q7] (.s .ret))))
def x129 : XFn := ⟨[.v], false, [(.cells 7 p2)], c129_e⟩
def e129_0 (k t0 h) := kN k [(p0, t0)] h
def S129_0 (D : CallD) (m : Nat) (t0 : AV) (h : HP) : Res2 :=
 let t1 := AV.ptr (HP.nxQ h) 0
 let h1 := HP.newQ h (.cells true (AV.cells t0))
 let t2 := AV.ptr (HP.nxQ h1) 0
 let h2 := HP.newQ h1 (.cells true [.nils, (kI 0), (kI 0), (kI 0), (kI 0), (kI 0), (kI 0)])
 let t3 := (AV.ptr (HP.nxQ h) (Nat.add 0 1))
 ldI t3 h2 fun t4 =>
 let t5 := wrQ .i64 (addQ t4 (Int.ofNat 1))
 let t6 := (AV.ptr (HP.nxQ h) (Nat.add 0 1))
 stoC t6 (vI t5) h2 fun h3 =>
 cellsC 7 t1 h3 fun t7 =>
 stsC 7 t2 t7 h3 fun h4 =>
 cellsC 7 t2 h4 fun t2a =>
 some (.ret t2a h4, .no)
def S129 : SFn := fun D m args h u => nou u <| popV args fun t0 args => endA args (S129_0 D m t0 h)
theorem T129_0 (hE : FX x129 D m E) : S129_0 D m = e129_0 (E c129_e []) := by unfold S129_0; rw [hE c129_e]; kernel_rfl
theorem X129 : XTie S129 x129 := X_of fun D m E hE args h u => by unfold S129; rw [T129_0 hE]; kernel_rfl
/- 130 -/
def v130_0 : List Pos := [p4]
def c130_0 : XC := (.sO [.P p29 (.build [(.bool false), (.bool false), (.bool false), (.str []), (kI 0), (kI 0), .nils, (.bool false), .nils, (kI 0), .nils, .nils, (.str []), (kI 0), (kI 0), (kI 0), (kI 0), (.str []), (kI 0)] []) .v, .ss 19 q4 q29, .mv p5 (cb false) .b] (.s .ret))
def v130_1 : List Pos := [p1, p2, p4, p6]
def c130_1b : XC := (.seq (.seq (.oX [.mv p11 q6 tI, .bn p12 .geq q11 (ci 0) .b]) (.cond q12 .skip (.exit 0))) (.seq (.block 1 (.seq (.oX [.fa p15 0 q2, .ld p16 q15 .v, .mv p17 q6 tI, .P p18 (.iaddr (.sl 19) q16 q17) .v, .fa p19 0 q18, .fa p20 3 q19, .ld p21 q20 .s, .mv p22 q1 .s, .bn p23 .eql q21 q22 .b]) (.cond q23 (.seq (.oX [.fa p24 0 q2, .ld p25 q24 .v, .mv p26 q6 tI, .P p27 (.iaddr (.sl 19) q25 q26) .v, .L p28 (.cells 19 q27) .v, .ss 19 q4 q28, .mv p5 (cb true) .b]) .ret) .skip))) (.s (.oX [.mv p13 q6 tI, .bn p14 .sub q13 (ci 1) tI, .mv p6 q14 tI]))))
def c130_e : XC := (.sO [.al p2 (.box q0), .al p4 (.new [(.bool false), (.bool false), (.bool false), (.str []), (kI 0), (kI 0), .nils, (.bool false), .nils, (kI 0), .nils, .nils, (.str []), (kI 0), (kI 0), (kI 0), (kI 0), (.str []), (kI 0)]), .mv p5 (cb false) .b] (.sj v130_0 (.sO [.fa p7 0 q2, .ld p8 q7 .v, .P p9 (.lenl q8) tI, .bn p10 .sub q9 (ci 1) tI, .mv p6 q10 tI] (.block 0 (.loop v130_1 c130_1b))) c130_0))
def x130 : XFn := ⟨[.v, .s], false, [(.cells 19 p4), (.tmp p5)], c130_e⟩
def e130_0 (k t4 h) := kN k [(p4, t4)] h
def S130_0 (D : CallD) (m : Nat) (t4 : AV) (h : HP) : Res2 :=
 let t29 := (AV.agg [(vB false), (vB false), (vB false), (vS ([] : LN)), (vI (Int.ofNat 0)), (vI (Int.ofNat 0)), (.nils : AV), (vB false), (.nils : AV), (vI (Int.ofNat 0)), (.nils : AV), (.nils : AV), (vS ([] : LN)), (vI (Int.ofNat 0)), (vI (Int.ofNat 0)), (vI (Int.ofNat 0)), (vI (Int.ofNat 0)), (vS ([] : LN)), (vI (Int.ofNat 0))])
 stsC 19 t4 t29 h fun h5 =>
 cellsC 19 t4 h5 fun t4a =>
 some (.ret (.tup [t4a, (vB false)]) h5, .no)
def e130_1 (k t1 t2 t4 t6 h) := kN k [(p1, (vS t1)), (p2, t2), (p4, t4), (p6, (vI t6))] h
def S130_1b (D : CallD) (m : Nat) (g1 : LN → AV → AV → Int → HP → Res2) (t1 : LN) (t2 t4 : AV) (t6 : Int) (h : HP) : Res2 :=
 let t12 := leQ (Int.ofNat 0) t6
 br t12 (
 faC 0 t2 fun t15 =>
 cellC t15 h fun t16 =>
 iasC 19 t16 (vI t6) fun t18 =>
 faC 0 t18 fun t19 =>
 faC 3 t19 fun t20 =>
 ldS t20 h fun t21 =>
 let t23 := eqL t21 t1
 br t23 (
 faC 0 t2 fun t24 =>
 cellC t24 h fun t25 =>
 iasC 19 t25 (vI t6) fun t27 =>
 cellsC 19 t27 h fun t28 =>
 stsC 19 t4 t28 h fun h6 =>
 cellsC 19 t4 h6 fun t4a =>
 some (.ret (.tup [t4a, (vB true)]) h6, .no)) (
 let t14 := wrQ .i64 (t6 - (Int.ofNat 1))
 g1 t1 t2 t4 t14 h)) (
 S130_0 D m t4 h)
def S130_1 (D : CallD) (m : Nat) : LN → AV → AV → Int → HP → Res2 := nrec (fun _ _ _ _ _ => none) (fun _ g => S130_1b D m g) m
def e130_2 (k t0 t1 h) := kN k [(p0, t0), (p1, (vS t1))] h
def S130_2 (D : CallD) (m : Nat) (t0 : AV) (t1 : LN) (h : HP) : Res2 :=
 let t2 := AV.ptr (HP.nxQ h) 0
 let h3 := HP.newQ h (.cells true (AV.cells t0))
 let t4 := AV.ptr (HP.nxQ h3) 0
 let h4 := HP.newQ h3 (.cells true [(.bool false), (.bool false), (.bool false), (.str []), (kI 0), (kI 0), .nils, (.bool false), .nils, (kI 0), .nils, .nils, (.str []), (kI 0), (kI 0), (kI 0), (kI 0), (.str []), (kI 0)])
 let t7 := (AV.ptr (HP.nxQ h) (Nat.add 0 0))
 cellC t7 h4 fun t8 =>
 lenC t8 fun vt9 => asI .i64 vt9 fun t9 =>
 let t10 := wrQ .i64 (t9 - (Int.ofNat 1))
 S130_1 D m t1 t2 t4 t10 h4
def S130 : SFn := fun D m args h u => nou u <| popV args fun t0 args => popS args fun t1 args => endA args (S130_2 D m t0 t1 h)
theorem T130_0 (hE : FX x130 D m E) : S130_0 D m = e130_0 (E c130_0 []) := by unfold S130_0; rw [hE c130_0]; kernel_rfl
theorem T130_1b (hE : FX x130 D m E) (G1) : S130_1b D m (e130_1 G1) = e130_1 (E c130_1b [.lp v130_1 G1, .blk 0, .sj v130_0 c130_0]) := by unfold S130_1b; rw [T130_0 hE, hE c130_1b]; kernel_rfl
theorem T130_1 (hE : FX x130 D m E) : S130_1 D m = e130_1 (nrec (fun _ => none) (fun _ G1 st => E c130_1b [.lp v130_1 G1, .blk 0, .sj v130_0 c130_0] st) m) :=
  nrec_emb e130_1 (fun _ _ _ _ _ => none) (fun g => S130_1b D m g) (fun G1 st => E c130_1b [.lp v130_1 G1, .blk 0, .sj v130_0 c130_0] st) rfl (fun g => T130_1b hE g) m
theorem T130_2 (hE : FX x130 D m E) : S130_2 D m = e130_2 (E c130_e []) := by unfold S130_2; rw [T130_1 hE, hE c130_e]; kernel_rfl
theorem X130 : XTie S130 x130 := X_of fun D m E hE args h u => by unfold S130; rw [T130_2 hE]; kernel_rfl
/- 131 -/
def c131_e : XC := (.sO [.al p2 (.box q0), .al p3 (.box q1), .al p4 (.new [.nils, (kI 0), (kI 0), (kI 0), (kI 0), (kI 0), (kI 0)]), .mv p5 (.c (.str [])) .s] (.sO [.fa p7 3 q2, .ld p8 q7 tI, .cl p9 13 [q8] .s, .bn p10 .add (.c (.str [36])) q9 .s, .mv p6 q10 .s] (.sO [.fa p11 3 q2, .ld p12 q11 tI, .bn p13 .add q12 (ci 1) tI, .fa p14 3 q2, .st q14 q13] (.sO [.L p15 (.cells 7 q2) .v, .L p16 (.cells 17 q3) .v, .mv p17 q6 .s, .cl p18 126 [q15, q16, q17] .v, .mv p19 q6 .s, .ss 7 q4 q18, .mv p5 q19 .s] (.s .ret)))))
def x131 : XFn := ⟨[.v, .v], false, [(.cells 7 p4), (.tmp p5)], c131_e⟩
def e131_0 (k t0 t1 h) := kN k [(p0, t0), (p1, t1)] h
def S131_0 (D : CallD) (m : Nat) (t0 t1 : AV) (h : HP) : Res2 :=
 let t2 := AV.ptr (HP.nxQ h) 0
 let h1 := HP.newQ h (.cells true (AV.cells t0))
 let t3 := AV.ptr (HP.nxQ h1) 0
 let h2 := HP.newQ h1 (.cells true (AV.cells t1))
 let t4 := AV.ptr (HP.nxQ h2) 0
 let h3 := HP.newQ h2 (.cells true [.nils, (kI 0), (kI 0), (kI 0), (kI 0), (kI 0), (kI 0)])
 let t7 := (AV.ptr (HP.nxQ h) (Nat.add 0 3))
 ldI t7 h3 fun t8 =>
 cal D 13 [(vI t8)] h3 fun t9 h4 =>
 asS t9 fun t9a =>
 obS (strBin .add ([36] : LN) t9a) fun t10 =>
 let t11 := (AV.ptr (HP.nxQ h) (Nat.add 0 3))
 ldI t11 h4 fun t12 =>
 let t13 := wrQ .i64 (addQ t12 (Int.ofNat 1))
 let t14 := (AV.ptr (HP.nxQ h) (Nat.add 0 3))
 stoC t14 (vI t13) h4 fun h5 =>
 cellsC 7 t2 h5 fun t15 =>
 cellsC 17 t3 h5 fun t16 =>
 cal D 126 [t15, t16, (vS t10)] h5 fun t18 h6 =>
 stsC 7 t4 t18 h6 fun h7 =>
 cellsC 7 t4 h7 fun t4a =>
 some (.ret (.tup [t4a, (vS t10)]) h7, .no)
def S131 : SFn := fun D m args h u => nou u <| popV args fun t0 args => popV args fun t1 args => endA args (S131_0 D m t0 t1 h)
theorem T131_0 (hE : FX x131 D m E) : S131_0 D m = e131_0 (E c131_e []) := by unfold S131_0; rw [hE c131_e]; kernel_rfl
theorem X131 : XTie S131 x131 := X_of fun D m E hE args h u => by unfold S131; rw [T131_0 hE]; kernel_rfl
/- 132 -/
def v132_0 : List Pos := [p4, p5, p8, p9]
def c132_0 : XC := (.seq (.ops true (XL.of [.L p28 (.cells 7 q4) .v, .L p29 (.cells 8 q5) .v, .o ⟨none, (.e (.stores 7 q8 q28)), none, [⟨none, .cells 8 q5, p29⟩]⟩ .v, .ss 8 q9 q29])) (.s .ret))
def c132_e : XC := (.sO [.al p4 (.box q0), .al p5 (.box q1), .al p8 (.new [.nils, (kI 0), (kI 0), (kI 0), (kI 0), (kI 0), (kI 0)]), .al p9 (.new [(kI 0), (.str []), (.str []), (.int .u32 (.ofNat 0)), (.int .u64 (.ofNat 0)), .nils, (kI 0), (kI 0)])] (.sO [.L p12 (.cells 7 q4) .v, .L p13 (.cells 8 q5) .v, .cl p14 167 [q12, q13] .v, .mv p11 q14 .v, .P p15 (.ext q11 0) .v, .P p16 (.ext q11 1) .v, .ss 7 q4 q15, .ss 8 q5 q16] (.sO [.L p18 (.cells 8 q5) .v, .mv p19 q2 tI, .cl p20 168 [q18, q19] .v, .mv p17 q20 .v, .P p21 (.ext q17 0) .v, .P p22 (.ext q17 1) .b, .ss 8 q5 q21, .mv p10 q22 .b] (.sj v132_0 (.sO [.mv p23 q10 .b, .P p24 (.un .not q23) .b] (.cond q24 (.s (.oX [.L p25 (.cells 7 q4) .v, .mv p26 q3 tI, .cl p27 86 [q25, (ci 14), q26] .v, .ss 7 q4 q27])) (.s .skip))) c132_0))))
def x132 : XFn := ⟨[.v, .v, tI, tI], false, [(.cells 7 p8), (.cells 8 p9)], c132_e⟩
def e132_0 (k t4 t5 t8 t9 h) := kN k [(p4, t4), (p5, t5), (p8, t8), (p9, t9)] h
def S132_0 (D : CallD) (m : Nat) (t4 t5 t8 t9 : AV) (h : HP) : Res2 :=
 cellsC 7 t4 h fun t28 =>
 cellsC 8 t5 h fun t29 =>
 stsC 7 t8 t28 h fun h11 =>
 br (againE (.stores 7 q8 q28) [⟨none, .cells 8 q5, p29⟩] (mkT [(p8, t8), (p29, t29), (p5, t5)]) h11) (
 stsC 8 t9 t29 h11 fun h12 =>
 cellsC 7 t8 h12 fun t8a =>
 cellsC 8 t9 h12 fun t9a =>
 some (.ret (.tup [t8a, t9a]) h12, .no)) none
def e132_1 (k t0 t1 t2 t3 h) := kN k [(p0, t0), (p1, t1), (p2, (vI t2)), (p3, (vI t3))] h
def S132_1 (D : CallD) (m : Nat) (t0 t1 : AV) (t2 t3 : Int) (h : HP) : Res2 :=
 let t4 := AV.ptr (HP.nxQ h) 0
 let h2 := HP.newQ h (.cells true (AV.cells t0))
 let t5 := AV.ptr (HP.nxQ h2) 0
 let h3 := HP.newQ h2 (.cells true (AV.cells t1))
 let t8 := AV.ptr (HP.nxQ h3) 0
 let h4 := HP.newQ h3 (.cells true [.nils, (kI 0), (kI 0), (kI 0), (kI 0), (kI 0), (kI 0)])
 let t9 := AV.ptr (HP.nxQ h4) 0
 let h5 := HP.newQ h4 (.cells true [(kI 0), (.str []), (.str []), (.int .u32 (.ofNat 0)), (.int .u64 (.ofNat 0)), .nils, (kI 0), (kI 0)])
 cellsC 7 t4 h5 fun t12 =>
 cellsC 8 t5 h5 fun t13 =>
 cal D 167 [t12, t13] h5 fun t14 h6 =>
 extC t14 0 fun t15 =>
 extC t14 1 fun t16 =>
 stsC 7 t4 t15 h6 fun h7 =>
 stsC 8 t5 t16 h7 fun h8 =>
 cellsC 8 t5 h8 fun t18 =>
 cal D 168 [t18, (vI t2)] h8 fun t20 h9 =>
 extC t20 0 fun t21 =>
 extC t20 1 fun vt22 => asB vt22 fun t22 =>
 stsC 8 t5 t21 h9 fun h10 =>
 let t24 := !t22
 br t24 (
 cellsC 7 t4 h10 fun t25 =>
 cal D 86 [t25, (vI (Int.ofNat 14)), (vI t3)] h10 fun t27 h13 =>
 stsC 7 t4 t27 h13 fun h14 =>
 S132_0 D m t4 t5 t8 t9 h14) (
 S132_0 D m t4 t5 t8 t9 h10)
def S132 : SFn := fun D m args h u => nou u <| popV args fun t0 args => popV args fun t1 args => popI .i64 args fun t2 args => popI .i64 args fun t3 args => endA args (S132_1 D m t0 t1 t2 t3 h)
theorem T132_0 (hE : FX x132 D m E) : S132_0 D m = e132_0 (E c132_0 []) := by unfold S132_0; rw [hE c132_0]; kernel_rfl
theorem T132_1 (hE : FX x132 D m E) : S132_1 D m = e132_1 (E c132_e []) := by unfold S132_1; rw [T132_0 hE, hE c132_e]; kernel_rfl
theorem X132 : XTie S132 x132 := X_of fun D m E hE args h u => by unfold S132; rw [T132_1 hE]; kernel_rfl
/- 133 -/
def v133_0 : List Pos := [p2, p4, p6]
def c133_0 : XC := (.sO [.L p29 (.cells 7 q2) .v, .mv p30 q6 .v, .ss 7 q4 q29, .mv p5 q30 .v] (.s .ret))
def v133_1 : List Pos := [p1, p2, p4, p6, p10, p11]
def c133_1b : XC := (.sO [.bn p12 .lss q11 q10 .b] (.seq (.cond q12 .skip (.exit 0)) (.seq (.block 1 (.seq (.oX [.mv p13 q11 tI, .mv p7 q13 tI]) (.seq (.oX [.P p14 (.build [(kI 0), .nils, .nils, (.str []), (kI 0), (kI 0), (kI 0)] []) .v, .al p8 (.new [(kI 0), .nils, .nils, (.str []), (kI 0), (kI 0), (kI 0)]), .ss 7 q8 q14]) (.seq (.ops true (XL.of [.L p16 (.cells 7 q2) .v, .mv p17 q1 .v, .mv p18 q7 tI, .P p19 (.iaddr (.sl 7) q17 q18) .v, .L p20 (.cells 7 q19) .v, .cl p21 169 [q16, q20] .v, .mv p15 q21 .v, .P p22 (.ext q15 0) .v, .P p23 (.ext q15 1) .v, .ss 7 q2 q22, .ss 7 q8 q23])) (.oX [.mv p24 q6 .v, .L p25 (.cells 7 q8) .v, .al p26 (.bsl [(kI 0), .nils, .nils, (.str []), (kI 0), (kI 0), (kI 0)] 1 [⟨0, 7, q25⟩]), .o ⟨(some p27), (.e (.app 7 96 q24 q26)), none, []⟩ .v, .mv p6 q27 .v]))))) (.s (.oX [.bn p28 .add q11 (ci 1) tI, .mv p11 q28 tI])))))
def c133_e : XC := (.sO [.al p2 (.box q0), .al p4 (.new [.nils, (kI 0), (kI 0), (kI 0), (kI 0), (kI 0), (kI 0)]), .mv p5 (.c .nils) .v] (.sO [.mv p6 (.c .nils) .v] (.sj v133_0 (.sO [.mv p9 q1 .v, .P p10 (.lenl q9) tI, .mv p11 (ci 0) tI] (.block 0 (.loop v133_1 c133_1b))) c133_0)))
def x133 : XFn := ⟨[.v, .v], false, [(.cells 7 p4), (.tmp p5)], c133_e⟩
def e133_0 (k t2 t4 t6 h) := kN k [(p2, t2), (p4, t4), (p6, t6)] h
def S133_0 (D : CallD) (m : Nat) (t2 t4 t6 : AV) (h : HP) : Res2 :=
 cellsC 7 t2 h fun t29 =>
 stsC 7 t4 t29 h fun h5 =>
 cellsC 7 t4 h5 fun t4a =>
 some (.ret (.tup [t4a, t6]) h5, .no)
def e133_1 (k t1 t2 t4 t6 t10 t11 h) := kN k [(p1, t1), (p2, t2), (p4, t4), (p6, t6), (p10, (vI t10)), (p11, (vI t11))] h
def S133_1b (D : CallD) (m : Nat) (g1 : AV → AV → AV → AV → Int → Int → HP → Res2) (t1 t2 t4 t6 : AV) (t10 t11 : Int) (h : HP) : Res2 :=
 let t12 := ltQ t11 t10
 br t12 (
 let t14 := (AV.agg [(vI (Int.ofNat 0)), (.nils : AV), (.nils : AV), (vS ([] : LN)), (vI (Int.ofNat 0)), (vI (Int.ofNat 0)), (vI (Int.ofNat 0))])
 let t8 := AV.ptr (HP.nxQ h) 0
 let h6 := HP.newQ h (.cells true [(kI 0), .nils, .nils, (.str []), (kI 0), (kI 0), (kI 0)])
 stsC 7 t8 t14 h6 fun h7 =>
 cellsC 7 t2 h7 fun t16 =>
 iasC 7 t1 (vI t11) fun t19 =>
 cellsC 7 t19 h7 fun t20 =>
 cal D 169 [t16, t20] h7 fun t21 h8 =>
 extC t21 0 fun t22 =>
 extC t21 1 fun t23 =>
 stsC 7 t2 t22 h8 fun h9 =>
 stsC 7 t8 t23 h9 fun h10 =>
 cellsC 7 t8 h10 fun t25 =>
 obQ (evA (.bsl [(kI 0), .nils, .nils, (.str []), (kI 0), (kI 0), (kI 0)] 1 [⟨0, 7, (.c t25)⟩]) .leaf) fun r11 =>
 let t26 := vkV r11.2 (HP.nxQ h10)
 let h12 := HP.newQ h10 r11.1
 eff (.app 7 96 (.c t6) (.c t26)) h12 fun t27 h13 =>
 let t28 := wrQ .i64 (addQ t11 (Int.ofNat 1))
 g1 t1 t2 t4 t27 t10 t28 h13) (
 S133_0 D m t2 t4 t6 h)
def S133_1 (D : CallD) (m : Nat) : AV → AV → AV → AV → Int → Int → HP → Res2 := nrec (fun _ _ _ _ _ _ _ => none) (fun _ g => S133_1b D m g) m
def e133_2 (k t0 t1 h) := kN k [(p0, t0), (p1, t1)] h
def S133_2 (D : CallD) (m : Nat) (t0 t1 : AV) (h : HP) : Res2 :=
 let t2 := AV.ptr (HP.nxQ h) 0
 let h3 := HP.newQ h (.cells true (AV.cells t0))
 let t4 := AV.ptr (HP.nxQ h3) 0
 let h4 := HP.newQ h3 (.cells true [.nils, (kI 0), (kI 0), (kI 0), (kI 0), (kI 0), (kI 0)])
 lenC t1 fun vt10 => asI .i64 vt10 fun t10 =>
 S133_1 D m t1 t2 t4 (.nils : AV) t10 (Int.ofNat 0) h4
def S133 : SFn := fun D m args h u => nou u <| popV args fun t0 args => popV args fun t1 args => endA args (S133_2 D m t0 t1 h)
theorem T133_0 (hE : FX x133 D m E) : S133_0 D m = e133_0 (E c133_0 []) := by unfold S133_0; rw [hE c133_0]; kernel_rfl
theorem T133_1b (hE : FX x133 D m E) (G1) : S133_1b D m (e133_1 G1) = e133_1 (E c133_1b [.lp v133_1 G1, .blk 0, .sj v133_0 c133_0]) := by unfold S133_1b; rw [T133_0 hE, hE c133_1b]; kernel_rfl
theorem T133_1 (hE : FX x133 D m E) : S133_1 D m = e133_1 (nrec (fun _ => none) (fun _ G1 st => E c133_1b [.lp v133_1 G1, .blk 0, .sj v133_0 c133_0] st) m) :=
  nrec_emb e133_1 (fun _ _ _ _ _ _ _ => none) (fun g => S133_1b D m g) (fun G1 st => E c133_1b [.lp v133_1 G1, .blk 0, .sj v133_0 c133_0] st) rfl (fun g => T133_1b hE g) m
theorem T133_2 (hE : FX x133 D m E) : S133_2 D m = e133_2 (E c133_e []) := by unfold S133_2; rw [T133_1 hE, hE c133_e]; kernel_rfl
theorem X133 : XTie S133 x133 := X_of fun D m E hE args h u => by unfold S133; rw [T133_2 hE]; kernel_rfl
/- 134 -/
def v134_0 : List Pos := [p1, p2, p3]
def c134_0 : XC := (.sO [.mv p29 q3 .v, .fa p30 0 q1, .st q30 q29] (.sO [.fa p31 1 q1, .ld p32 q31 tI, .bn p33 .sub q32 (ci 1) tI, .fa p34 1 q1, .st q34 q33] (.sO [.L p35 (.cells 7 q1) .v, .ss 7 q2 q35] (.s .ret))))
def v134_2 : List Pos := [p1, p2, p3, p7, p8]
def c134_2 : XC := (.s (.oX [.bn p28 .add q8 (ci 1) tI, .mv p8 q28 tI]))
def v134_1 : List Pos := [p1, p2, p3, p7, p8]
def c134_1b : XC := (.sO [.bn p9 .lss q8 q7 .b] (.seq (.cond q9 .skip (.exit 0)) (.sj v134_2 (.block 1 (.sO [.mv p10 q8 tI, .mv p4 q10 tI] (.seq (.ops true (XL.of [.fa p11 0 q1, .ld p12 q11 .v, .mv p13 q4 tI, .P p14 (.iaddr (.sl 19) q12 q13) .v, .fa p15 18 q14, .ld p16 q15 tI, .fa p17 1 q1, .ld p18 q17 tI, .bn p19 .lss q16 q18 .b])) (.cond q19 (.s (.oX [.mv p20 q3 .v, .fa p21 0 q1, .ld p22 q21 .v, .mv p23 q4 tI, .P p24 (.iaddr (.sl 19) q22 q23) .v, .L p25 (.cells 19 q24) .v, .al p26 (.bsl [(.bool false), (.bool false), (.bool false), (.str []), (kI 0), (kI 0), .nils, (.bool false), .nils, (kI 0), .nils, .nils, (.str []), (kI 0), (kI 0), (kI 0), (kI 0), (.str []), (kI 0)] 1 [⟨0, 19, q25⟩]), .o ⟨(some p27), (.e (.app 19 224 q20 q26)), none, []⟩ .v, .mv p3 q27 .v])) (.s .skip))))) c134_2)))
def c134_e : XC := (.sO [.al p1 (.box q0), .al p2 (.new [.nils, (kI 0), (kI 0), (kI 0), (kI 0), (kI 0), (kI 0)])] (.sO [.mv p3 (.c .nils) .v] (.sj v134_0 (.sO [.fa p5 0 q1, .ld p6 q5 .v, .P p7 (.lenl q6) tI, .mv p8 (ci 0) tI] (.block 0 (.loop v134_1 c134_1b))) c134_0)))
def x134 : XFn := ⟨[.v], false, [(.cells 7 p2)], c134_e⟩
def S134 : SFn := evFX x134
theorem X134 : XTie S134 x134 := fun _ _ _ _ _ => rfl
/- 137 -/
def v137_1 : List Pos := [p1, p6, p7, p8]
def c137_1 : XC := (.s (.oX [.bn p38 .add q8 (ci 1) tI, .mv p8 q38 tI]))
def v137_2 : List Pos := [p1, p5, p6, p7, p8]
def c137_2 : XC := (.s (.oX [.fa p34 5 q5, .ld p35 q34 .v, .mv p36 q1 .v, .cl p37 137 [q35, q36] .v]))
def v137_0 : List Pos := [p1, p6, p7, p8]
def c137_0b : XC := (.sO [.bn p9 .lss q8 q7 .b] (.seq (.cond q9 .skip (.exit 0)) (.sj v137_1 (.block 1 (.sO [.P p10 (.iaddr (.sl 8) q6 q8) .v, .L p11 (.cells 8 q10) .v, .al p5 (.new [(kI 0), (.str []), (.str []), (.int .u32 (.ofNat 0)), (.int .u64 (.ofNat 0)), .nils, (kI 0), (kI 0)]), .ss 8 q5 q11] (.sj v137_2 (.sO [.fa p12 0 q5, .ld p13 q12 tI, .bn p14 .eql q13 (ci 4) .b, .mv p15 q14 .b, .ge p15 (XL.of [.G p15 true p16 (.faddr 1 q5) .v, .o ⟨(some p17), (.l (.cell q16)), (some (p15, true)), []⟩ .s, .G p15 true p18 (.bin .eql q17 (.c (.str [38]))) .b, .P p19 (.pick q15 q18 (cb false)) .b]) p19 .b, .mv p20 q19 .b, .ge p20 (XL.of [.G p20 true p21 (.faddr 5 q5) .v, .o ⟨(some p22), (.l (.cell q21)), (some (p20, true)), []⟩ .v, .G p20 true p23 (.iaddr (.sl 8) q22 (ci 0)) .v, .G p20 true p24 (.faddr 0 q23) .v, .o ⟨(some p25), (.l (.cell q24)), (some (p20, true)), []⟩ tI, .G p20 true p26 (.bin .eql q25 (ci 3)) .b, .P p27 (.pick q20 q26 (cb false)) .b]) p27 .b] (.cond q27 (.s (.oX [.mv p28 q1 .v, .fa p29 5 q5, .ld p30 q29 .v, .P p31 (.iaddr (.sl 8) q30 (ci 0)) .v, .fa p32 2 q31, .ld p33 q32 .s, .o ⟨none, (.e (.mset .str q28 q33 (cb true))), none, []⟩ .v])) (.s .skip))) c137_2))) c137_1)))
def c137_e : XC := (.sO [.mv p6 q0 .v, .P p7 (.lenl q6) tI, .mv p8 (ci 0) tI] (.block 0 (.loop v137_0 c137_0b)))
def x137 : XFn := ⟨[.v, .v], false, [], c137_e⟩
def S137 : SFn := evFX x137
theorem X137 : XTie S137 x137 := fun _ _ _ _ _ => rfl
/- 138 -/
def v138_0 : List Pos := [p0, p1, p8, p9]
def c138_0 : XC := (.seq (.ops true (XL.of [.mv p65 q0 .v, .P p66 (.nilck q65) .v, .fa p67 6 q66, .ld p68 q67 .v, .mv p69 q1 .s, .L p70 (.cells 4 q9) .v, .o ⟨none, (.e (.mset .str q68 q69 q70)), none, []⟩ .v])) (.sO [.L p71 (.cells 4 q9) .v, .ss 4 q8 q71] (.s .ret)))
def c138_e : XC := (.sO [.al p8 (.new [(kI 0), (kI 0), (kI 0), (kI 0)])] (.sO [.mv p12 q0 .v, .P p13 (.nilck q12) .v, .fa p14 6 q13, .ld p15 q14 .v, .mv p16 q1 .s, .L p17 (.look .str (.agg [(kI 0), (kI 0), (kI 0), (kI 0)]) true q15 q16) .v, .mv p11 q17 .v, .P p18 (.ext q11 0) .v, .P p19 (.ext q11 1) .b, .al p9 (.new [(kI 0), (kI 0), (kI 0), (kI 0)]), .ss 4 q9 q18, .mv p10 q19 .b] (.seq (.seq (.oX [.mv p20 q10 .b]) (.cond q20 (.seq (.oX [.L p21 (.cells 4 q9) .v, .ss 4 q8 q21]) .ret) .skip)) (.sO [.mv p22 q2 tI, .mv p23 q3 tI, .P p24 (.build [(kI 0), (kI 0), (kI 0), (kI 0)] [⟨0, 1, (.c (.int .i64 (.negSucc 0)))⟩, ⟨1, 1, (.c (.int .i64 (.negSucc 0)))⟩, ⟨2, 1, q22⟩, ⟨3, 1, q23⟩]) .v, .ss 4 q9 q24] (.sj v138_0 (.sO [.mv p25 q3 tI, .bn p26 .gtr q25 (ci 0) .b, .mv p27 q26 .b, .ge p27 (XL.of [.G p27 false p28 (.mov q0) .v, .G p27 false p29 (.nilck q28) .v, .G p27 false p30 (.faddr 7 q29) .v, .o ⟨(some p31), (.l (.cell q30)), (some (p27, false)), []⟩ .v, .G p27 false p32 (.mov q1) .s, .o ⟨(some p33), (.l (.look .str (.bool false) false q31 q32)), (some (p27, false)), []⟩ .b, .P p34 (.pick q27 (cb true) q33) .b]) p34 .b] (.cond q34 (.sO [.mv p35 q0 .v, .P p36 (.nilck q35) .v, .fa p37 0 q36, .fa p38 4 q37, .ld p39 q38 .v, .P p40 (.lenl q39) tI, .fa p41 1 q9, .st q41 q40] (.s (.ops true (XL.of [.mv p42 q0 .v, .mv p43 q0 .v, .P p44 (.nilck q43) .v, .fa p45 0 q44, .fa p46 4 q45, .ld p47 q46 .v, .mv p48 q2 tI, .mv p50 q3 tI, .P p51 (.mm true [q50, (ci 1)]) tI, .o ⟨(some p49), (.call (.fn 177) [q48]), none, [⟨none, .cell q46, p47⟩]⟩ tI, .bn p52 .mul q49 q51 tI, .bn p53 .add q52 (ci 7) tI, .bn p54 .andNot q53 (ci 7) tI, .al p55 (.bsl [(kI 0)] 1 [⟨0, 1, q54⟩]), .o ⟨(some p56), (.e (.app 1 8 q47 q55)), none, []⟩ .v, .P p57 (.nilck q42) .v, .fa p58 0 q57, .fa p59 4 q58, .st q59 q56])))) (.s (.oX [.mv p60 q0 .v, .mv p61 q2 tI, .cl p62 91 [q61] tI, .cl p63 90 [q60, q62] tI, .fa p64 0 q9, .st q64 q63])))) c138_0)))))
def x138 : XFn := ⟨[.v, .s, tI, tI], false, [(.cells 4 p8)], c138_e⟩
def e138_0 (k t0 t1 t8 t9 h) := kN k [(p0, t0), (p1, (vS t1)), (p8, t8), (p9, t9)] h
def S138_0 (D : CallD) (m : Nat) (t0 : AV) (t1 : LN) (t8 t9 : AV) (h : HP) : Res2 :=
 nilckC t0 fun t66 =>
 faC 6 t66 fun t67 =>
 cellC t67 h fun t68 =>
 cellsC 4 t9 h fun t70 =>
 eff (.mset .str (.c t68) (.c (vS t1)) (.c t70)) h fun t0a h7 =>
 cellsC 4 t9 h7 fun t71 =>
 stsC 4 t8 t71 h7 fun h8 =>
 cellsC 4 t8 h8 fun t8a =>
 some (.ret t8a h8, .no)
def e138_1 (k t0 t1 t2 t3 h) := kN k [(p0, t0), (p1, (vS t1)), (p2, (vI t2)), (p3, (vI t3))] h
def S138_1 (D : CallD) (m : Nat) (t0 : AV) (t1 : LN) (t2 t3 : Int) (h : HP) : Res2 :=
 let t8 := AV.ptr (HP.nxQ h) 0
 let h2 := HP.newQ h (.cells true [(kI 0), (kI 0), (kI 0), (kI 0)])
 nilckC t0 fun t13 =>
 faC 6 t13 fun t14 =>
 cellC t14 h2 fun t15 =>
 obQ (evL (.look .str (.agg [(kI 0), (kI 0), (kI 0), (kI 0)]) true (.c t15) (.c (vS t1))) .leaf h2) fun t17 =>
 extC t17 0 fun t18 =>
 extC t17 1 fun vt19 => asB vt19 fun t19 =>
 let t9 := AV.ptr (HP.nxQ h2) 0
 let h3 := HP.newQ h2 (.cells true [(kI 0), (kI 0), (kI 0), (kI 0)])
 stsC 4 t9 t18 h3 fun h4 =>
 br t19 (
 cellsC 4 t9 h4 fun t21 =>
 stsC 4 t8 t21 h4 fun h5 =>
 cellsC 4 t8 h5 fun t8a =>
 some (.ret t8a h5, .no)) (
 let t24 := (AV.agg [(vI (Int.negSucc 0)), (vI (Int.negSucc 0)), (vI t2), (vI t3)])
 stsC 4 t9 t24 h4 fun h6 =>
 let t26 := ltQ (Int.ofNat 0) t3
 obB (brV t26 (
 some (vB true)) (
 nilckCV t0 fun t29 =>
 faCV 7 t29 fun t30 =>
 cellCV t30 h6 fun t31 =>
 obBV (evL (.look .str (.bool false) false (.c t31) (.c (vS t1))) .leaf h6) fun t33 =>
 some (vB t33))) fun t34 =>
 br t34 (
 nilckC t0 fun t36 =>
 faC 0 t36 fun t37 =>
 faC 4 t37 fun t38 =>
 cellC t38 h6 fun t39 =>
 lenC t39 fun vt40 => asI .i64 vt40 fun t40 =>
 let t41 := (AV.ptr (HP.nxQ h2) (Nat.add 0 1))
 stoC t41 (vI t40) h6 fun h9 =>
 nilckC t0 fun t44 =>
 faC 0 t44 fun t45 =>
 faC 4 t45 fun t46 =>
 cellC t46 h9 fun t47 =>
 let t51 := mmI true t3 (Int.ofNat 1)
 cal D 177 [(vI t2)] h9 fun t49 h10 =>
 br (again [⟨none, .cell q46, p47⟩] (mkT [(p47, t47), (p46, t46)]) h10) (
 asI .i64 t49 fun t49a =>
 let t52 := wrQ .i64 (t49a * t51)
 let t53 := wrQ .i64 (addQ t52 (Int.ofNat 7))
 let t54 := IntKind.wrap .i64 (BitVec.ofInt (IntKind.bits .i64) t53 &&& ~~~ BitVec.ofInt (IntKind.bits .i64) (Int.ofNat 7)).toNat
 let t55 := AV.slice (HP.nxQ h10) 0 1 (.exact 1)
 let h11 := HP.newQ h10 (.cells true [(vI t54)])
 eff (.app 1 8 (.c t47) (.c t55)) h11 fun t56 h12 =>
 nilckC t0 fun t57 =>
 faC 0 t57 fun t58 =>
 faC 4 t58 fun t59 =>
 stoC t59 t56 h12 fun h13 =>
 S138_0 D m t0 t1 t8 t9 h13) none) (
 cal D 91 [(vI t2)] h6 fun t62 h14 =>
 asI .i64 t62 fun t62a =>
 cal D 90 [t0, (vI t62a)] h14 fun t63 h15 =>
 asI .i64 t63 fun t63a =>
 let t64 := (AV.ptr (HP.nxQ h2) (Nat.add 0 0))
 stoC t64 (vI t63a) h15 fun h16 =>
 S138_0 D m t0 t1 t8 t9 h16))
def S138 : SFn := fun D m args h u => nou u <| popV args fun t0 args => popS args fun t1 args => popI .i64 args fun t2 args => popI .i64 args fun t3 args => endA args (S138_1 D m t0 t1 t2 t3 h)
theorem T138_0 (hE : FX x138 D m E) : S138_0 D m = e138_0 (E c138_0 []) := by unfold S138_0; rw [hE c138_0]; kernel_rfl
theorem T138_1 (hE : FX x138 D m E) : S138_1 D m = e138_1 (E c138_e []) := by unfold S138_1; rw [T138_0 hE, hE c138_e]; kernel_rfl
theorem X138 : XTie S138 x138 := X_of fun D m E hE args h u => by unfold S138; rw [T138_1 hE]; kernel_rfl
/- 139 -/
def c139_e : XC := (.sO [.mv p4 (ci 0) tI] (.seq (.seq (.oX [.mv p6 q1 tI, .cl p7 91 [q6] tI, .bn p8 .eql q7 (ci 2) .b]) (.cond q8 (.seq (.oX [.mv p9 q0 .v, .cl p10 90 [q9, (ci 2)] tI, .mv p5 q10 tI]) (.seq (.oX [.mv p11 q0 .v, .mv p12 q5 tI, .P p13 (.build [(kI 0), (kI 0), (kI 0), (kI 0), (.int .u32 (.ofNat 0)), (.int .u64 (.ofNat 0)), (.str []), .nils, (kI 0)] [⟨0, 1, (ci 2)⟩, ⟨1, 1, q12⟩]) .v, .cl p14 140 [q11, q13] .v]) (.seq (.oX [.mv p15 q5 tI, .mv p4 q15 tI]) .ret))) .skip)) (.sO [.mv p16 q0 .v, .cl p17 178 [q16, (.c (.int .u32 (.ofNat 0)))] tI, .mv p4 q17 tI] (.s .ret))))
def x139 : XFn := ⟨[.v, tI], false, [(.tmp p4)], c139_e⟩
def e139_0 (k t0 t1 h) := kN k [(p0, t0), (p1, (vI t1))] h
def S139_0 (D : CallD) (m : Nat) (t0 : AV) (t1 : Int) (h : HP) : Res2 :=
 cal D 91 [(vI t1)] h fun t7 h1 =>
 asI .i64 t7 fun t7a =>
 let t8 := eqQ t7a (Int.ofNat 2)
 br t8 (
 cal D 90 [t0, (vI (Int.ofNat 2))] h1 fun t10 h2 =>
 asI .i64 t10 fun t10a =>
 let t13 := (AV.agg [(vI (Int.ofNat 2)), (vI t10a), (vI (Int.ofNat 0)), (vI (Int.ofNat 0)), (vW (Int.ofNat 0)), (AV.int .u64 (Int.ofNat 0)), (vS ([] : LN)), (.nils : AV), (vI (Int.ofNat 0))])
 cal D 140 [t0, t13] h2 fun t14 h3 =>
 some (.ret (vI t10a) h3, .no)) (
 cal D 178 [t0, (vW (Int.ofNat 0))] h1 fun t17 h4 =>
 asI .i64 t17 fun t17a =>
 some (.ret (vI t17a) h4, .no))
def S139 : SFn := fun D m args h u => nou u <| popV args fun t0 args => popI .i64 args fun t1 args => endA args (S139_0 D m t0 t1 h)
theorem T139_0 (hE : FX x139 D m E) : S139_0 D m = e139_0 (E c139_e []) := by unfold S139_0; rw [hE c139_e]; kernel_rfl
theorem X139 : XTie S139 x139 := X_of fun D m E hE args h u => by unfold S139; rw [T139_0 hE]; kernel_rfl
/- 140 -/
def c140_e : XC := (.sO [.al p3 (.box q1)] (.s (.ops true (XL.of [.mv p4 q0 .v, .mv p5 q0 .v, .P p6 (.nilck q5) .v, .fa p7 0 q6, .fa p8 5 q7, .ld p9 q8 .v, .L p10 (.cells 9 q3) .v, .al p11 (.bsl [(kI 0), (kI 0), (kI 0), (kI 0), (.int .u32 (.ofNat 0)), (.int .u64 (.ofNat 0)), (.str []), .nils, (kI 0)] 1 [⟨0, 9, q10⟩]), .o ⟨(some p12), (.e (.app 9 96 q9 q11)), none, []⟩ .v, .P p13 (.nilck q4) .v, .fa p14 0 q13, .fa p15 5 q14, .st q15 q12]))))
def x140 : XFn := ⟨[.v, .v], false, [], c140_e⟩
def e140_0 (k t0 t1 h) := kN k [(p0, t0), (p1, t1)] h
def S140_0 (D : CallD) (m : Nat) (t0 t1 : AV) (h : HP) : Res2 :=
 let t3 := AV.ptr (HP.nxQ h) 0
 let h1 := HP.newQ h (.cells true (AV.cells t1))
 nilckC t0 fun t6 =>
 faC 0 t6 fun t7 =>
 faC 5 t7 fun t8 =>
 cellC t8 h1 fun t9 =>
 cellsC 9 t3 h1 fun t10 =>
 obQ (evA (.bsl [(kI 0), (kI 0), (kI 0), (kI 0), (.int .u32 (.ofNat 0)), (.int .u64 (.ofNat 0)), (.str []), .nils, (kI 0)] 1 [⟨0, 9, (.c t10)⟩]) .leaf) fun r2 =>
 let t11 := vkV r2.2 (HP.nxQ h1)
 let h3 := HP.newQ h1 r2.1
 eff (.app 9 96 (.c t9) (.c t11)) h3 fun t12 h4 =>
 nilckC t0 fun t13 =>
 faC 0 t13 fun t14 =>
 faC 5 t14 fun t15 =>
 stoC t15 t12 h4 fun h5 =>
 some (.ret (.tup []) h5, .no)
def S140 : SFn := fun D m args h u => nou u <| popV args fun t0 args => popV args fun t1 args => endA args (S140_0 D m t0 t1 h)
theorem T140_0 (hE : FX x140 D m E) : S140_0 D m = e140_0 (E c140_e []) := by unfold S140_0; rw [hE c140_e]; kernel_rfl
theorem X140 : XTie S140 x140 := X_of fun D m E hE args h u => by unfold S140; rw [T140_0 hE]; kernel_rfl
/- 144 -/
def v144_0 : List Pos := [p0, p3, p4, p5]
def c144_0 : XC := (.sO [.mv p44 q0 .v, .cl p45 180 [q44, q4] .v] (.sO [.mv p46 q0 .v, .cl p47 182 [q46, q4] .v] (.sO [.fa p48 2 q3, .ld p49 q48 .v, .P p50 (.lenl q49) tI, .bn p51 .gtr q50 (ci 1) .b] (.cond q51 (.sO [.mv p52 q0 .v, .fa p53 2 q3, .ld p54 q53 .v, .P p55 (.iaddr (.sl 7) q54 (ci 1)) .v, .L p56 (.cells 7 q55) .v, .cl p57 144 [q52, q56] .v] (.sO [.mv p58 q0 .v, .cl p59 180 [q58, q5] .v] (.s (.oX [.mv p60 q0 .v, .cl p61 182 [q60, q5] .v])))) (.s .skip)))))
def v144_2 : List Pos := [p0, p144, p145, p146]
def c144_2b : XC := (.sO [.bn p147 .lss q146 q145 .b] (.seq (.cond q147 .skip (.exit 1)) (.seq (.block 2 (.seq (.oX [.P p148 (.iaddr (.sl 8) q144 q146) .v, .L p149 (.cells 8 q148) .v, .al p9 (.new [(kI 0), (.str []), (.str []), (.int .u32 (.ofNat 0)), (.int .u64 (.ofNat 0)), .nils, (kI 0), (kI 0)]), .ss 8 q9 q149]) (.oX [.mv p150 q0 .v, .L p151 (.cells 8 q9) .v, .cl p152 145 [q150, q151] tI]))) (.s (.oX [.bn p153 .add q146 (ci 1) tI, .mv p146 q153 tI])))))
def v144_3 : List Pos := [p0, p3, p10]
def c144_3 : XC := (.s (.oX [.mv p167 q0 .v, .fa p168 3 q3, .ld p169 q168 .s, .fa p170 4 q3, .ld p171 q170 tI, .fa p172 5 q3, .ld p173 q172 tI, .mv p174 q10 tI, .cl p175 92 [q167, q169, q171, q173, q174] .v]))
def v144_4 : List Pos := [p0, p3, p10, p157, p158, p159]
def c144_4b : XC := (.sO [.bn p160 .lss q159 q158 .b] (.seq (.cond q160 .skip (.exit 3)) (.seq (.block 4 (.seq (.oX [.P p161 (.iaddr (.sl 8) q157 q159) .v, .L p162 (.cells 8 q161) .v, .al p12 (.new [(kI 0), (.str []), (.str []), (.int .u32 (.ofNat 0)), (.int .u64 (.ofNat 0)), .nils, (kI 0), (kI 0)]), .ss 8 q12 q162]) (.oX [.mv p163 q0 .v, .L p164 (.cells 8 q12) .v, .cl p165 145 [q163, q164] tI, .mv p10 q165 tI]))) (.s (.oX [.bn p166 .add q159 (ci 1) tI, .mv p159 q166 tI])))))
def v144_1 : List Pos := [p0, p3, p14, p119]
def c144_1 : XC := (.cond q119 (.s (.ops true (XL.of [.mv p122 q0 .v, .P p123 (.build [(kI 0), (kI 0), (kI 0), (kI 0), (.int .u32 (.ofNat 0)), (.int .u64 (.ofNat 0)), (.str []), .nils, (kI 0)] [⟨0, 1, (ci 18)⟩]) .v, .mv p124 q0 .v, .P p125 (.nilck q124) .v, .fa p126 9 q125, .ld p127 q126 .v, .mv p128 q0 .v, .P p129 (.nilck q128) .v, .fa p130 9 q129, .ld p131 q130 .v, .P p132 (.lenl q131) tI, .bn p133 .sub q132 (ci 1) tI, .fa p134 0 q3, .ld p135 q134 tI, .bn p136 .sub q135 (ci 5) tI, .P p137 (.iaddr (.sl 2) q127 q133) .v, .P p138 (.iaddr (.arr 2 1) q137 q136) .v, .ld p139 q138 .v, .cl p140 181 [q122, q123, q139] .v]))) (.sO [.bn p142 .eql q14 (ci 7) .b, .mv p141 q142 .b] (.cond q141 (.sO [.fa p143 1 q3, .ld p144 q143 .v, .P p145 (.lenl q144) tI, .mv p146 (ci 0) tI] (.block 1 (.loop v144_2 c144_2b))) (.sO [.bn p155 .eql q14 (ci 8) .b, .mv p154 q155 .b] (.cond q154 (.sO [.mv p10 (.c (.int .i64 (.negSucc 0))) tI] (.sj v144_3 (.sO [.fa p156 1 q3, .ld p157 q156 .v, .P p158 (.lenl q157) tI, .mv p159 (ci 0) tI] (.block 3 (.loop v144_4 c144_4b))) c144_3)) (.s .skip))))))
def c144_e : XC := (.sO [.al p3 (.box q1)] (.sO [.fa p13 0 q3, .ld p14 q13 tI] (.block 0 (.sO [.bn p16 .eql q14 (ci 1) .b, .mv p15 q16 .b] (.cond q15 (.s (.oX [.mv p17 q0 .v, .fa p18 2 q3, .ld p19 q18 .v, .cl p20 93 [q17, q19] .v])) (.sO [.bn p22 .eql q14 (ci 2) .b, .mv p21 q22 .b] (.cond q21 (.sO [.al p4 (.new [(kI 0), .nils]), .al p5 (.new [(kI 0), .nils])] (.sO [.mv p23 q0 .v, .mv p24 q0 .v, .fa p25 1 q3, .ld p26 q25 .v, .P p27 (.iaddr (.sl 8) q26 (ci 0)) .v, .L p28 (.cells 8 q27) .v, .cl p29 145 [q24, q28] tI, .cl p30 183 [q23, q29, q4] .v] (.sO [.mv p31 q0 .v, .fa p32 2 q3, .ld p33 q32 .v, .P p34 (.iaddr (.sl 7) q33 (ci 0)) .v, .L p35 (.cells 7 q34) .v, .cl p36 144 [q31, q35] .v] (.sj v144_0 (.sO [.fa p37 2 q3, .ld p38 q37 .v, .P p39 (.lenl q38) tI, .bn p40 .gtr q39 (ci 1) .b] (.cond q40 (.s (.oX [.mv p41 q0 .v, .P p42 (.build [(kI 0), (kI 0), (kI 0), (kI 0), (.int .u32 (.ofNat 0)), (.int .u64 (.ofNat 0)), (.str []), .nils, (kI 0)] [⟨0, 1, (ci 18)⟩]) .v, .cl p43 181 [q41, q42, q5] .v])) (.s .skip))) c144_0)))) (.sO [.bn p63 .eql q14 (ci 3) .b, .mv p62 q63 .b] (.cond q62 (.sO [.al p6 (.new [(kI 0), .nils]), .al p7 (.new [(kI 0), .nils])] (.sO [.mv p64 q0 .v, .cl p65 180 [q64, q6] .v] (.sO [.mv p66 q0 .v, .mv p67 q0 .v, .fa p68 1 q3, .ld p69 q68 .v, .P p70 (.iaddr (.sl 8) q69 (ci 0)) .v, .L p71 (.cells 8 q70) .v, .cl p72 145 [q67, q71] tI, .cl p73 183 [q66, q72, q7] .v] (.sO [.mv p74 q0 .v, .mv p75 q0 .v, .P p76 (.nilck q75) .v, .fa p77 9 q76, .ld p78 q77 .v, .P p79 (.build [.nilp, .nilp] [⟨0, 1, q7⟩, ⟨1, 1, q6⟩]) .v, .al p80 (.bsl [.nilp, .nilp] 1 [⟨0, 2, q79⟩]), .o ⟨(some p81), (.e (.app 2 16 q78 q80)), none, []⟩ .v, .P p82 (.nilck q74) .v, .fa p83 9 q82, .st q83 q81] (.sO [.mv p84 q0 .v, .fa p85 2 q3, .ld p86 q85 .v, .P p87 (.iaddr (.sl 7) q86 (ci 0)) .v, .L p88 (.cells 7 q87) .v, .cl p89 144 [q84, q88] .v] (.seq (.ops true (XL.of [.mv p90 q0 .v, .mv p91 q0 .v, .P p92 (.nilck q91) .v, .fa p93 9 q92, .ld p94 q93 .v, .mv p95 q0 .v, .P p96 (.nilck q95) .v, .fa p97 9 q96, .ld p98 q97 .v, .P p99 (.lenl q98) tI, .bn p100 .sub q99 (ci 1) tI, .P p101 (.slice (.sl 2) q94 none (some q100) none) .v, .P p102 (.nilck q90) .v, .fa p103 9 q102, .st q103 q101])) (.sO [.mv p104 q0 .v, .P p105 (.build [(kI 0), (kI 0), (kI 0), (kI 0), (.int .u32 (.ofNat 0)), (.int .u64 (.ofNat 0)), (.str []), .nils, (kI 0)] [⟨0, 1, (ci 18)⟩]) .v, .cl p106 181 [q104, q105, q6] .v] (.sO [.mv p107 q0 .v, .cl p108 180 [q107, q7] .v] (.sO [.mv p109 q0 .v, .cl p110 182 [q109, q7] .v] (.s (.oX [.mv p111 q0 .v, .cl p112 182 [q111, q6] .v]))))))))))) (.sO [.bn p114 .eql q14 (ci 4) .b, .mv p113 q114 .b] (.cond q113 (.s (.oX [.mv p115 q0 .v, .fa p116 1 q3, .ld p117 q116 .v, .cl p118 94 [q115, q117] .v])) (.sj v144_1 (.sO [.bn p120 .eql q14 (ci 5) .b, .mv p119 q120 .b] (.cond q119 (.s .skip) (.s (.oX [.bn p121 .eql q14 (ci 6) .b, .mv p119 q121 .b])))) c144_1))))))))))))
def x144 : XFn := ⟨[.v, .v], false, [], c144_e⟩
def S144 : SFn := evFX x144
theorem X144 : XTie S144 x144 := fun _ _ _ _ _ => rfl
/- 145 -/
def v145_0 : List Pos := [p0, p3]
def c145_0 : XC := (.sO [.mv p111 q0 .v, .L p112 (.cells 8 q3) .v, .cl p113 190 [q111, q112] tI, .mv p4 q113 tI] (.s .ret))
def v145_2 : List Pos := [p9]
def c145_2 : XC := (.sO [.mv p99 q9 tI, .mv p4 q99 tI] (.s .ret))
def v145_1 : List Pos := [p0, p3, p11, p29]
def c145_1 : XC := (.cond q29 (.sO [.mv p32 q0 .v, .L p33 (.cells 8 q3) .v, .cl p34 184 [q32, q33] tI, .mv p4 q34 tI] (.s .ret)) (.sO [.bn p36 .eql q11 (ci 4) .b, .mv p35 q36 .b] (.cond q35 (.sO [.mv p37 q0 .v, .L p38 (.cells 8 q3) .v, .cl p39 185 [q37, q38] tI, .mv p4 q39 tI] (.s .ret)) (.sO [.bn p41 .eql q11 (ci 5) .b, .mv p40 q41 .b] (.cond q40 (.seq (.seq (.oX [.fa p42 1 q3, .ld p43 q42 .s, .bn p44 .eql q43 (.c (.str [38, 38])) .b, .mv p45 q44 .b, .ge p45 (XL.of [.G p45 false p46 (.faddr 1 q3) .v, .o ⟨(some p47), (.l (.cell q46)), (some (p45, false)), []⟩ .s, .G p45 false p48 (.bin .eql q47 (.c (.str [124, 124]))) .b, .P p49 (.pick q45 (cb true) q48) .b]) p49 .b]) (.cond q49 (.seq (.oX [.mv p50 q0 .v, .L p51 (.cells 8 q3) .v, .cl p52 186 [q50, q51] tI, .mv p4 q52 tI]) .ret) .skip)) (.sO [.mv p53 q0 .v, .fa p54 5 q3, .ld p55 q54 .v, .P p56 (.iaddr (.sl 8) q55 (ci 0)) .v, .L p57 (.cells 8 q56) .v, .cl p58 145 [q53, q57] tI, .mv p6 q58 tI] (.seq (.ops true (XL.of [.mv p59 q0 .v, .L p60 (.cells 8 q3) .v, .mv p61 q6 tI, .mv p62 q0 .v, .fa p63 5 q3, .ld p64 q63 .v, .P p65 (.iaddr (.sl 8) q64 (ci 1)) .v, .L p66 (.cells 8 q65) .v, .o ⟨(some p67), (.call (.fn 145) [q62, q66]), none, [⟨none, .cells 8 q3, p60⟩]⟩ tI, .cl p68 187 [q59, q60, q61, q67] tI, .mv p4 q68 tI])) (.s .ret)))) (.sO [.bn p70 .eql q11 (ci 6) .b, .mv p69 q70 .b] (.cond q69 (.sO [.mv p72 q0 .v, .fa p73 5 q3, .ld p74 q73 .v, .P p75 (.iaddr (.sl 8) q74 (ci 0)) .v, .L p76 (.cells 8 q75) .v, .cl p77 188 [q72, q76] .v, .mv p71 q77 .v, .P p78 (.ext q71 0) tI, .P p79 (.ext q71 1) tI, .mv p7 q78 tI, .mv p8 q79 tI] (.sO [.mv p80 q0 .v, .fa p81 5 q3, .ld p82 q81 .v, .P p83 (.iaddr (.sl 8) q82 (ci 1)) .v, .L p84 (.cells 8 q83) .v, .cl p85 145 [q80, q84] tI, .mv p9 q85 tI] (.sj v145_2 (.sO [.mv p86 q7 tI, .bn p87 .geq q86 (ci 0) .b] (.cond q87 (.s (.oX [.mv p88 q0 .v, .mv p89 q7 tI, .mv p90 q9 tI, .P p91 (.build [(kI 0), (kI 0), (kI 0), (kI 0), (.int .u32 (.ofNat 0)), (.int .u64 (.ofNat 0)), (.str []), .nils, (kI 0)] [⟨0, 1, (ci 3)⟩, ⟨1, 1, q89⟩, ⟨2, 1, q90⟩]) .v, .cl p92 140 [q88, q91] .v])) (.s (.oX [.mv p93 q0 .v, .fa p94 6 q3, .ld p95 q94 tI, .mv p96 q8 tI, .mv p97 q9 tI, .cl p98 142 [q93, q95, q96, q97] .v])))) c145_2))) (.sO [.bn p101 .eql q11 (ci 9) .b, .mv p100 q101 .b] (.cond q100 (.seq (.ops true (XL.of [.mv p102 q0 .v, .L p103 (.cells 8 q3) .v, .mv p104 q0 .v, .fa p105 5 q3, .ld p106 q105 .v, .P p107 (.iaddr (.sl 8) q106 (ci 0)) .v, .L p108 (.cells 8 q107) .v, .o ⟨(some p109), (.call (.fn 145) [q104, q108]), none, [⟨none, .cells 8 q3, p103⟩]⟩ tI, .cl p110 189 [q102, q103, q109] tI, .mv p4 q110 tI])) (.s .ret)) (.s .skip))))))))))
def c145_e : XC := (.sO [.al p3 (.box q1), .mv p4 (ci 0) tI] (.sj v145_0 (.sO [.fa p10 0 q3, .ld p11 q10 tI] (.block 0 (.sO [.bn p13 .eql q11 (ci 1) .b, .mv p12 q13 .b] (.cond q12 (.sO [.mv p14 q0 .v, .fa p15 3 q3, .ld p16 q15 tW, .cl p17 178 [q14, q16] tI, .mv p4 q17 tI] (.s .ret)) (.sO [.bn p19 .eql q11 (ci 2) .b, .mv p18 q19 .b] (.cond q18 (.sO [.mv p20 q0 .v, .cl p21 90 [q20, (ci 2)] tI, .mv p5 q21 tI] (.sO [.mv p22 q0 .v, .mv p23 q5 tI, .fa p24 4 q3, .ld p25 q24 (.i .u64), .P p26 (.build [(kI 0), (kI 0), (kI 0), (kI 0), (.int .u32 (.ofNat 0)), (.int .u64 (.ofNat 0)), (.str []), .nils, (kI 0)] [⟨0, 1, (ci 2)⟩, ⟨1, 1, q23⟩, ⟨5, 1, q25⟩]) .v, .cl p27 140 [q22, q26] .v] (.sO [.mv p28 q5 tI, .mv p4 q28 tI] (.s .ret)))) (.sj v145_1 (.sO [.bn p30 .eql q11 (ci 3) .b, .mv p29 q30 .b] (.cond q29 (.s .skip) (.s (.oX [.bn p31 .eql q11 (ci 8) .b, .mv p29 q31 .b])))) c145_1))))))) c145_0))
def x145 : XFn := ⟨[.v, .v], false, [(.tmp p4)], c145_e⟩
def e145_0 (k t0 t3 h) := kN k [(p0, t0), (p3, t3)] h
def S145_0 (D : CallD) (m : Nat) (t0 t3 : AV) (h : HP) : Res2 :=
 cellsC 8 t3 h fun t112 =>
 cal D 190 [t0, t112] h fun t113 h5 =>
 asI .i64 t113 fun t113a =>
 some (.ret (vI t113a) h5, .no)
def e145_2 (k t9 h) := kN k [(p9, (vI t9))] h
def S145_2 (D : CallD) (m : Nat) (t9 : Int) (h : HP) : Res2 :=
 some (.ret (vI t9) h, .no)
def e145_1 (k t0 t3 t11 t29 h) := kN k [(p0, t0), (p3, t3), (p11, (vI t11)), (p29, (vB t29))] h
def S145_1 (D : CallD) (m : Nat) (t0 t3 : AV) (t11 : Int) (t29 : Bool) (h : HP) : Res2 :=
 br t29 (
 cellsC 8 t3 h fun t33 =>
 cal D 184 [t0, t33] h fun t34 h9 =>
 asI .i64 t34 fun t34a =>
 some (.ret (vI t34a) h9, .no)) (
 let t36 := eqQ t11 (Int.ofNat 4)
 br t36 (
 cellsC 8 t3 h fun t38 =>
 cal D 185 [t0, t38] h fun t39 h10 =>
 asI .i64 t39 fun t39a =>
 some (.ret (vI t39a) h10, .no)) (
 let t41 := eqQ t11 (Int.ofNat 5)
 br t41 (
 faC 1 t3 fun t42 =>
 ldS t42 h fun t43 =>
 let t44 := eqL t43 ([38, 38] : LN)
 obB (brV t44 (
 some (vB true)) (
 faCV 1 t3 fun t46 =>
 ldSV t46 h fun t47 =>
 let t48 := eqL t47 ([124, 124] : LN)
 some (vB t48))) fun t49 =>
 br t49 (
 cellsC 8 t3 h fun t51 =>
 cal D 186 [t0, t51] h fun t52 h11 =>
 asI .i64 t52 fun t52a =>
 some (.ret (vI t52a) h11, .no)) (
 faC 5 t3 fun t54 =>
 cellC t54 h fun t55 =>
 iasC 8 t55 (vI (Int.ofNat 0)) fun t56 =>
 cellsC 8 t56 h fun t57 =>
 cal D 145 [t0, t57] h fun t58 h12 =>
 asI .i64 t58 fun t58a =>
 cellsC 8 t3 h12 fun t60 =>
 faC 5 t3 fun t63 =>
 cellC t63 h12 fun t64 =>
 iasC 8 t64 (vI (Int.ofNat 1)) fun t65 =>
 cellsC 8 t65 h12 fun t66 =>
 cal D 145 [t0, t66] h12 fun t67 h13 =>
 br (again [⟨none, .cells 8 q3, p60⟩] (mkT [(p60, t60), (p3, t3)]) h13) (
 asI .i64 t67 fun t67a =>
 cal D 187 [t0, t60, (vI t58a), (vI t67a)] h13 fun t68 h14 =>
 asI .i64 t68 fun t68a =>
 some (.ret (vI t68a) h14, .no)) none)) (
 let t70 := eqQ t11 (Int.ofNat 6)
 br t70 (
 faC 5 t3 fun t73 =>
 cellC t73 h fun t74 =>
 iasC 8 t74 (vI (Int.ofNat 0)) fun t75 =>
 cellsC 8 t75 h fun t76 =>
 cal D 188 [t0, t76] h fun t77 h15 =>
 extC t77 0 fun vt78 => asI .i64 vt78 fun t78 =>
 extC t77 1 fun vt79 => asI .i64 vt79 fun t79 =>
 faC 5 t3 fun t81 =>
 cellC t81 h15 fun t82 =>
 iasC 8 t82 (vI (Int.ofNat 1)) fun t83 =>
 cellsC 8 t83 h15 fun t84 =>
 cal D 145 [t0, t84] h15 fun t85 h16 =>
 asI .i64 t85 fun t85a =>
 let t87 := leQ (Int.ofNat 0) t78
 br t87 (
 let t91 := (AV.agg [(vI (Int.ofNat 3)), (vI t78), (vI t85a), (vI (Int.ofNat 0)), (vW (Int.ofNat 0)), (AV.int .u64 (Int.ofNat 0)), (vS ([] : LN)), (.nils : AV), (vI (Int.ofNat 0))])
 cal D 140 [t0, t91] h16 fun t92 h17 =>
 S145_2 D m t85a h17) (
 faC 6 t3 fun t94 =>
 ldI t94 h16 fun t95 =>
 cal D 142 [t0, (vI t95), (vI t79), (vI t85a)] h16 fun t98 h18 =>
 S145_2 D m t85a h18)) (
 let t101 := eqQ t11 (Int.ofNat 9)
 br t101 (
 cellsC 8 t3 h fun t103 =>
 faC 5 t3 fun t105 =>
 cellC t105 h fun t106 =>
 iasC 8 t106 (vI (Int.ofNat 0)) fun t107 =>
 cellsC 8 t107 h fun t108 =>
 cal D 145 [t0, t108] h fun t109 h19 =>
 br (again [⟨none, .cells 8 q3, p103⟩] (mkT [(p103, t103), (p3, t3)]) h19) (
 asI .i64 t109 fun t109a =>
 cal D 189 [t0, t103, (vI t109a)] h19 fun t110 h20 =>
 asI .i64 t110 fun t110a =>
 some (.ret (vI t110a) h20, .no)) none) (
 S145_0 D m t0 t3 h)))))
def e145_3 (k t0 t1 h) := kN k [(p0, t0), (p1, t1)] h
def S145_3 (D : CallD) (m : Nat) (t0 t1 : AV) (h : HP) : Res2 :=
 let t3 := AV.ptr (HP.nxQ h) 0
 let h4 := HP.newQ h (.cells true (AV.cells t1))
 let t10 := (AV.ptr (HP.nxQ h) (Nat.add 0 0))
 ldI t10 h4 fun t11 =>
 let t13 := eqQ t11 (Int.ofNat 1)
 br t13 (
 let t15 := (AV.ptr (HP.nxQ h) (Nat.add 0 3))
 ldW t15 h4 fun t16 =>
 cal D 178 [t0, (vW t16)] h4 fun t17 h6 =>
 asI .i64 t17 fun t17a =>
 some (.ret (vI t17a) h6, .no)) (
 let t19 := eqQ t11 (Int.ofNat 2)
 br t19 (
 cal D 90 [t0, (vI (Int.ofNat 2))] h4 fun t21 h7 =>
 asI .i64 t21 fun t21a =>
 let t24 := (AV.ptr (HP.nxQ h) (Nat.add 0 4))
 cellC t24 h7 fun vt25 => asI .u64 vt25 fun t25 =>
 let t26 := (AV.agg [(vI (Int.ofNat 2)), (vI t21a), (vI (Int.ofNat 0)), (vI (Int.ofNat 0)), (vW (Int.ofNat 0)), (AV.int .u64 t25), (vS ([] : LN)), (.nils : AV), (vI (Int.ofNat 0))])
 cal D 140 [t0, t26] h7 fun t27 h8 =>
 some (.ret (vI t21a) h8, .no)) (
 let t30 := eqQ t11 (Int.ofNat 3)
 br t30 (
 S145_1 D m t0 t3 t11 t30 h4) (
 let t31 := eqQ t11 (Int.ofNat 8)
 S145_1 D m t0 t3 t11 t31 h4)))
def S145 : SFn := fun D m args h u => nou u <| popV args fun t0 args => popV args fun t1 args => endA args (S145_3 D m t0 t1 h)
theorem T145_0 (hE : FX x145 D m E) : S145_0 D m = e145_0 (E c145_0 []) := by unfold S145_0; rw [hE c145_0]; kernel_rfl
theorem T145_2 (hE : FX x145 D m E) : S145_2 D m = e145_2 (E c145_2 [.blk 0, .sj v145_0 c145_0]) := by unfold S145_2; rw [hE c145_2]; kernel_rfl
theorem T145_1 (hE : FX x145 D m E) : S145_1 D m = e145_1 (E c145_1 [.blk 0, .sj v145_0 c145_0]) := by unfold S145_1; rw [T145_2 hE, T145_0 hE, hE c145_1]; kernel_rfl
theorem T145_3 (hE : FX x145 D m E) : S145_3 D m = e145_3 (E c145_e []) := by unfold S145_3; rw [T145_1 hE, hE c145_e]; kernel_rfl
theorem X145 : XTie S145 x145 := X_of fun D m E hE args h u => by unfold S145; rw [T145_3 hE]; kernel_rfl
/- 146 -/
def v146_0 : List Pos := [p2]
def c146_0 : XC := (.sO [.P p48 (.build [(kI 0), (kI 0), (kI 0)] []) .v, .ss 3 q2 q48] (.s .ret))
def v146_1 : List Pos := [p2, p3, p4]
def c146_1 : XC := (.cond q4 (.sO [.P p8 (.build [(kI 0), (kI 0), (kI 0)] [⟨0, 1, (ci 1)⟩, ⟨1, 1, (ci 0)⟩, ⟨2, 1, (ci 0)⟩]) .v, .ss 3 q2 q8] (.s .ret)) (.sO [.bn p10 .eql q3 (ci 2) .b, .mv p9 q10 .b] (.cond q9 (.sO [.P p11 (.build [(kI 0), (kI 0), (kI 0)] [⟨0, 1, (ci 2)⟩, ⟨1, 1, (ci 0)⟩, ⟨2, 1, (ci 0)⟩]) .v, .ss 3 q2 q11] (.s .ret)) (.sO [.bn p13 .eql q3 (ci 3) .b, .mv p12 q13 .b] (.cond q12 (.sO [.P p14 (.build [(kI 0), (kI 0), (kI 0)] [⟨0, 1, (ci 3)⟩, ⟨1, 1, (ci 3)⟩, ⟨2, 1, (ci 0)⟩]) .v, .ss 3 q2 q14] (.s .ret)) (.sO [.bn p16 .eql q3 (ci 4) .b, .mv p15 q16 .b] (.cond q15 (.sO [.P p17 (.build [(kI 0), (kI 0), (kI 0)] [⟨0, 1, (ci 1)⟩, ⟨1, 1, (ci 1)⟩, ⟨2, 1, (ci 1)⟩]) .v, .ss 3 q2 q17] (.s .ret)) (.sO [.bn p19 .eql q3 (ci 5) .b, .mv p18 q19 .b] (.cond q18 (.sO [.P p20 (.build [(kI 0), (kI 0), (kI 0)] [⟨0, 1, (ci 2)⟩, ⟨1, 1, (ci 2)⟩, ⟨2, 1, (ci 2)⟩]) .v, .ss 3 q2 q20] (.s .ret)) (.sO [.bn p22 .eql q3 (ci 6) .b, .mv p21 q22 .b] (.cond q21 (.sO [.P p23 (.build [(kI 0), (kI 0), (kI 0)] [⟨0, 1, (ci 1)⟩, ⟨1, 1, (ci 2)⟩, ⟨2, 1, (ci 2)⟩]) .v, .ss 3 q2 q23] (.s .ret)) (.sO [.bn p25 .eql q3 (ci 7) .b, .mv p24 q25 .b] (.cond q24 (.sO [.P p26 (.build [(kI 0), (kI 0), (kI 0)] [⟨0, 1, (ci 2)⟩, ⟨1, 1, (ci 2)⟩, ⟨2, 1, (ci 0)⟩]) .v, .ss 3 q2 q26] (.s .ret)) (.sO [.bn p28 .eql q3 (ci 8) .b, .mv p27 q28 .b] (.cond q27 (.sO [.P p29 (.build [(kI 0), (kI 0), (kI 0)] [⟨0, 1, (ci 1)⟩, ⟨1, 1, (ci 2)⟩, ⟨2, 1, (ci 0)⟩]) .v, .ss 3 q2 q29] (.s .ret)) (.sO [.bn p31 .eql q3 (ci 9) .b, .mv p30 q31 .b] (.cond q30 (.sO [.P p32 (.build [(kI 0), (kI 0), (kI 0)] [⟨0, 1, (ci 2)⟩, ⟨1, 1, (ci 1)⟩, ⟨2, 1, (ci 0)⟩]) .v, .ss 3 q2 q32] (.s .ret)) (.sO [.bn p34 .eql q3 (ci 12) .b, .mv p33 q34 .b] (.cond q33 (.sO [.P p35 (.build [(kI 0), (kI 0), (kI 0)] [⟨0, 1, (ci 1)⟩, ⟨1, 1, (ci 1)⟩, ⟨2, 1, (ci 0)⟩]) .v, .ss 3 q2 q35] (.s .ret)) (.sO [.bn p37 .eql q3 (ci 13) .b, .mv p36 q37 .b] (.cond q36 (.sO [.P p38 (.build [(kI 0), (kI 0), (kI 0)] [⟨0, 1, (ci 2)⟩, ⟨1, 1, (ci 1)⟩, ⟨2, 1, (ci 0)⟩]) .v, .ss 3 q2 q38] (.s .ret)) (.sO [.bn p40 .eql q3 (ci 14) .b, .mv p39 q40 .b] (.cond q39 (.sO [.P p41 (.build [(kI 0), (kI 0), (kI 0)] [⟨0, 1, (ci 0)⟩, ⟨1, 1, (ci 1)⟩, ⟨2, 1, (ci 1)⟩]) .v, .ss 3 q2 q41] (.s .ret)) (.sO [.bn p43 .eql q3 (ci 15) .b, .mv p42 q43 .b] (.cond q42 (.sO [.P p44 (.build [(kI 0), (kI 0), (kI 0)] [⟨0, 1, (ci 0)⟩, ⟨1, 1, (ci 1)⟩, ⟨2, 1, (ci 2)⟩]) .v, .ss 3 q2 q44] (.s .ret)) (.sO [.bn p46 .eql q3 (ci 19) .b, .mv p45 q46 .b] (.cond q45 (.sO [.P p47 (.build [(kI 0), (kI 0), (kI 0)] [⟨0, 1, (ci 0)⟩, ⟨1, 1, (ci 1)⟩, ⟨2, 1, (ci 0)⟩]) .v, .ss 3 q2 q47] (.s .ret)) (.s .skip))))))))))))))))))))))))))))
def c146_e : XC := (.sO [.al p2 (.new [(kI 0), (kI 0), (kI 0)])] (.sj v146_0 (.sO [.mv p3 q0 tI] (.block 0 (.sj v146_1 (.sO [.bn p5 .eql q3 (ci 1) .b, .mv p4 q5 .b] (.cond q4 (.s .skip) (.sO [.bn p6 .eql q3 (ci 10) .b, .mv p4 q6 .b] (.cond q4 (.s .skip) (.s (.oX [.bn p7 .eql q3 (ci 11) .b, .mv p4 q7 .b])))))) c146_1))) c146_0))
def x146 : XFn := ⟨[tI], false, [(.cells 3 p2)], c146_e⟩
def e146_0 (k t2 h) := kN k [(p2, t2)] h
def S146_0 (D : CallD) (m : Nat) (t2 : AV) (h : HP) : Res2 :=
 let t48 := (AV.agg [(vI (Int.ofNat 0)), (vI (Int.ofNat 0)), (vI (Int.ofNat 0))])
 stsC 3 t2 t48 h fun h4 =>
 cellsC 3 t2 h4 fun t2a =>
 some (.ret t2a h4, .no)
def e146_1 (k t2 t3 t4 h) := kN k [(p2, t2), (p3, (vI t3)), (p4, (vB t4))] h
def S146_1 (D : CallD) (m : Nat) (t2 : AV) (t3 : Int) (t4 : Bool) (h : HP) : Res2 :=
 br t4 (
 let t8 := (AV.agg [(vI (Int.ofNat 1)), (vI (Int.ofNat 0)), (vI (Int.ofNat 0))])
 stsC 3 t2 t8 h fun h5 =>
 cellsC 3 t2 h5 fun t2a =>
 some (.ret t2a h5, .no)) (
 let t10 := eqQ t3 (Int.ofNat 2)
 br t10 (
 let t11 := (AV.agg [(vI (Int.ofNat 2)), (vI (Int.ofNat 0)), (vI (Int.ofNat 0))])
 stsC 3 t2 t11 h fun h6 =>
 cellsC 3 t2 h6 fun t2a =>
 some (.ret t2a h6, .no)) (
 let t13 := eqQ t3 (Int.ofNat 3)
 br t13 (
 let t14 := (AV.agg [(vI (Int.ofNat 3)), (vI (Int.ofNat 3)), (vI (Int.ofNat 0))])
 stsC 3 t2 t14 h fun h7 =>
 cellsC 3 t2 h7 fun t2a =>
 some (.ret t2a h7, .no)) (
 let t16 := eqQ t3 (Int.ofNat 4)
 br t16 (
 let t17 := (AV.agg [(vI (Int.ofNat 1)), (vI (Int.ofNat 1)), (vI (Int.ofNat 1))])
 stsC 3 t2 t17 h fun h8 =>
 cellsC 3 t2 h8 fun t2a =>
 some (.ret t2a h8, .no)) (
 let t19 := eqQ t3 (Int.ofNat 5)
 br t19 (
 let t20 := (AV.agg [(vI (Int.ofNat 2)), (vI (Int.ofNat 2)), (vI (Int.ofNat 2))])
 stsC 3 t2 t20 h fun h9 =>
 cellsC 3 t2 h9 fun t2a =>
 some (.ret t2a h9, .no)) (
 let t22 := eqQ t3 (Int.ofNat 6)
 br t22 (
 let t23 := (AV.agg [(vI (Int.ofNat 1)), (vI (Int.ofNat 2)), (vI (Int.ofNat 2))])
 stsC 3 t2 t23 h fun h10 =>
 cellsC 3 t2 h10 fun t2a =>
 some (.ret t2a h10, .no)) (
 let t25 := eqQ t3 (Int.ofNat 7)
 br t25 (
 let t26 := (AV.agg [(vI (Int.ofNat 2)), (vI (Int.ofNat 2)), (vI (Int.ofNat 0))])
 stsC 3 t2 t26 h fun h11 =>
 cellsC 3 t2 h11 fun t2a =>
 some (.ret t2a h11, .no)) (
 let t28 := eqQ t3 (Int.ofNat 8)
 br t28 (
 let t29 := (AV.agg [(vI (Int.ofNat 1)), (vI (Int.ofNat 2)), (vI (Int.ofNat 0))])
 stsC 3 t2 t29 h fun h12 =>
 cellsC 3 t2 h12 fun t2a =>
 some (.ret t2a h12, .no)) (
 let t31 := eqQ t3 (Int.ofNat 9)
 br t31 (
 let t32 := (AV.agg [(vI (Int.ofNat 2)), (vI (Int.ofNat 1)), (vI (Int.ofNat 0))])
 stsC 3 t2 t32 h fun h13 =>
 cellsC 3 t2 h13 fun t2a =>
 some (.ret t2a h13, .no)) (
 let t34 := eqQ t3 (Int.ofNat 12)
 br t34 (
 let t35 := (AV.agg [(vI (Int.ofNat 1)), (vI (Int.ofNat 1)), (vI (Int.ofNat 0))])
 stsC 3 t2 t35 h fun h14 =>
 cellsC 3 t2 h14 fun t2a =>
 some (.ret t2a h14, .no)) (
 let t37 := eqQ t3 (Int.ofNat 13)
 br t37 (
 let t38 := (AV.agg [(vI (Int.ofNat 2)), (vI (Int.ofNat 1)), (vI (Int.ofNat 0))])
 stsC 3 t2 t38 h fun h15 =>
 cellsC 3 t2 h15 fun t2a =>
 some (.ret t2a h15, .no)) (
 let t40 := eqQ t3 (Int.ofNat 14)
 br t40 (
 let t41 := (AV.agg [(vI (Int.ofNat 0)), (vI (Int.ofNat 1)), (vI (Int.ofNat 1))])
 stsC 3 t2 t41 h fun h16 =>
 cellsC 3 t2 h16 fun t2a =>
 some (.ret t2a h16, .no)) (
 let t43 := eqQ t3 (Int.ofNat 15)
 br t43 (
 let t44 := (AV.agg [(vI (Int.ofNat 0)), (vI (Int.ofNat 1)), (vI (Int.ofNat 2))])
 stsC 3 t2 t44 h fun h17 =>
 cellsC 3 t2 h17 fun t2a =>
 some (.ret t2a h17, .no)) (
 let t46 := eqQ t3 (Int.ofNat 19)
 br t46 (
 let t47 := (AV.agg [(vI (Int.ofNat 0)), (vI (Int.ofNat 1)), (vI (Int.ofNat 0))])
 stsC 3 t2 t47 h fun h18 =>
 cellsC 3 t2 h18 fun t2a =>
 some (.ret t2a h18, .no)) (
 S146_0 D m t2 h))))))))))))))
def e146_2 (k t0 h) := kN k [(p0, (vI t0))] h
def S146_2 (D : CallD) (m : Nat) (t0 : Int) (h : HP) : Res2 :=
 let t2 := AV.ptr (HP.nxQ h) 0
 let h3 := HP.newQ h (.cells true [(kI 0), (kI 0), (kI 0)])
 let t5 := eqQ t0 (Int.ofNat 1)
 br t5 (
 S146_1 D m t2 t0 t5 h3) (
 let t6 := eqQ t0 (Int.ofNat 10)
 br t6 (
 S146_1 D m t2 t0 t6 h3) (
 let t7 := eqQ t0 (Int.ofNat 11)
 S146_1 D m t2 t0 t7 h3))
def S146 : SFn := fun D m args h u => nou u <| popI .i64 args fun t0 args => endA args (S146_2 D m t0 h)
theorem T146_0 (hE : FX x146 D m E) : S146_0 D m = e146_0 (E c146_0 []) := by unfold S146_0; rw [hE c146_0]; kernel_rfl
theorem T146_1 (hE : FX x146 D m E) : S146_1 D m = e146_1 (E c146_1 [.blk 0, .sj v146_0 c146_0]) := by unfold S146_1; rw [T146_0 hE, hE c146_1]; kernel_rfl
theorem T146_2 (hE : FX x146 D m E) : S146_2 D m = e146_2 (E c146_e []) := by unfold S146_2; rw [T146_1 hE, hE c146_e]; kernel_rfl
theorem X146 : XTie S146 x146 := X_of fun D m E hE args h u => by unfold S146; rw [T146_2 hE]; kernel_rfl
/- 147 -/
def c147_e : XC := (.sO [.al p3 (.box q0), .mv p6 (cb false) .b] (.seq (.seq (.oX [.mv p8 q2 tI, .bn p9 .eql q8 (ci 0) .b]) (.cond q9 (.seq (.oX [.mv p10 q1 tI, .bn p11 .eql q10 (ci 0) .b, .mv p6 q11 .b]) .ret) .skip)) (.sO [.L p12 (.cells 6 q3) .v, .mv p13 q1 tI, .cl p14 96 [q12, q13] tI, .mv p7 q14 tI] (.sO [.mv p15 q7 tI, .bn p16 .neq q15 (ci 0) .b, .mv p17 q16 .b, .ge p17 (XL.of [.G p17 true p18 (.mov q2) tI, .G p17 true p19 (.bin .eql q18 (ci 3)) .b, .G p17 true p20 (.mov q19) .b, .ge p20 (XL.of [.G p20 false p21 (.mov q7) tI, .G p20 false p22 (.mov q2) tI, .G p20 false p23 (.bin .eql q21 q22) .b, .G p17 true p24 (.pick q20 (cb true) q23) .b]) p24 .b, .P p25 (.pick q17 q24 (cb false)) .b]) p25 .b, .mv p6 q25 .b] (.s .ret)))))
def x147 : XFn := ⟨[.v, tI, tI], false, [(.tmp p6)], c147_e⟩
def e147_0 (k t0 t1 t2 h) := kN k [(p0, t0), (p1, (vI t1)), (p2, (vI t2))] h
def S147_0 (D : CallD) (m : Nat) (t0 : AV) (t1 t2 : Int) (h : HP) : Res2 :=
 let t3 := AV.ptr (HP.nxQ h) 0
 let h1 := HP.newQ h (.cells true (AV.cells t0))
 let t9 := eqQ t2 (Int.ofNat 0)
 br t9 (
 let t11 := eqQ t1 (Int.ofNat 0)
 some (.ret (vB t11) h1, .no)) (
 cellsC 6 t3 h1 fun t12 =>
 cal D 96 [t12, (vI t1)] h1 fun t14 h2 =>
 asI .i64 t14 fun t14a =>
 let t16 := notQ (eqQ t14a (Int.ofNat 0))
 obB (brV t16 (
 let t19 := eqQ t2 (Int.ofNat 3)
 obBV (brV t19 (
 some (vB true)) (
 let t23 := eqQ t14a t2
 some (vB t23))) fun t24 =>
 some (vB t24)) (
 some (vB false))) fun t25 =>
 some (.ret (vB t25) h2, .no))
def S147 : SFn := fun D m args h u => nou u <| popV args fun t0 args => popI .i64 args fun t1 args => popI .i64 args fun t2 args => endA args (S147_0 D m t0 t1 t2 h)
theorem T147_0 (hE : FX x147 D m E) : S147_0 D m = e147_0 (E c147_e []) := by unfold S147_0; rw [hE c147_e]; kernel_rfl
theorem X147 : XTie S147 x147 := X_of fun D m E hE args h u => by unfold S147; rw [T147_0 hE]; kernel_rfl
/- 156 -/
def c156_e : XC := (.sO [.mv p6 (cb false) .b] (.sO [.mv p7 q1 tI, .mv p8 q2 .s, .P p9 (.lens q8) tI, .bn p10 .add q7 q9 tI, .mv p11 q0 .s, .P p12 (.lens q11) tI, .bn p13 .leq q10 q12 .b, .mv p14 q13 .b, .ge p14 (XL.of [.G p14 true p15 (.mov q0) .s, .G p14 true p16 (.mov q1) tI, .G p14 true p17 (.mov q1) tI, .G p14 true p18 (.mov q2) .s, .G p14 true p19 (.lens q18) tI, .G p14 true p20 (.bin .add q17 q19) tI, .G p14 true p21 (.slice .str q15 (some q16) (some q20) none) .s, .G p14 true p22 (.mov q2) .s, .G p14 true p23 (.bin .eql q21 q22) .b, .P p24 (.pick q14 q23 (cb false)) .b]) p24 .b, .mv p6 q24 .b] (.s .ret)))
def x156 : XFn := ⟨[.s, tI, .s], false, [(.tmp p6)], c156_e⟩
def e156_0 (k t0 t1 t2 h) := kN k [(p0, (vS t0)), (p1, (vI t1)), (p2, (vS t2))] h
def S156_0 (D : CallD) (m : Nat) (t0 : LN) (t1 : Int) (t2 : LN) (h : HP) : Res2 :=
 let t9 := Int.ofNat (lenL t2)
 let t10 := wrQ .i64 (addQ t1 t9)
 let t12 := Int.ofNat (lenL t0)
 let t13 := leQ t10 t12
 obB (brV t13 (
 let t19 := Int.ofNat (lenL t2)
 let t20 := wrQ .i64 (addQ t1 t19)
 slCV (vS t0) (some (vI t1)) (some (vI t20)) fun vt21 => asSV vt21 fun t21 =>
 let t23 := eqL t21 t2
 some (vB t23)) (
 some (vB false))) fun t24 =>
 some (.ret (vB t24) h, .no)
def S156 : SFn := fun D m args h u => nou u <| popS args fun t0 args => popI .i64 args fun t1 args => popS args fun t2 args => endA args (S156_0 D m t0 t1 t2 h)
theorem T156_0 (hE : FX x156 D m E) : S156_0 D m = e156_0 (E c156_e []) := by unfold S156_0; rw [hE c156_e]; kernel_rfl
theorem X156 : XTie S156 x156 := X_of fun D m E hE args h u => by unfold S156; rw [T156_0 hE]; kernel_rfl
/- 157 -/
def c157_e : XC := (.sO [.mv p2 (cb false) .b] (.sO [.mv p3 q0 tC, .bn p4 .geq q3 (.c (.int .u8 (.ofNat 97))) .b, .mv p5 q4 .b, .ge p5 (XL.of [.G p5 true p6 (.mov q0) tC, .G p5 true p7 (.bin .leq q6 (.c (.int .u8 (.ofNat 122)))) .b, .P p8 (.pick q5 q7 (cb false)) .b]) p8 .b, .mv p9 q8 .b, .ge p9 (XL.of [.G p9 false p10 (.mov q0) tC, .G p9 false p11 (.bin .geq q10 (.c (.int .u8 (.ofNat 65)))) .b, .G p9 false p12 (.mov q11) .b, .ge p12 (XL.of [.G p12 true p13 (.mov q0) tC, .G p12 true p14 (.bin .leq q13 (.c (.int .u8 (.ofNat 90)))) .b, .G p9 false p15 (.pick q12 q14 (cb false)) .b]) p15 .b, .P p16 (.pick q9 (cb true) q15) .b]) p16 .b, .mv p17 q16 .b, .ge p17 (XL.of [.G p17 false p18 (.mov q0) tC, .G p17 false p19 (.bin .eql q18 (.c (.int .u8 (.ofNat 95)))) .b, .P p20 (.pick q17 (cb true) q19) .b]) p20 .b, .mv p2 q20 .b] (.s .ret)))
def x157 : XFn := ⟨[tC], false, [(.tmp p2)], c157_e⟩
def e157_0 (k t0 h) := kN k [(p0, (vC t0))] h
def S157_0 (D : CallD) (m : Nat) (t0 : Int) (h : HP) : Res2 :=
 let t4 := leQ (Int.ofNat 97) t0
 obB (brV t4 (
 let t7 := leQ t0 (Int.ofNat 122)
 some (vB t7)) (
 some (vB false))) fun t8 =>
 obB (brV t8 (
 some (vB true)) (
 let t11 := leQ (Int.ofNat 65) t0
 obBV (brV t11 (
 let t14 := leQ t0 (Int.ofNat 90)
 some (vB t14)) (
 some (vB false))) fun t15 =>
 some (vB t15))) fun t16 =>
 obB (brV t16 (
 some (vB true)) (
 let t19 := eqQ t0 (Int.ofNat 95)
 some (vB t19))) fun t20 =>
 some (.ret (vB t20) h, .no)
def S157 : SFn := fun D m args h u => nou u <| popI .u8 args fun t0 args => endA args (S157_0 D m t0 h)
theorem T157_0 (hE : FX x157 D m E) : S157_0 D m = e157_0 (E c157_e []) := by unfold S157_0; rw [hE c157_e]; kernel_rfl
theorem X157 : XTie S157 x157 := X_of fun D m E hE args h u => by unfold S157; rw [T157_0 hE]; kernel_rfl
/- 158 -/
def c158_e : XC := (.sO [.mv p2 (cb false) .b] (.sO [.mv p3 q0 tC, .bn p4 .geq q3 (.c (.int .u8 (.ofNat 48))) .b, .mv p5 q4 .b, .ge p5 (XL.of [.G p5 true p6 (.mov q0) tC, .G p5 true p7 (.bin .leq q6 (.c (.int .u8 (.ofNat 57)))) .b, .P p8 (.pick q5 q7 (cb false)) .b]) p8 .b, .mv p2 q8 .b] (.s .ret)))
def x158 : XFn := ⟨[tC], false, [(.tmp p2)], c158_e⟩
def e158_0 (k t0 h) := kN k [(p0, (vC t0))] h
def S158_0 (D : CallD) (m : Nat) (t0 : Int) (h : HP) : Res2 :=
 let t4 := leQ (Int.ofNat 48) t0
 obB (brV t4 (
 let t7 := leQ t0 (Int.ofNat 57)
 some (vB t7)) (
 some (vB false))) fun t8 =>
 some (.ret (vB t8) h, .no)
def S158 : SFn := fun D m args h u => nou u <| popI .u8 args fun t0 args => endA args (S158_0 D m t0 h)
theorem T158_0 (hE : FX x158 D m E) : S158_0 D m = e158_0 (E c158_e []) := by unfold S158_0; rw [hE c158_e]; kernel_rfl
theorem X158 : XTie S158 x158 := X_of fun D m E hE args h u => by unfold S158; rw [T158_0 hE]; kernel_rfl
/- 159 -/
def v159_0 : List Pos := []
def c159_0 : XC := (.sO [.mv p2 (cb false) .b] (.s .ret))
def v159_1 : List Pos := [p0, p3, p6]
def c159_1b : XC := (.sO [.bn p7 .lss q6 (ci 11) .b] (.seq (.cond q7 .skip (.exit 0)) (.seq (.block 1 (.seq (.oX [.mv p8 q6 tI, .mv p4 q8 tI]) (.seq (.oX [.mv p9 q4 tI, .P p10 (.iaddr (.arr 11 1) q3 q9) .v, .ld p11 q10 .s, .mv p12 q0 .s, .bn p13 .eql q11 q12 .b]) (.cond q13 (.seq (.oX [.mv p2 (cb true) .b]) .ret) .skip)))) (.s (.oX [.bn p14 .add q6 (ci 1) tI, .mv p6 q14 tI])))))
def c159_e : XC := (.sO [.mv p2 (cb false) .b] (.sO [.P p5 (.build [(.str []), (.str []), (.str []), (.str []), (.str []), (.str []), (.str []), (.str []), (.str []), (.str []), (.str [])] [⟨0, 1, (.c (.str [105, 110, 116]))⟩, ⟨1, 1, (.c (.str [100, 111, 117, 98, 108, 101]))⟩, ⟨2, 1, (.c (.str [118, 111, 105, 100]))⟩, ⟨3, 1, (.c (.str [115, 116, 97, 116, 105, 99]))⟩, ⟨4, 1, (.c (.str [101, 120, 116, 101, 114, 110]))⟩, ⟨5, 1, (.c (.str [105, 102]))⟩, ⟨6, 1, (.c (.str [101, 108, 115, 101]))⟩, ⟨7, 1, (.c (.str [119, 104, 105, 108, 101]))⟩, ⟨8, 1, (.c (.str [114, 101, 116, 117, 114, 110]))⟩, ⟨9, 1, (.c (.str [98, 114, 101, 97, 107]))⟩, ⟨10, 1, (.c (.str [99, 111, 110, 116, 105, 110, 117, 101]))⟩]) .v, .al p3 (.new [(.str []), (.str []), (.str []), (.str []), (.str []), (.str []), (.str []), (.str []), (.str []), (.str []), (.str [])]), .ss 11 q3 q5] (.sj v159_0 (.sO [.mv p6 (ci 0) tI] (.block 0 (.loop v159_1 c159_1b))) c159_0)))
def x159 : XFn := ⟨[.s], false, [(.tmp p2)], c159_e⟩
def e159_0 (k h) := kN k [] h
def S159_0 (D : CallD) (m : Nat) (h : HP) : Res2 :=
 some (.ret (vB false) h, .no)
def e159_1 (k t0 t3 t6 h) := kN k [(p0, (vS t0)), (p3, t3), (p6, (vI t6))] h
def S159_1b (D : CallD) (m : Nat) (g1 : LN → AV → Int → HP → Res2) (t0 : LN) (t3 : AV) (t6 : Int) (h : HP) : Res2 :=
 let t7 := ltQ t6 (Int.ofNat 11)
 br t7 (
 iarC 11 1 t3 (vI t6) fun t10 =>
 ldS t10 h fun t11 =>
 let t13 := eqL t11 t0
 br t13 (
 some (.ret (vB true) h, .no)) (
 let t14 := wrQ .i64 (addQ t6 (Int.ofNat 1))
 g1 t0 t3 t14 h)) (
 S159_0 D m h)
def S159_1 (D : CallD) (m : Nat) : LN → AV → Int → HP → Res2 := nrec (fun _ _ _ _ => none) (fun _ g => S159_1b D m g) m
def e159_2 (k t0 h) := kN k [(p0, (vS t0))] h
def S159_2 (D : CallD) (m : Nat) (t0 : LN) (h : HP) : Res2 :=
 let t5 := (AV.agg [(vS ([105, 110, 116] : LN)), (vS ([100, 111, 117, 98, 108, 101] : LN)), (vS ([118, 111, 105, 100] : LN)), (vS ([115, 116, 97, 116, 105, 99] : LN)), (vS ([101, 120, 116, 101, 114, 110] : LN)), (vS ([105, 102] : LN)), (vS ([101, 108, 115, 101] : LN)), (vS ([119, 104, 105, 108, 101] : LN)), (vS ([114, 101, 116, 117, 114, 110] : LN)), (vS ([98, 114, 101, 97, 107] : LN)), (vS ([99, 111, 110, 116, 105, 110, 117, 101] : LN))])
 let t3 := AV.ptr (HP.nxQ h) 0
 let h3 := HP.newQ h (.cells true [(.str []), (.str []), (.str []), (.str []), (.str []), (.str []), (.str []), (.str []), (.str []), (.str []), (.str [])])
 stsC 11 t3 t5 h3 fun h4 =>
 S159_1 D m t0 t3 (Int.ofNat 0) h4
def S159 : SFn := fun D m args h u => nou u <| popS args fun t0 args => endA args (S159_2 D m t0 h)
theorem T159_0 (hE : FX x159 D m E) : S159_0 D m = e159_0 (E c159_0 []) := by unfold S159_0; rw [hE c159_0]; kernel_rfl
theorem T159_1b (hE : FX x159 D m E) (G1) : S159_1b D m (e159_1 G1) = e159_1 (E c159_1b [.lp v159_1 G1, .blk 0, .sj v159_0 c159_0]) := by unfold S159_1b; rw [T159_0 hE, hE c159_1b]; kernel_rfl
theorem T159_1 (hE : FX x159 D m E) : S159_1 D m = e159_1 (nrec (fun _ => none) (fun _ G1 st => E c159_1b [.lp v159_1 G1, .blk 0, .sj v159_0 c159_0] st) m) :=
  nrec_emb e159_1 (fun _ _ _ _ => none) (fun g => S159_1b D m g) (fun G1 st => E c159_1b [.lp v159_1 G1, .blk 0, .sj v159_0 c159_0] st) rfl (fun g => T159_1b hE g) m
theorem T159_2 (hE : FX x159 D m E) : S159_2 D m = e159_2 (E c159_e []) := by unfold S159_2; rw [T159_1 hE, hE c159_e]; kernel_rfl
theorem X159 : XTie S159 x159 := X_of fun D m E hE args h u => by unfold S159; rw [T159_2 hE]; kernel_rfl
/- 160 -/
def v160_2 : List Pos := [p6, p7]
def c160_2 : XC := (.sO [.mv p100 q7 tI, .mv p101 q6 tI, .mv p4 q100 tI, .mv p5 q101 tI] (.s .ret))
def c160_4 : XC := (.cond q99 (.sO [.mv p4 (ci 0) tI, .mv p5 (ci 0) tI] (.s .ret)) (.s .skip))
def l160_3 : XL := (XL.of [])
def v160_1 : List Pos := [p0, p1, p6, p7]
def c160_1 : XC := (.sj v160_2 (.sO [.mv p86 q7 tI, .bn p87 .eql q86 (ci 2) .b] (.cond q87 (.opq false (XL.pre [.mv p88 q6 tI, .mv p89 q1 tI, .bn p90 .sub q88 q89 tI, .bn p91 .gtr q90 (ci 10) .b, .mv p92 q91 .b, .sp p92, .G p92 false p93 (.mov q0) .s, .G p92 false p94 (.mov q1) tI, .G p92 false p95 (.mov q6) tI, .G p92 false p96 (.slice .str q93 (some q94) (some q95) none) .s, .o ⟨(some p97), (.call (.fn 163) [q96]), (some (p92, false)), []⟩ tI, .G p92 false p98 (.bin .gtr q97 (ci 4294967295)) .b, .P p99 (.pick q92 (cb true) q98) .b, .jn p92 [p6, p7, p99]] l160_3) c160_4) (.s .skip))) c160_2)
def c160_8 : XC := (.cond q85 (.sO [.mv p4 (ci 0) tI, .mv p5 (ci 0) tI] (.s .ret)) (.s .skip))
def l160_7 : XL := (XL.of [])
def l160_6 : XL := (XL.pre [.P p85 (.pick q74 (cb true) q84) .b, .jn p74 [p0, p1, p6, p7, p85]] l160_7)
def l160_5 : XL := (XL.pre [.mv p74 q73 .b, .sp p74, .G p74 false p75 (.mov q7) tI, .G p74 false p76 (.bin .eql q75 (ci 3)) .b, .G p74 false p77 (.mov q76) .b, .sp p77, .G p77 true p78 (.mov q0) .s, .G p77 true p79 (.mov q1) tI, .G p77 true p80 (.mov q6) tI, .G p77 true p81 (.slice .str q78 (some q79) (some q80) none) .s, .o ⟨(some p82), (.call (.fn 200) [q81]), (some (p77, true)), []⟩ .b, .G p77 true p83 (.un .not q82) .b, .G p74 false p84 (.pick q77 q83 (cb false)) .b, .jn p77 [p0, p1, p6, p7, p74, p84]] l160_6)
def v160_0 : List Pos := [p0, p1, p6, p7]
def c160_0 : XC := (.sj v160_1 (.opq false (XL.pre [.mv p58 q6 tI, .mv p59 q0 .s, .P p60 (.lens q59) tI, .bn p61 .lss q58 q60 .b, .mv p62 q61 .b, .sp p62, .G p62 true p63 (.mov q0) .s, .G p62 true p64 (.mov q6) tI, .G p62 true p65 (.idxs q63 q64) tC, .o ⟨(some p66), (.call (.fn 157) [q65]), (some (p62, true)), []⟩ .b, .G p62 true p67 (.mov q66) .b, .ge p67 (XL.of [.G p67 false p68 (.mov q0) .s, .G p67 false p69 (.mov q6) tI, .G p67 false p70 (.idxs q68 q69) tC, .G p67 false p71 (.bin .eql q70 (.c (.int .u8 (.ofNat 46)))) .b, .G p62 true p72 (.pick q67 (cb true) q71) .b]) p72 .b, .P p73 (.pick q62 q72 (cb false)) .b, .jn p62 [p0, p1, p6, p7, p73]] l160_5) c160_8) c160_1)
def v160_9 : List Pos := [p0, p1, p6, p7]
def c160_9 : XC := (.s (.oX [.mv p55 q0 .s, .mv p56 q6 tI, .cl p57 199 [q55, q56] tI, .mv p6 q57 tI]))
def c160_e : XC := (.sO [.mv p4 (ci 0) tI, .mv p5 (ci 0) tI] (.sO [.mv p8 q0 .s, .mv p9 q1 tI, .cl p10 199 [q8, q9] tI, .mv p6 q10 tI] (.sO [.mv p7 (ci 2) tI] (.sj v160_0 (.sO [.mv p11 q6 tI, .mv p12 q0 .s, .P p13 (.lens q12) tI, .bn p14 .lss q11 q13 .b, .mv p15 q14 .b, .ge p15 (XL.of [.G p15 true p16 (.mov q0) .s, .G p15 true p17 (.mov q6) tI, .G p15 true p18 (.idxs q16 q17) tC, .G p15 true p19 (.bin .eql q18 (.c (.int .u8 (.ofNat 46)))) .b, .P p20 (.pick q15 q19 (cb false)) .b]) p20 .b] (.cond q20 (.sO [.mv p7 (ci 3) tI] (.sO [.mv p21 q0 .s, .mv p22 q6 tI, .bn p23 .add q22 (ci 1) tI, .cl p24 199 [q21, q23] tI, .mv p6 q24 tI] (.sO [.mv p25 q6 tI, .mv p26 q0 .s, .P p27 (.lens q26) tI, .bn p28 .lss q25 q27 .b, .mv p29 q28 .b, .ge p29 (XL.of [.G p29 true p30 (.mov q0) .s, .G p29 true p31 (.mov q6) tI, .G p29 true p32 (.idxs q30 q31) tC, .G p29 true p33 (.bin .eql q32 (.c (.int .u8 (.ofNat 101)))) .b, .P p34 (.pick q29 q33 (cb false)) .b]) p34 .b] (.cond q34 (.sO [.mv p35 q6 tI, .bn p36 .add q35 (ci 1) tI, .mv p6 q36 tI] (.sj v160_9 (.sO [.mv p37 q6 tI, .mv p38 q0 .s, .P p39 (.lens q38) tI, .bn p40 .lss q37 q39 .b, .mv p41 q40 .b, .ge p41 (XL.of [.G p41 true p42 (.mov q0) .s, .G p41 true p43 (.mov q6) tI, .G p41 true p44 (.idxs q42 q43) tC, .G p41 true p45 (.bin .eql q44 (.c (.int .u8 (.ofNat 43)))) .b, .G p41 true p46 (.mov q45) .b, .ge p46 (XL.of [.G p46 false p47 (.mov q0) .s, .G p46 false p48 (.mov q6) tI, .G p46 false p49 (.idxs q47 q48) tC, .G p46 false p50 (.bin .eql q49 (.c (.int .u8 (.ofNat 45)))) .b, .G p41 true p51 (.pick q46 (cb true) q50) .b]) p51 .b, .P p52 (.pick q41 q51 (cb false)) .b]) p52 .b] (.cond q52 (.s (.oX [.mv p53 q6 tI, .bn p54 .add q53 (ci 1) tI, .mv p6 q54 tI])) (.s .skip))) c160_9)) (.s .skip))))) (.s .skip))) c160_0))))
def x160 : XFn := ⟨[.s, tI], false, [(.tmp p4), (.tmp p5)], c160_e⟩
def e160_2 (k t6 t7 h) := kN k [(p6, (vI t6)), (p7, (vI t7))] h
def S160_2 (D : CallD) (m : Nat) (t6 t7 : Int) (h : HP) : Res2 :=
 some (.ret (.tup [(vI t7), (vI t6)]) h, .no)
def e160_3 (k t6 t7 t99 h) := kN k [(p6, (vI t6)), (p7, (vI t7)), (p99, (vB t99))] h
def S160_3 (D : CallD) (m : Nat) (t6 t7 : Int) (t99 : Bool) (h : HP) : Res2 :=
 br t99 (
 some (.ret (.tup [(vI (Int.ofNat 0)), (vI (Int.ofNat 0))]) h, .no)) (
 S160_2 D m t6 t7 h)
def e160_1 (k t0 t1 t6 t7 h) := kN k [(p0, (vS t0)), (p1, (vI t1)), (p6, (vI t6)), (p7, (vI t7))] h
def S160_1 (D : CallD) (m : Nat) (t0 : LN) (t1 t6 t7 : Int) (h : HP) : Res2 :=
 let t87 := eqQ t7 (Int.ofNat 2)
 br t87 (
 let t90 := wrQ .i64 (t6 - t1)
 let t91 := ltQ (Int.ofNat 10) t90
 br t91 (
 S160_3 D m t6 t7 true h) (
 slC (vS t0) (some (vI t1)) (some (vI t6)) fun vt96 => asS vt96 fun t96 =>
 cal D 163 [(vS t96)] h fun t97 h12 =>
 asI .i64 t97 fun t97a =>
 let t98 := ltQ (Int.ofNat 4294967295) t97a
 S160_3 D m t6 t7 t98 h12)) (
 S160_2 D m t6 t7 h)
def e160_7 (k t0 t1 t6 t7 t85 h) := kN k [(p0, (vS t0)), (p1, (vI t1)), (p6, (vI t6)), (p7, (vI t7)), (p85, (vB t85))] h
def S160_7 (D : CallD) (m : Nat) (t0 : LN) (t1 t6 t7 : Int) (t85 : Bool) (h : HP) : Res2 :=
 br t85 (
 some (.ret (.tup [(vI (Int.ofNat 0)), (vI (Int.ofNat 0))]) h, .no)) (
 S160_1 D m t0 t1 t6 t7 h)
def e160_6 (k t0 t1 t6 t7 t74 t84 h) := kN k [(p0, (vS t0)), (p1, (vI t1)), (p6, (vI t6)), (p7, (vI t7)), (p74, (vB t74)), (p84, (vB t84))] h
def S160_6 (D : CallD) (m : Nat) (t0 : LN) (t1 t6 t7 : Int) (t74 t84 : Bool) (h : HP) : Res2 :=
 obB (brV t74 (some (vB true)) (some (vB t84))) fun t85 =>
 S160_7 D m t0 t1 t6 t7 t85 h
def e160_5 (k t0 t1 t6 t7 t73 h) := kN k [(p0, (vS t0)), (p1, (vI t1)), (p6, (vI t6)), (p7, (vI t7)), (p73, (vB t73))] h
def S160_5 (D : CallD) (m : Nat) (t0 : LN) (t1 t6 t7 : Int) (t73 : Bool) (h : HP) : Res2 :=
 br t73 (
 S160_7 D m t0 t1 t6 t7 true h) (
 let t76 := eqQ t7 (Int.ofNat 3)
 br t76 (
 slC (vS t0) (some (vI t1)) (some (vI t6)) fun vt81 => asS vt81 fun t81 =>
 cal D 200 [(vS t81)] h fun t82 h14 =>
 asB t82 fun t82a =>
 let t83 := !t82a
 S160_6 D m t0 t1 t6 t7 false t83 h14) (
 S160_6 D m t0 t1 t6 t7 false false h))
def e160_0 (k t0 t1 t6 t7 h) := kN k [(p0, (vS t0)), (p1, (vI t1)), (p6, (vI t6)), (p7, (vI t7))] h
def S160_0 (D : CallD) (m : Nat) (t0 : LN) (t1 t6 t7 : Int) (h : HP) : Res2 :=
 let t60 := Int.ofNat (lenL t0)
 let t61 := ltQ t6 t60
 br t61 (
 ixC (vS t0) (vI t6) fun vt65 => asI .u8 vt65 fun t65 =>
 cal D 157 [(vC t65)] h fun t66 h13 =>
 asB t66 fun t66a =>
 obB (brV t66a (
 some (vB true)) (
 ixCV (vS t0) (vI t6) fun vt70 => asIV .u8 vt70 fun t70 =>
 let t71 := eqQ t70 (Int.ofNat 46)
 some (vB t71))) fun t72 =>
 S160_5 D m t0 t1 t6 t7 t72 h13) (
 S160_5 D m t0 t1 t6 t7 false h)
def e160_9 (k t0 t1 t6 t7 h) := kN k [(p0, (vS t0)), (p1, (vI t1)), (p6, (vI t6)), (p7, (vI t7))] h
def S160_9 (D : CallD) (m : Nat) (t0 : LN) (t1 t6 t7 : Int) (h : HP) : Res2 :=
 cal D 199 [(vS t0), (vI t6)] h fun t57 h16 =>
 asI .i64 t57 fun t57a =>
 S160_0 D m t0 t1 t57a t7 h16
def e160_10 (k t0 t1 h) := kN k [(p0, (vS t0)), (p1, (vI t1))] h
def S160_10 (D : CallD) (m : Nat) (t0 : LN) (t1 : Int) (h : HP) : Res2 :=
 cal D 199 [(vS t0), (vI t1)] h fun t10 h11 =>
 asI .i64 t10 fun t10a =>
 let t13 := Int.ofNat (lenL t0)
 let t14 := ltQ t10a t13
 obB (brV t14 (
 ixCV (vS t0) (vI t10a) fun vt18 => asIV .u8 vt18 fun t18 =>
 let t19 := eqQ t18 (Int.ofNat 46)
 some (vB t19)) (
 some (vB false))) fun t20 =>
 br t20 (
 let t23 := wrQ .i64 (addQ t10a (Int.ofNat 1))
 cal D 199 [(vS t0), (vI t23)] h11 fun t24 h15 =>
 asI .i64 t24 fun t24a =>
 let t27 := Int.ofNat (lenL t0)
 let t28 := ltQ t24a t27
 obB (brV t28 (
 ixCV (vS t0) (vI t24a) fun vt32 => asIV .u8 vt32 fun t32 =>
 let t33 := eqQ t32 (Int.ofNat 101)
 some (vB t33)) (
 some (vB false))) fun t34 =>
 br t34 (
 let t36 := wrQ .i64 (addQ t24a (Int.ofNat 1))
 let t39 := Int.ofNat (lenL t0)
 let t40 := ltQ t36 t39
 obB (brV t40 (
 ixCV (vS t0) (vI t36) fun vt44 => asIV .u8 vt44 fun t44 =>
 let t45 := eqQ t44 (Int.ofNat 43)
 obBV (brV t45 (
 some (vB true)) (
 ixCV (vS t0) (vI t36) fun vt49 => asIV .u8 vt49 fun t49 =>
 let t50 := eqQ t49 (Int.ofNat 45)
 some (vB t50))) fun t51 =>
 some (vB t51)) (
 some (vB false))) fun t52 =>
 br t52 (
 let t54 := wrQ .i64 (addQ t36 (Int.ofNat 1))
 S160_9 D m t0 t1 t54 (Int.ofNat 3) h15) (
 S160_9 D m t0 t1 t36 (Int.ofNat 3) h15)) (
 S160_0 D m t0 t1 t24a (Int.ofNat 3) h15)) (
 S160_0 D m t0 t1 t10a (Int.ofNat 2) h11)
def S160 : SFn := fun D m args h u => nou u <| popS args fun t0 args => popI .i64 args fun t1 args => endA args (S160_10 D m t0 t1 h)
theorem T160_2 (hE : FX x160 D m E) : S160_2 D m = e160_2 (E c160_2 []) := by unfold S160_2; rw [hE c160_2]; kernel_rfl
theorem T160_3 (hE : FX x160 D m E) : S160_3 D m = e160_3 (E (.opq false l160_3 c160_4) [.sj v160_2 c160_2]) := by unfold S160_3; rw [T160_2 hE, hE (.opq false l160_3 c160_4)]; kernel_rfl
theorem T160_1 (hE : FX x160 D m E) : S160_1 D m = e160_1 (E c160_1 []) := by unfold S160_1; rw [T160_3 hE, T160_2 hE, hE c160_1]; kernel_rfl
theorem T160_7 (hE : FX x160 D m E) : S160_7 D m = e160_7 (E (.opq false l160_7 c160_8) [.sj v160_1 c160_1]) := by unfold S160_7; rw [T160_1 hE, hE (.opq false l160_7 c160_8)]; kernel_rfl
theorem T160_6 (hE : FX x160 D m E) : S160_6 D m = e160_6 (E (.opq false l160_6 c160_8) [.sj v160_1 c160_1]) := by unfold S160_6; rw [T160_7 hE, hE (.opq false l160_6 c160_8)]; kernel_rfl
theorem T160_5 (hE : FX x160 D m E) : S160_5 D m = e160_5 (E (.opq false l160_5 c160_8) [.sj v160_1 c160_1]) := by unfold S160_5; rw [T160_7 hE, T160_6 hE, hE (.opq false l160_5 c160_8)]; kernel_rfl
theorem T160_0 (hE : FX x160 D m E) : S160_0 D m = e160_0 (E c160_0 []) := by unfold S160_0; rw [T160_5 hE, hE c160_0]; kernel_rfl
theorem T160_9 (hE : FX x160 D m E) : S160_9 D m = e160_9 (E c160_9 [.sj v160_0 c160_0]) := by unfold S160_9; rw [T160_0 hE, hE c160_9]; kernel_rfl
theorem T160_10 (hE : FX x160 D m E) : S160_10 D m = e160_10 (E c160_e []) := by unfold S160_10; rw [T160_9 hE, T160_0 hE, hE c160_e]; kernel_rfl
theorem X160 : XTie S160 x160 := X_of fun D m E hE args h u => by unfold S160; rw [T160_10 hE]; kernel_rfl
/- 162 -/
def c162_e : XC := (.sO [.al p1 (.box q0), .al p2 (.new [.nils, (kI 0), (kI 0), (kI 0), (kI 0)]), .al p3 (.new [(kI 0), .nils, .nils, (.str []), (kI 0), (kI 0), (kI 0)])] (.sO [.L p6 (.cells 5 q1) .v, .cl p7 165 [q6] .v, .cl p8 201 [q7] .v, .mv p5 q8 .v, .P p9 (.ext q5 0) .v, .P p10 (.ext q5 1) .v, .al p4 (.new [(kI 0), .nils, .nils, (.str []), (kI 0), (kI 0), (kI 0)]), .ss 5 q1 q9, .ss 7 q4 q10] (.seq (.ops true (XL.of [.L p11 (.cells 5 q1) .v, .L p13 (.cells 7 q4) .v, .o ⟨(some p12), (.call (.fn 166) [q11]), none, [⟨none, .cells 7 q4, p13⟩]⟩ .v, .o ⟨none, (.e (.stores 5 q2 q12)), none, [⟨none, .cells 7 q4, p13⟩]⟩ .v, .ss 7 q3 q13])) (.s .ret))))
def x162 : XFn := ⟨[.v], false, [(.cells 5 p2), (.cells 7 p3)], c162_e⟩
def e162_0 (k t0 h) := kN k [(p0, t0)] h
def S162_0 (D : CallD) (m : Nat) (t0 : AV) (h : HP) : Res2 :=
 let t1 := AV.ptr (HP.nxQ h) 0
 let h1 := HP.newQ h (.cells true (AV.cells t0))
 let t2 := AV.ptr (HP.nxQ h1) 0
 let h2 := HP.newQ h1 (.cells true [.nils, (kI 0), (kI 0), (kI 0), (kI 0)])
 let t3 := AV.ptr (HP.nxQ h2) 0
 let h3 := HP.newQ h2 (.cells true [(kI 0), .nils, .nils, (.str []), (kI 0), (kI 0), (kI 0)])
 cellsC 5 t1 h3 fun t6 =>
 cal D 165 [t6] h3 fun t7 h4 =>
 cal D 201 [t7] h4 fun t8 h5 =>
 extC t8 0 fun t9 =>
 extC t8 1 fun t10 =>
 let t4 := AV.ptr (HP.nxQ h5) 0
 let h6 := HP.newQ h5 (.cells true [(kI 0), .nils, .nils, (.str []), (kI 0), (kI 0), (kI 0)])
 stsC 5 t1 t9 h6 fun h7 =>
 stsC 7 t4 t10 h7 fun h8 =>
 cellsC 5 t1 h8 fun t11 =>
 cellsC 7 t4 h8 fun t13 =>
 cal D 166 [t11] h8 fun t12 h9 =>
 br (again [⟨none, .cells 7 q4, p13⟩] (mkT [(p13, t13), (p4, t4)]) h9) (
 stsC 5 t2 t12 h9 fun h10 =>
 br (againE (.stores 5 q2 q12) [⟨none, .cells 7 q4, p13⟩] (mkT [(p2, t2), (p13, t13), (p4, t4)]) h10) (
 stsC 7 t3 t13 h10 fun h11 =>
 cellsC 5 t2 h11 fun t2a =>
 cellsC 7 t3 h11 fun t3a =>
 some (.ret (.tup [t2a, t3a]) h11, .no)) none) none
def S162 : SFn := fun D m args h u => nou u <| popV args fun t0 args => endA args (S162_0 D m t0 h)
theorem T162_0 (hE : FX x162 D m E) : S162_0 D m = e162_0 (E c162_e []) := by unfold S162_0; rw [hE c162_e]; kernel_rfl
theorem X162 : XTie S162 x162 := X_of fun D m E hE args h u => by unfold S162; rw [T162_0 hE]; kernel_rfl
/- 163 -/
def v163_0 : List Pos := [p3]
def c163_0 : XC := (.sO [.mv p19 q3 tI, .mv p2 q19 tI] (.s .ret))
def v163_1 : List Pos := [p0, p3, p4]
def c163_1b : XC := (.seq (.seq (.oX [.mv p5 q4 tI, .mv p6 q0 .s, .P p7 (.lens q6) tI, .bn p8 .lss q5 q7 .b]) (.cond q8 .skip (.exit 0))) (.seq (.block 1 (.oX [.mv p11 q3 tI, .bn p12 .mul q11 (ci 10) tI, .mv p13 q0 .s, .mv p14 q4 tI, .P p15 (.idxs q13 q14) tC, .bn p16 .sub q15 (.c (.int .u8 (.ofNat 48))) tC, .P p17 (.conv (.ii .i64) q16) tI, .bn p18 .add q12 q17 tI, .mv p3 q18 tI])) (.s (.oX [.mv p9 q4 tI, .bn p10 .add q9 (ci 1) tI, .mv p4 q10 tI]))))
def c163_e : XC := (.sO [.mv p2 (ci 0) tI] (.sO [.mv p3 (ci 0) tI] (.sj v163_0 (.sO [.mv p4 (ci 0) tI] (.block 0 (.loop v163_1 c163_1b))) c163_0)))
def x163 : XFn := ⟨[.s], false, [(.tmp p2)], c163_e⟩
def e163_0 (k t3 h) := kN k [(p3, (vI t3))] h
def S163_0 (D : CallD) (m : Nat) (t3 : Int) (h : HP) : Res2 :=
 some (.ret (vI t3) h, .no)
def e163_1 (k t0 t3 t4 h) := kN k [(p0, (vS t0)), (p3, (vI t3)), (p4, (vI t4))] h
def S163_1b (D : CallD) (m : Nat) (g1 : LN → Int → Int → HP → Res2) (t0 : LN) (t3 t4 : Int) (h : HP) : Res2 :=
 let t7 := Int.ofNat (lenL t0)
 let t8 := ltQ t4 t7
 br t8 (
 let t12 := wrQ .i64 (t3 * (Int.ofNat 10))
 ixC (vS t0) (vI t4) fun vt15 => asI .u8 vt15 fun t15 =>
 let t16 := wrQ .u8 (t15 - (Int.ofNat 48))
 let t17 := wrapF .i64 t16
 let t18 := wrQ .i64 (addQ t12 t17)
 let t10 := wrQ .i64 (addQ t4 (Int.ofNat 1))
 g1 t0 t18 t10 h) (
 S163_0 D m t3 h)
def S163_1 (D : CallD) (m : Nat) : LN → Int → Int → HP → Res2 := nrec (fun _ _ _ _ => none) (fun _ g => S163_1b D m g) m
def e163_2 (k t0 h) := kN k [(p0, (vS t0))] h
def S163_2 (D : CallD) (m : Nat) (t0 : LN) (h : HP) : Res2 :=
 S163_1 D m t0 (Int.ofNat 0) (Int.ofNat 0) h
def S163 : SFn := fun D m args h u => nou u <| popS args fun t0 args => endA args (S163_2 D m t0 h)
theorem T163_0 (hE : FX x163 D m E) : S163_0 D m = e163_0 (E c163_0 []) := by unfold S163_0; rw [hE c163_0]; kernel_rfl
theorem T163_1b (hE : FX x163 D m E) (G1) : S163_1b D m (e163_1 G1) = e163_1 (E c163_1b [.lp v163_1 G1, .blk 0, .sj v163_0 c163_0]) := by unfold S163_1b; rw [T163_0 hE, hE c163_1b]; kernel_rfl
theorem T163_1 (hE : FX x163 D m E) : S163_1 D m = e163_1 (nrec (fun _ => none) (fun _ G1 st => E c163_1b [.lp v163_1 G1, .blk 0, .sj v163_0 c163_0] st) m) :=
  nrec_emb e163_1 (fun _ _ _ _ => none) (fun g => S163_1b D m g) (fun G1 st => E c163_1b [.lp v163_1 G1, .blk 0, .sj v163_0 c163_0] st) rfl (fun g => T163_1b hE g) m
theorem T163_2 (hE : FX x163 D m E) : S163_2 D m = e163_2 (E c163_e []) := by unfold S163_2; rw [T163_1 hE, hE c163_e]; kernel_rfl
theorem X163 : XTie S163 x163 := X_of fun D m E hE args h u => by unfold S163; rw [T163_2 hE]; kernel_rfl
/- 164 -/
def v164_0 : List Pos := [p2, p4, p5, p6]
def c164_0 : XC := (.seq (.ops true (XL.of [.L p51 (.cells 5 q2) .v, .L p52 (.cells 8 q6) .v, .o ⟨none, (.e (.stores 5 q4 q51)), none, [⟨none, .cells 8 q6, p52⟩]⟩ .v, .ss 8 q5 q52])) (.s .ret))
def v164_2 : List Pos := [p1, p2, p4, p5, p6]
def c164_2 : XC := (.block 1 (.sO [.L p31 (.cells 5 q2) .v, .cl p32 82 [q31] .v, .P p33 (.field 1 1 false q32) .s, .mv p7 q33 .s] (.sO [.P p34 (.build [(kI 0), (.str []), (.str []), (.int .u32 (.ofNat 0)), (.int .u64 (.ofNat 0)), .nils, (kI 0), (kI 0)] []) .v, .al p8 (.new [(kI 0), (.str []), (.str []), (.int .u32 (.ofNat 0)), (.int .u64 (.ofNat 0)), .nils, (kI 0), (kI 0)]), .ss 8 q8 q34] (.sO [.L p36 (.cells 5 q2) .v, .cl p37 118 [q36] .v, .mv p38 q7 .s, .cl p39 203 [q38] tI, .bn p40 .add q39 (ci 1) tI, .cl p41 164 [q37, q40] .v, .mv p35 q41 .v, .P p42 (.ext q35 0) .v, .P p43 (.ext q35 1) .v, .ss 5 q2 q42, .ss 8 q8 q43] (.s (.oX [.mv p44 q7 .s, .L p45 (.cells 8 q6) .v, .L p46 (.cells 8 q8) .v, .al p47 (.bsl [(kI 0), (.str []), (.str []), (.int .u32 (.ofNat 0)), (.int .u64 (.ofNat 0)), .nils, (kI 0), (kI 0), (kI 0), (.str []), (.str []), (.int .u32 (.ofNat 0)), (.int .u64 (.ofNat 0)), .nils, (kI 0), (kI 0)] 2 [⟨0, 8, q45⟩, ⟨8, 8, q46⟩]), .fa p48 7 q6, .ld p49 q48 tI, .P p50 (.build [(kI 0), (.str []), (.str []), (.int .u32 (.ofNat 0)), (.int .u64 (.ofNat 0)), .nils, (kI 0), (kI 0)] [⟨0, 1, (ci 5)⟩, ⟨1, 1, q44⟩, ⟨5, 1, q47⟩, ⟨7, 1, q49⟩]) .v, .ss 8 q6 q50]))))))
def c164_5 : XC := (.cond q30 (.s .skip) (.s (.exit 0)))
def l164_4 : XL := (XL.of [])
def l164_3 : XL := (XL.pre [.mv p23 q22 .b, .sp p23, .o ⟨(some p24), (.l (.cells 5 q2)), (some (p23, true)), []⟩ .v, .o ⟨(some p25), (.call (.fn 82) [q24]), (some (p23, true)), []⟩ .v, .G p23 true p26 (.field 1 1 false q25) .s, .o ⟨(some p27), (.call (.fn 203) [q26]), (some (p23, true)), []⟩ tI, .G p23 true p28 (.mov q1) tI, .G p23 true p29 (.bin .geq q27 q28) .b, .P p30 (.pick q23 q29 (cb false)) .b, .jn p23 [p1, p2, p4, p5, p6, p30]] l164_4)
def v164_1 : List Pos := [p1, p2, p4, p5, p6]
def c164_1b : XC := (.sj v164_2 (.opq false (XL.pre [.fa p14 3 q2, .ld p15 q14 tI, .bn p16 .eql q15 (ci 0) .b, .mv p17 q16 .b, .sp p17, .o ⟨(some p18), (.l (.cells 5 q2)), (some (p17, true)), []⟩ .v, .o ⟨(some p19), (.call (.fn 82) [q18]), (some (p17, true)), []⟩ .v, .G p17 true p20 (.field 0 1 false q19) tI, .G p17 true p21 (.bin .eql q20 (ci 4)) .b, .P p22 (.pick q17 q21 (cb false)) .b, .jn p17 [p1, p2, p4, p5, p6, p22]] l164_3) c164_5) c164_2)
def c164_e : XC := (.sO [.al p2 (.box q0), .al p4 (.new [.nils, (kI 0), (kI 0), (kI 0), (kI 0)]), .al p5 (.new [(kI 0), (.str []), (.str []), (.int .u32 (.ofNat 0)), (.int .u64 (.ofNat 0)), .nils, (kI 0), (kI 0)])] (.sO [.L p10 (.cells 5 q2) .v, .cl p11 202 [q10] .v, .mv p9 q11 .v, .P p12 (.ext q9 0) .v, .P p13 (.ext q9 1) .v, .al p6 (.new [(kI 0), (.str []), (.str []), (.int .u32 (.ofNat 0)), (.int .u64 (.ofNat 0)), .nils, (kI 0), (kI 0)]), .ss 5 q2 q12, .ss 8 q6 q13] (.sj v164_0 (.block 0 (.loop v164_1 c164_1b)) c164_0)))
def x164 : XFn := ⟨[.v, tI], false, [(.cells 5 p4), (.cells 8 p5)], c164_e⟩
def e164_0 (k t2 t4 t5 t6 h) := kN k [(p2, t2), (p4, t4), (p5, t5), (p6, t6)] h
def S164_0 (D : CallD) (m : Nat) (t2 t4 t5 t6 : AV) (h : HP) : Res2 :=
 cellsC 5 t2 h fun t51 =>
 cellsC 8 t6 h fun t52 =>
 stsC 5 t4 t51 h fun h14 =>
 br (againE (.stores 5 q4 q51) [⟨none, .cells 8 q6, p52⟩] (mkT [(p4, t4), (p52, t52), (p6, t6)]) h14) (
 stsC 8 t5 t52 h14 fun h15 =>
 cellsC 5 t4 h15 fun t4a =>
 cellsC 8 t5 h15 fun t5a =>
 some (.ret (.tup [t4a, t5a]) h15, .no)) none
def e164_2 (k t1 t2 t4 t5 t6 h) := kN k [(p1, (vI t1)), (p2, t2), (p4, t4), (p5, t5), (p6, t6)] h
def S164_2 (D : CallD) (m : Nat) (g1 : Int → AV → AV → AV → AV → HP → Res2) (t1 : Int) (t2 t4 t5 t6 : AV) (h : HP) : Res2 :=
 cellsC 5 t2 h fun t31 =>
 cal D 82 [t31] h fun t32 h16 =>
 fldC 1 1 false t32 fun vt33 => asS vt33 fun t33 =>
 let t34 := (AV.agg [(vI (Int.ofNat 0)), (vS ([] : LN)), (vS ([] : LN)), (vW (Int.ofNat 0)), (AV.int .u64 (Int.ofNat 0)), (.nils : AV), (vI (Int.ofNat 0)), (vI (Int.ofNat 0))])
 let t8 := AV.ptr (HP.nxQ h16) 0
 let h17 := HP.newQ h16 (.cells true [(kI 0), (.str []), (.str []), (.int .u32 (.ofNat 0)), (.int .u64 (.ofNat 0)), .nils, (kI 0), (kI 0)])
 stsC 8 t8 t34 h17 fun h18 =>
 cellsC 5 t2 h18 fun t36 =>
 cal D 118 [t36] h18 fun t37 h19 =>
 cal D 203 [(vS t33)] h19 fun t39 h20 =>
 asI .i64 t39 fun t39a =>
 let t40 := wrQ .i64 (addQ t39a (Int.ofNat 1))
 cal D 164 [t37, (vI t40)] h20 fun t41 h21 =>
 extC t41 0 fun t42 =>
 extC t41 1 fun t43 =>
 stsC 5 t2 t42 h21 fun h22 =>
 stsC 8 t8 t43 h22 fun h23 =>
 cellsC 8 t6 h23 fun t45 =>
 cellsC 8 t8 h23 fun t46 =>
 obQ (evA (.bsl [(kI 0), (.str []), (.str []), (.int .u32 (.ofNat 0)), (.int .u64 (.ofNat 0)), .nils, (kI 0), (kI 0), (kI 0), (.str []), (.str []), (.int .u32 (.ofNat 0)), (.int .u64 (.ofNat 0)), .nils, (kI 0), (kI 0)] 2 [⟨0, 8, (.c t45)⟩, ⟨8, 8, (.c t46)⟩]) .leaf) fun r24 =>
 let t47 := vkV r24.2 (HP.nxQ h23)
 let h25 := HP.newQ h23 r24.1
 faC 7 t6 fun t48 =>
 ldI t48 h25 fun t49 =>
 obQ (evP (.build [(kI 0), (.str []), (.str []), (.int .u32 (.ofNat 0)), (.int .u64 (.ofNat 0)), .nils, (kI 0), (kI 0)] [⟨0, 1, (.c (vI (Int.ofNat 5)))⟩, ⟨1, 1, (.c (vS t33))⟩, ⟨5, 1, (.c t47)⟩, ⟨7, 1, (.c (vI t49))⟩]) .leaf) fun t50 =>
 stsC 8 t6 t50 h25 fun h26 =>
 g1 t1 t2 t4 t5 t6 h26
def e164_4 (k t1 t2 t4 t5 t6 t30 h) := kN k [(p1, (vI t1)), (p2, t2), (p4, t4), (p5, t5), (p6, t6), (p30, (vB t30))] h
def S164_4 (D : CallD) (m : Nat) (g1 : Int → AV → AV → AV → AV → HP → Res2) (t1 : Int) (t2 t4 t5 t6 : AV) (t30 : Bool) (h : HP) : Res2 :=
 br t30 (
 S164_2 D m g1 t1 t2 t4 t5 t6 h) (
 S164_0 D m t2 t4 t5 t6 h)
def e164_3 (k t1 t2 t4 t5 t6 t22 h) := kN k [(p1, (vI t1)), (p2, t2), (p4, t4), (p5, t5), (p6, t6), (p22, (vB t22))] h
def S164_3 (D : CallD) (m : Nat) (g1 : Int → AV → AV → AV → AV → HP → Res2) (t1 : Int) (t2 t4 t5 t6 : AV) (t22 : Bool) (h : HP) : Res2 :=
 br t22 (
 cellsC 5 t2 h fun t24 =>
 cal D 82 [t24] h fun t25 h28 =>
 fldC 1 1 false t25 fun vt26 => asS vt26 fun t26 =>
 cal D 203 [(vS t26)] h28 fun t27 h29 =>
 asI .i64 t27 fun t27a =>
 let t29 := leQ t1 t27a
 S164_4 D m g1 t1 t2 t4 t5 t6 t29 h29) (
 S164_4 D m g1 t1 t2 t4 t5 t6 false h)
def e164_1 (k t1 t2 t4 t5 t6 h) := kN k [(p1, (vI t1)), (p2, t2), (p4, t4), (p5, t5), (p6, t6)] h
def S164_1b (D : CallD) (m : Nat) (g1 : Int → AV → AV → AV → AV → HP → Res2) (t1 : Int) (t2 t4 t5 t6 : AV) (h : HP) : Res2 :=
 faC 3 t2 fun t14 =>
 ldI t14 h fun t15 =>
 let t16 := eqQ t15 (Int.ofNat 0)
 br t16 (
 cellsC 5 t2 h fun t18 =>
 cal D 82 [t18] h fun t19 h27 =>
 fldC 0 1 false t19 fun vt20 => asI .i64 vt20 fun t20 =>
 let t21 := eqQ t20 (Int.ofNat 4)
 S164_3 D m g1 t1 t2 t4 t5 t6 t21 h27) (
 S164_3 D m g1 t1 t2 t4 t5 t6 false h)
def S164_1 (D : CallD) (m : Nat) : Int → AV → AV → AV → AV → HP → Res2 := nrec (fun _ _ _ _ _ _ => none) (fun _ g => S164_1b D m g) m
def e164_6 (k t0 t1 h) := kN k [(p0, t0), (p1, (vI t1))] h
def S164_6 (D : CallD) (m : Nat) (t0 : AV) (t1 : Int) (h : HP) : Res2 :=
 let t2 := AV.ptr (HP.nxQ h) 0
 let h7 := HP.newQ h (.cells true (AV.cells t0))
 let t4 := AV.ptr (HP.nxQ h7) 0
 let h8 := HP.newQ h7 (.cells true [.nils, (kI 0), (kI 0), (kI 0), (kI 0)])
 let t5 := AV.ptr (HP.nxQ h8) 0
 let h9 := HP.newQ h8 (.cells true [(kI 0), (.str []), (.str []), (.int .u32 (.ofNat 0)), (.int .u64 (.ofNat 0)), .nils, (kI 0), (kI 0)])
 cellsC 5 t2 h9 fun t10 =>
 cal D 202 [t10] h9 fun t11 h10 =>
 extC t11 0 fun t12 =>
 extC t11 1 fun t13 =>
 let t6 := AV.ptr (HP.nxQ h10) 0
 let h11 := HP.newQ h10 (.cells true [(kI 0), (.str []), (.str []), (.int .u32 (.ofNat 0)), (.int .u64 (.ofNat 0)), .nils, (kI 0), (kI 0)])
 stsC 5 t2 t12 h11 fun h12 =>
 stsC 8 t6 t13 h12 fun h13 =>
 S164_1 D m t1 t2 t4 t5 t6 h13
def S164 : SFn := fun D m args h u => nou u <| popV args fun t0 args => popI .i64 args fun t1 args => endA args (S164_6 D m t0 t1 h)
theorem T164_0 (hE : FX x164 D m E) : S164_0 D m = e164_0 (E c164_0 []) := by unfold S164_0; rw [hE c164_0]; kernel_rfl
theorem T164_2 (hE : FX x164 D m E) (G1) : S164_2 D m (e164_1 G1) = e164_2 (E c164_2 [.lp v164_1 G1, .blk 0, .sj v164_0 c164_0]) := by unfold S164_2; rw [hE c164_2]; kernel_rfl
theorem T164_4 (hE : FX x164 D m E) (G1) : S164_4 D m (e164_1 G1) = e164_4 (E (.opq false l164_4 c164_5) [.sj v164_2 c164_2, .lp v164_1 G1, .blk 0, .sj v164_0 c164_0]) := by unfold S164_4; rw [T164_2 hE G1, T164_0 hE, hE (.opq false l164_4 c164_5)]; kernel_rfl
theorem T164_3 (hE : FX x164 D m E) (G1) : S164_3 D m (e164_1 G1) = e164_3 (E (.opq false l164_3 c164_5) [.sj v164_2 c164_2, .lp v164_1 G1, .blk 0, .sj v164_0 c164_0]) := by unfold S164_3; rw [T164_4 hE G1, hE (.opq false l164_3 c164_5)]; kernel_rfl
theorem T164_1b (hE : FX x164 D m E) (G1) : S164_1b D m (e164_1 G1) = e164_1 (E c164_1b [.lp v164_1 G1, .blk 0, .sj v164_0 c164_0]) := by unfold S164_1b; rw [T164_3 hE G1, hE c164_1b]; kernel_rfl
theorem T164_1 (hE : FX x164 D m E) : S164_1 D m = e164_1 (nrec (fun _ => none) (fun _ G1 st => E c164_1b [.lp v164_1 G1, .blk 0, .sj v164_0 c164_0] st) m) :=
  nrec_emb e164_1 (fun _ _ _ _ _ _ => none) (fun g => S164_1b D m g) (fun G1 st => E c164_1b [.lp v164_1 G1, .blk 0, .sj v164_0 c164_0] st) rfl (fun g => T164_1b hE g) m
theorem T164_6 (hE : FX x164 D m E) : S164_6 D m = e164_6 (E c164_e []) := by unfold S164_6; rw [T164_1 hE, hE c164_e]; kernel_rfl
theorem X164 : XTie S164 x164 := X_of fun D m E hE args h u => by unfold S164; rw [T164_6 hE]; kernel_rfl
/- 165 -/
def v165_0 : List Pos := [p1, p2]
def c165_0 : XC := (.sO [.fa p8 2 q1, .ld p9 q8 tI, .bn p10 .add q9 (ci 1) tI, .fa p11 2 q1, .st q11 q10] (.sO [.L p12 (.cells 5 q1) .v, .ss 5 q2 q12] (.s .ret)))
def c165_e : XC := (.sO [.al p1 (.box q0), .al p2 (.new [.nils, (kI 0), (kI 0), (kI 0), (kI 0)])] (.sj v165_0 (.sO [.fa p3 2 q1, .ld p4 q3 tI, .bn p5 .geq q4 (ci 40) .b] (.cond q5 (.s (.oX [.L p6 (.cells 5 q1) .v, .cl p7 161 [q6, (ci 12)] .v, .ss 5 q1 q7])) (.s .skip))) c165_0))
def x165 : XFn := ⟨[.v], false, [(.cells 5 p2)], c165_e⟩
def e165_0 (k t1 t2 h) := kN k [(p1, t1), (p2, t2)] h
def S165_0 (D : CallD) (m : Nat) (t1 t2 : AV) (h : HP) : Res2 :=
 faC 2 t1 fun t8 =>
 ldI t8 h fun t9 =>
 let t10 := wrQ .i64 (addQ t9 (Int.ofNat 1))
 faC 2 t1 fun t11 =>
 stoC t11 (vI t10) h fun h4 =>
 cellsC 5 t1 h4 fun t12 =>
 stsC 5 t2 t12 h4 fun h5 =>
 cellsC 5 t2 h5 fun t2a =>
 some (.ret t2a h5, .no)
def e165_1 (k t0 h) := kN k [(p0, t0)] h
def S165_1 (D : CallD) (m : Nat) (t0 : AV) (h : HP) : Res2 :=
 let t1 := AV.ptr (HP.nxQ h) 0
 let h2 := HP.newQ h (.cells true (AV.cells t0))
 let t2 := AV.ptr (HP.nxQ h2) 0
 let h3 := HP.newQ h2 (.cells true [.nils, (kI 0), (kI 0), (kI 0), (kI 0)])
 let t3 := (AV.ptr (HP.nxQ h) (Nat.add 0 2))
 ldI t3 h3 fun t4 =>
 let t5 := leQ (Int.ofNat 40) t4
 br t5 (
 cellsC 5 t1 h3 fun t6 =>
 cal D 161 [t6, (vI (Int.ofNat 12))] h3 fun t7 h6 =>
 stsC 5 t1 t7 h6 fun h7 =>
 S165_0 D m t1 t2 h7) (
 S165_0 D m t1 t2 h3)
def S165 : SFn := fun D m args h u => nou u <| popV args fun t0 args => endA args (S165_1 D m t0 h)
theorem T165_0 (hE : FX x165 D m E) : S165_0 D m = e165_0 (E c165_0 []) := by unfold S165_0; rw [hE c165_0]; kernel_rfl
theorem T165_1 (hE : FX x165 D m E) : S165_1 D m = e165_1 (E c165_e []) := by unfold S165_1; rw [T165_0 hE, hE c165_e]; kernel_rfl
theorem X165 : XTie S165 x165 := X_of fun D m E hE args h u => by unfold S165; rw [T165_1 hE]; kernel_rfl
/- 166 -/
def c166_e : XC := (.sO [.al p1 (.box q0), .al p2 (.new [.nils, (kI 0), (kI 0), (kI 0), (kI 0)])] (.sO [.fa p3 2 q1, .ld p4 q3 tI, .bn p5 .sub q4 (ci 1) tI, .fa p6 2 q1, .st q6 q5] (.sO [.L p7 (.cells 5 q1) .v, .ss 5 q2 q7] (.s .ret))))
def x166 : XFn := ⟨[.v], false, [(.cells 5 p2)], c166_e⟩
def e166_0 (k t0 h) := kN k [(p0, t0)] h
def S166_0 (D : CallD) (m : Nat) (t0 : AV) (h : HP) : Res2 :=
 let t1 := AV.ptr (HP.nxQ h) 0
 let h1 := HP.newQ h (.cells true (AV.cells t0))
 let t2 := AV.ptr (HP.nxQ h1) 0
 let h2 := HP.newQ h1 (.cells true [.nils, (kI 0), (kI 0), (kI 0), (kI 0)])
 let t3 := (AV.ptr (HP.nxQ h) (Nat.add 0 2))
 ldI t3 h2 fun t4 =>
 let t5 := wrQ .i64 (t4 - (Int.ofNat 1))
 let t6 := (AV.ptr (HP.nxQ h) (Nat.add 0 2))
 stoC t6 (vI t5) h2 fun h3 =>
 cellsC 5 t1 h3 fun t7 =>
 stsC 5 t2 t7 h3 fun h4 =>
 cellsC 5 t2 h4 fun t2a =>
 some (.ret t2a h4, .no)
def S166 : SFn := fun D m args h u => nou u <| popV args fun t0 args => endA args (S166_0 D m t0 h)
theorem T166_0 (hE : FX x166 D m E) : S166_0 D m = e166_0 (E c166_e []) := by unfold S166_0; rw [hE c166_e]; kernel_rfl
theorem X166 : XTie S166 x166 := X_of fun D m E hE args h u => by unfold S166; rw [T166_0 hE]; kernel_rfl
/- 167 -/
def v167_3 : List Pos := [p2, p3, p4, p5]
def c167_3 : XC := (.seq (.ops true (XL.of [.L p164 (.cells 7 q2) .v, .L p165 (.cells 8 q3) .v, .o ⟨none, (.e (.stores 7 q4 q164)), none, [⟨none, .cells 8 q3, p165⟩]⟩ .v, .ss 8 q5 q165])) (.s .ret))
def v167_2 : List Pos := [p2, p3, p4, p5]
def c167_2 : XC := (.sO [.mv p12 (ci 0) tI] (.sO [.L p152 (.cells 8 q3) .v, .cl p153 205 [q152] .v, .mv p151 q153 .v, .P p154 (.ext q151 0) .v, .P p155 (.ext q151 1) tI, .ss 8 q3 q154, .mv p12 q155 tI] (.sO [.mv p156 q12 tI, .fa p157 6 q3, .st q157 q156] (.sj v167_3 (.sO [.mv p158 q12 tI, .bn p159 .eql q158 (ci 0) .b] (.cond q159 (.s (.oX [.L p160 (.cells 7 q2) .v, .fa p161 7 q3, .ld p162 q161 tI, .cl p163 86 [q160, (ci 14), q162] .v, .ss 7 q2 q163])) (.s .skip))) c167_3))))
def v167_4 : List Pos := [p2, p3, p4, p5, p9]
def c167_4 : XC := (.sO [.fa p145 0 q9, .fa p146 4 q145, .ld p147 q146 tI, .fa p148 6 q3, .st q148 q147] (.seq (.ops true (XL.of [.L p149 (.cells 7 q2) .v, .L p150 (.cells 8 q3) .v, .o ⟨none, (.e (.stores 7 q4 q149)), none, [⟨none, .cells 8 q3, p150⟩]⟩ .v, .ss 8 q5 q150])) (.s .ret)))
def v167_6 : List Pos := [p2, p3, p4, p5, p9, p114, p115]
def c167_6 : XC := (.s (.oX [.bn p144 .add q115 (ci 1) tI, .mv p115 q144 tI]))
def v167_5 : List Pos := [p2, p3, p4, p5, p9, p114, p115]
def c167_5b : XC := (.sO [.bn p116 .lss q115 q114 .b] (.seq (.cond q116 .skip (.exit 2)) (.sj v167_6 (.block 3 (.sO [.mv p117 q115 tI, .mv p11 q117 tI] (.seq (.ops true (XL.of [.fa p119 5 q3, .ld p120 q119 .v, .mv p121 q11 tI, .fa p122 5 q3, .ld p123 q122 .v, .mv p124 q11 tI, .P p125 (.iaddr (.sl 8) q123 q124) .v, .L p126 (.cells 8 q125) .v, .fa p127 0 q9, .fa p128 8 q127, .ld p129 q128 .v, .mv p130 q11 tI, .P p131 (.iaddr (.sl 3) q129 q130) .v, .fa p132 1 q131, .ld p133 q132 tI, .o ⟨(some p134), (.call (.fn 168) [q126, q133]), none, [⟨none, .cell q119, p120⟩]⟩ .v, .mv p118 q134 .v, .P p135 (.ext q118 0) .v, .P p136 (.ext q118 1) .b, .P p137 (.iaddr (.sl 8) q120 q121) .v, .ss 8 q137 q135, .mv p10 q136 .b])) (.sO [.mv p138 q10 .b, .P p139 (.un .not q138) .b] (.cond q139 (.s (.oX [.L p140 (.cells 7 q2) .v, .fa p141 7 q3, .ld p142 q141 tI, .cl p143 86 [q140, (ci 14), q142] .v, .ss 7 q2 q143])) (.s .skip)))))) c167_6)))
def v167_1 : List Pos := [p2, p3, p4, p5, p9, p10]
def c167_1 : XC := (.sj v167_2 (.sO [.fa p83 0 q3, .ld p84 q83 tI, .bn p85 .eql q84 (ci 7) .b] (.cond q85 (.seq (.seq (.oX [.mv p86 q10 .b, .P p87 (.un .not q86) .b, .mv p88 q87 .b, .ge p88 (XL.of [.G p88 false p89 (.faddr 0 q9) .v, .G p88 false p90 (.faddr 0 q89) .v, .o ⟨(some p91), (.l (.cell q90)), (some (p88, false)), []⟩ .b, .G p88 false p92 (.un .not q91) .b, .P p93 (.pick q88 (cb true) q92) .b]) p93 .b]) (.cond q93 (.seq (.ops true (XL.of [.L p94 (.cells 7 q2) .v, .fa p95 7 q3, .ld p96 q95 tI, .L p98 (.cells 8 q3) .v, .o ⟨(some p97), (.call (.fn 86) [q94, (ci 13), q96]), none, [⟨none, .cells 8 q3, p98⟩]⟩ .v, .o ⟨none, (.e (.stores 7 q4 q97)), none, [⟨none, .cells 8 q3, p98⟩]⟩ .v, .ss 8 q5 q98])) .ret) .skip)) (.seq (.seq (.oX [.fa p99 5 q3, .ld p100 q99 .v, .P p101 (.lenl q100) tI, .fa p102 0 q9, .fa p103 8 q102, .ld p104 q103 .v, .P p105 (.lenl q104) tI, .bn p106 .neq q101 q105 .b]) (.cond q106 (.seq (.ops true (XL.of [.L p107 (.cells 7 q2) .v, .fa p108 7 q3, .ld p109 q108 tI, .L p111 (.cells 8 q3) .v, .o ⟨(some p110), (.call (.fn 86) [q107, (ci 14), q109]), none, [⟨none, .cells 8 q3, p111⟩]⟩ .v, .o ⟨none, (.e (.stores 7 q4 q110)), none, [⟨none, .cells 8 q3, p111⟩]⟩ .v, .ss 8 q5 q111])) .ret) .skip)) (.sj v167_4 (.sO [.fa p112 5 q3, .ld p113 q112 .v, .P p114 (.lenl q113) tI, .mv p115 (ci 0) tI] (.block 2 (.loop v167_5 c167_5b))) c167_4))) (.s .skip))) c167_2)
def v167_7 : List Pos := [p2, p3, p4, p5]
def c167_7 : XC := (.seq (.ops true (XL.of [.L p81 (.cells 7 q2) .v, .L p82 (.cells 8 q3) .v, .o ⟨none, (.e (.stores 7 q4 q81)), none, [⟨none, .cells 8 q3, p82⟩]⟩ .v, .ss 8 q5 q82])) (.s .ret))
def v167_0 : List Pos := [p2, p3, p4, p5, p6]
def c167_0 : XC := (.sO [.mv p35 q6 .v, .fa p36 5 q3, .st q36 q35] (.seq (.seq (.oX [.fa p37 5 q2, .ld p38 q37 tI, .bn p39 .neq q38 (ci 0) .b]) (.cond q39 (.seq (.ops true (XL.of [.L p40 (.cells 7 q2) .v, .L p41 (.cells 8 q3) .v, .o ⟨none, (.e (.stores 7 q4 q40)), none, [⟨none, .cells 8 q3, p41⟩]⟩ .v, .ss 8 q5 q41])) .ret) .skip)) (.sO [.L p43 (.cells 7 q2) .v, .fa p44 2 q3, .ld p45 q44 .s, .cl p46 130 [q43, q45] .v, .mv p42 q46 .v, .P p47 (.ext q42 0) .v, .P p48 (.ext q42 1) .b, .al p9 (.new [(.bool false), (.bool false), (.bool false), (.str []), (kI 0), (kI 0), .nils, (.bool false), .nils, (kI 0), .nils, .nils, (.str []), (kI 0), (kI 0), (kI 0), (kI 0), (.str []), (kI 0)]), .ss 19 q9 q47, .mv p10 q48 .b] (.sj v167_1 (.sO [.fa p49 0 q3, .ld p50 q49 tI, .bn p51 .eql q50 (ci 3) .b] (.cond q51 (.seq (.seq (.oX [.mv p52 q10 .b, .P p53 (.un .not q52) .b, .mv p54 q53 .b, .ge p54 (XL.of [.G p54 false p55 (.faddr 0 q9) .v, .G p54 false p56 (.faddr 0 q55) .v, .o ⟨(some p57), (.l (.cell q56)), (some (p54, false)), []⟩ .b, .P p58 (.pick q54 (cb true) q57) .b]) p58 .b]) (.cond q58 (.seq (.ops true (XL.of [.L p59 (.cells 7 q2) .v, .fa p60 7 q3, .ld p61 q60 tI, .L p63 (.cells 8 q3) .v, .o ⟨(some p62), (.call (.fn 86) [q59, (ci 13), q61]), none, [⟨none, .cells 8 q3, p63⟩]⟩ .v, .o ⟨none, (.e (.stores 7 q4 q62)), none, [⟨none, .cells 8 q3, p63⟩]⟩ .v, .ss 8 q5 q63])) .ret) .skip)) (.sO [.fa p64 17 q9, .ld p65 q64 .s, .fa p66 2 q3, .st q66 q65] (.sO [.fa p67 0 q9, .fa p68 4 q67, .ld p69 q68 tI, .fa p70 6 q3, .st q70 q69] (.sj v167_7 (.sO [.fa p71 0 q9, .fa p72 5 q71, .ld p73 q72 tI, .bn p74 .gtr q73 (ci 0) .b] (.cond q74 (.sO [.fa p75 0 q9, .fa p76 4 q75, .ld p77 q76 tI, .cl p78 204 [q77] tI, .fa p79 6 q3, .st q79 q78] (.s (.oX [.fa p80 3 q3, .st q80 (.c (.int .u32 (.ofNat 1)))]))) (.s .skip))) c167_7)))) (.s .skip))) c167_1))))
def v167_8 : List Pos := [p2, p3, p4, p5, p6, p15, p16]
def c167_8b : XC := (.sO [.bn p17 .lss q16 q15 .b] (.seq (.cond q17 .skip (.exit 0)) (.seq (.block 1 (.seq (.oX [.mv p18 q16 tI, .mv p7 q18 tI]) (.seq (.oX [.P p19 (.build [(kI 0), (.str []), (.str []), (.int .u32 (.ofNat 0)), (.int .u64 (.ofNat 0)), .nils, (kI 0), (kI 0)] []) .v, .al p8 (.new [(kI 0), (.str []), (.str []), (.int .u32 (.ofNat 0)), (.int .u64 (.ofNat 0)), .nils, (kI 0), (kI 0)]), .ss 8 q8 q19]) (.seq (.ops true (XL.of [.L p21 (.cells 7 q2) .v, .fa p22 5 q3, .ld p23 q22 .v, .mv p24 q7 tI, .P p25 (.iaddr (.sl 8) q23 q24) .v, .L p26 (.cells 8 q25) .v, .cl p27 167 [q21, q26] .v, .mv p20 q27 .v, .P p28 (.ext q20 0) .v, .P p29 (.ext q20 1) .v, .ss 7 q2 q28, .ss 8 q8 q29])) (.oX [.mv p30 q6 .v, .L p31 (.cells 8 q8) .v, .al p32 (.bsl [(kI 0), (.str []), (.str []), (.int .u32 (.ofNat 0)), (.int .u64 (.ofNat 0)), .nils, (kI 0), (kI 0)] 1 [⟨0, 8, q31⟩]), .o ⟨(some p33), (.e (.app 8 96 q30 q32)), none, []⟩ .v, .mv p6 q33 .v]))))) (.s (.oX [.bn p34 .add q16 (ci 1) tI, .mv p16 q34 tI])))))
def c167_e : XC := (.sO [.al p2 (.box q0), .al p3 (.box q1), .al p4 (.new [.nils, (kI 0), (kI 0), (kI 0), (kI 0), (kI 0), (kI 0)]), .al p5 (.new [(kI 0), (.str []), (.str []), (.int .u32 (.ofNat 0)), (.int .u64 (.ofNat 0)), .nils, (kI 0), (kI 0)])] (.sO [.mv p6 (.c .nils) .v] (.sj v167_0 (.sO [.fa p13 5 q3, .ld p14 q13 .v, .P p15 (.lenl q14) tI, .mv p16 (ci 0) tI] (.block 0 (.loop v167_8 c167_8b))) c167_0)))
def x167 : XFn := ⟨[.v, .v], false, [(.cells 7 p4), (.cells 8 p5)], c167_e⟩
def e167_3 (k t2 t3 t4 t5 h) := kN k [(p2, t2), (p3, t3), (p4, t4), (p5, t5)] h
def S167_3 (D : CallD) (m : Nat) (t2 t3 t4 t5 : AV) (h : HP) : Res2 :=
 cellsC 7 t2 h fun t164 =>
 cellsC 8 t3 h fun t165 =>
 stsC 7 t4 t164 h fun h23 =>
 br (againE (.stores 7 q4 q164) [⟨none, .cells 8 q3, p165⟩] (mkT [(p4, t4), (p165, t165), (p3, t3)]) h23) (
 stsC 8 t5 t165 h23 fun h24 =>
 cellsC 7 t4 h24 fun t4a =>
 cellsC 8 t5 h24 fun t5a =>
 some (.ret (.tup [t4a, t5a]) h24, .no)) none
def e167_2 (k t2 t3 t4 t5 h) := kN k [(p2, t2), (p3, t3), (p4, t4), (p5, t5)] h
def S167_2 (D : CallD) (m : Nat) (t2 t3 t4 t5 : AV) (h : HP) : Res2 :=
 cellsC 8 t3 h fun t152 =>
 cal D 205 [t152] h fun t153 h20 =>
 extC t153 0 fun t154 =>
 extC t153 1 fun vt155 => asI .i64 vt155 fun t155 =>
 stsC 8 t3 t154 h20 fun h21 =>
 faC 6 t3 fun t157 =>
 stoC t157 (vI t155) h21 fun h22 =>
 let t159 := eqQ t155 (Int.ofNat 0)
 br t159 (
 cellsC 7 t2 h22 fun t160 =>
 faC 7 t3 fun t161 =>
 ldI t161 h22 fun t162 =>
 cal D 86 [t160, (vI (Int.ofNat 14)), (vI t162)] h22 fun t163 h25 =>
 stsC 7 t2 t163 h25 fun h26 =>
 S167_3 D m t2 t3 t4 t5 h26) (
 S167_3 D m t2 t3 t4 t5 h22)
def e167_4 (k t2 t3 t4 t5 t9 h) := kN k [(p2, t2), (p3, t3), (p4, t4), (p5, t5), (p9, t9)] h
def S167_4 (D : CallD) (m : Nat) (t2 t3 t4 t5 t9 : AV) (h : HP) : Res2 :=
 faC 0 t9 fun t145 =>
 faC 4 t145 fun t146 =>
 ldI t146 h fun t147 =>
 faC 6 t3 fun t148 =>
 stoC t148 (vI t147) h fun h33 =>
 cellsC 7 t2 h33 fun t149 =>
 cellsC 8 t3 h33 fun t150 =>
 stsC 7 t4 t149 h33 fun h34 =>
 br (againE (.stores 7 q4 q149) [⟨none, .cells 8 q3, p150⟩] (mkT [(p4, t4), (p150, t150), (p3, t3)]) h34) (
 stsC 8 t5 t150 h34 fun h35 =>
 cellsC 7 t4 h35 fun t4a =>
 cellsC 8 t5 h35 fun t5a =>
 some (.ret (.tup [t4a, t5a]) h35, .no)) none
def e167_6 (k t2 t3 t4 t5 t9 t114 t115 h) := kN k [(p2, t2), (p3, t3), (p4, t4), (p5, t5), (p9, t9), (p114, (vI t114)), (p115, (vI t115))] h
def S167_6 (D : CallD) (m : Nat) (g5 : AV → AV → AV → AV → AV → Int → Int → HP → Res2) (t2 t3 t4 t5 t9 : AV) (t114 t115 : Int) (h : HP) : Res2 :=
 let t144 := wrQ .i64 (addQ t115 (Int.ofNat 1))
 g5 t2 t3 t4 t5 t9 t114 t144 h
def e167_5 (k t2 t3 t4 t5 t9 t114 t115 h) := kN k [(p2, t2), (p3, t3), (p4, t4), (p5, t5), (p9, t9), (p114, (vI t114)), (p115, (vI t115))] h
def S167_5b (D : CallD) (m : Nat) (g5 : AV → AV → AV → AV → AV → Int → Int → HP → Res2) (t2 t3 t4 t5 t9 : AV) (t114 t115 : Int) (h : HP) : Res2 :=
 let t116 := ltQ t115 t114
 br t116 (
 faC 5 t3 fun t119 =>
 cellC t119 h fun t120 =>
 faC 5 t3 fun t122 =>
 cellC t122 h fun t123 =>
 iasC 8 t123 (vI t115) fun t125 =>
 cellsC 8 t125 h fun t126 =>
 faC 0 t9 fun t127 =>
 faC 8 t127 fun t128 =>
 cellC t128 h fun t129 =>
 iasC 3 t129 (vI t115) fun t131 =>
 faC 1 t131 fun t132 =>
 ldI t132 h fun t133 =>
 cal D 168 [t126, (vI t133)] h fun t134 h36 =>
 br (again [⟨none, .cell q119, p120⟩] (mkT [(p120, t120), (p119, t119)]) h36) (
 extC t134 0 fun t135 =>
 extC t134 1 fun vt136 => asB vt136 fun t136 =>
 iasC 8 t120 (vI t115) fun t137 =>
 stsC 8 t137 t135 h36 fun h37 =>
 let t139 := !t136
 br t139 (
 cellsC 7 t2 h37 fun t140 =>
 faC 7 t3 fun t141 =>
 ldI t141 h37 fun t142 =>
 cal D 86 [t140, (vI (Int.ofNat 14)), (vI t142)] h37 fun t143 h38 =>
 stsC 7 t2 t143 h38 fun h39 =>
 S167_6 D m g5 t2 t3 t4 t5 t9 t114 t115 h39) (
 S167_6 D m g5 t2 t3 t4 t5 t9 t114 t115 h37)) none) (
 S167_4 D m t2 t3 t4 t5 t9 h)
def S167_5 (D : CallD) (m : Nat) : AV → AV → AV → AV → AV → Int → Int → HP → Res2 := nrec (fun _ _ _ _ _ _ _ _ => none) (fun _ g => S167_5b D m g) m
def e167_1 (k t2 t3 t4 t5 t9 t10 h) := kN k [(p2, t2), (p3, t3), (p4, t4), (p5, t5), (p9, t9), (p10, (vB t10))] h
def S167_1 (D : CallD) (m : Nat) (t2 t3 t4 t5 t9 : AV) (t10 : Bool) (h : HP) : Res2 :=
 faC 0 t3 fun t83 =>
 ldI t83 h fun t84 =>
 let t85 := eqQ t84 (Int.ofNat 7)
 br t85 (
 let t87 := !t10
 obB (brV t87 (
 some (vB true)) (
 faCV 0 t9 fun t89 =>
 faCV 0 t89 fun t90 =>
 ldBV t90 h fun t91 =>
 let t92 := !t91
 some (vB t92))) fun t93 =>
 br t93 (
 cellsC 7 t2 h fun t94 =>
 faC 7 t3 fun t95 =>
 ldI t95 h fun t96 =>
 cellsC 8 t3 h fun t98 =>
 cal D 86 [t94, (vI (Int.ofNat 13)), (vI t96)] h fun t97 h27 =>
 br (again [⟨none, .cells 8 q3, p98⟩] (mkT [(p98, t98), (p3, t3)]) h27) (
 stsC 7 t4 t97 h27 fun h28 =>
 br (againE (.stores 7 q4 q97) [⟨none, .cells 8 q3, p98⟩] (mkT [(p4, t4), (p98, t98), (p3, t3)]) h28) (
 stsC 8 t5 t98 h28 fun h29 =>
 cellsC 7 t4 h29 fun t4a =>
 cellsC 8 t5 h29 fun t5a =>
 some (.ret (.tup [t4a, t5a]) h29, .no)) none) none) (
 faC 5 t3 fun t99 =>
 cellC t99 h fun t100 =>
 lenC t100 fun vt101 => asI .i64 vt101 fun t101 =>
 faC 0 t9 fun t102 =>
 faC 8 t102 fun t103 =>
 cellC t103 h fun t104 =>
 lenC t104 fun vt105 => asI .i64 vt105 fun t105 =>
 let t106 := notQ (eqQ t101 t105)
 br t106 (
 cellsC 7 t2 h fun t107 =>
 faC 7 t3 fun t108 =>
 ldI t108 h fun t109 =>
 cellsC 8 t3 h fun t111 =>
 cal D 86 [t107, (vI (Int.ofNat 14)), (vI t109)] h fun t110 h30 =>
 br (again [⟨none, .cells 8 q3, p111⟩] (mkT [(p111, t111), (p3, t3)]) h30) (
 stsC 7 t4 t110 h30 fun h31 =>
 br (againE (.stores 7 q4 q110) [⟨none, .cells 8 q3, p111⟩] (mkT [(p4, t4), (p111, t111), (p3, t3)]) h31) (
 stsC 8 t5 t111 h31 fun h32 =>
 cellsC 7 t4 h32 fun t4a =>
 cellsC 8 t5 h32 fun t5a =>
 some (.ret (.tup [t4a, t5a]) h32, .no)) none) none) (
 faC 5 t3 fun t112 =>
 cellC t112 h fun t113 =>
 lenC t113 fun vt114 => asI .i64 vt114 fun t114 =>
 S167_5 D m t2 t3 t4 t5 t9 t114 (Int.ofNat 0) h))) (
 S167_2 D m t2 t3 t4 t5 h)
def e167_7 (k t2 t3 t4 t5 h) := kN k [(p2, t2), (p3, t3), (p4, t4), (p5, t5)] h
def S167_7 (D : CallD) (m : Nat) (t2 t3 t4 t5 : AV) (h : HP) : Res2 :=
 cellsC 7 t2 h fun t81 =>
 cellsC 8 t3 h fun t82 =>
 stsC 7 t4 t81 h fun h45 =>
 br (againE (.stores 7 q4 q81) [⟨none, .cells 8 q3, p82⟩] (mkT [(p4, t4), (p82, t82), (p3, t3)]) h45) (
 stsC 8 t5 t82 h45 fun h46 =>
 cellsC 7 t4 h46 fun t4a =>
 cellsC 8 t5 h46 fun t5a =>
 some (.ret (.tup [t4a, t5a]) h46, .no)) none
def e167_0 (k t2 t3 t4 t5 t6 h) := kN k [(p2, t2), (p3, t3), (p4, t4), (p5, t5), (p6, t6)] h
def S167_0 (D : CallD) (m : Nat) (t2 t3 t4 t5 t6 : AV) (h : HP) : Res2 :=
 faC 5 t3 fun t36 =>
 stoC t36 t6 h fun h14 =>
 faC 5 t2 fun t37 =>
 ldI t37 h14 fun t38 =>
 let t39 := notQ (eqQ t38 (Int.ofNat 0))
 br t39 (
 cellsC 7 t2 h14 fun t40 =>
 cellsC 8 t3 h14 fun t41 =>
 stsC 7 t4 t40 h14 fun h15 =>
 br (againE (.stores 7 q4 q40) [⟨none, .cells 8 q3, p41⟩] (mkT [(p4, t4), (p41, t41), (p3, t3)]) h15) (
 stsC 8 t5 t41 h15 fun h16 =>
 cellsC 7 t4 h16 fun t4a =>
 cellsC 8 t5 h16 fun t5a =>
 some (.ret (.tup [t4a, t5a]) h16, .no)) none) (
 cellsC 7 t2 h14 fun t43 =>
 faC 2 t3 fun t44 =>
 ldS t44 h14 fun t45 =>
 cal D 130 [t43, (vS t45)] h14 fun t46 h17 =>
 extC t46 0 fun t47 =>
 extC t46 1 fun vt48 => asB vt48 fun t48 =>
 let t9 := AV.ptr (HP.nxQ h17) 0
 let h18 := HP.newQ h17 (.cells true [(.bool false), (.bool false), (.bool false), (.str []), (kI 0), (kI 0), .nils, (.bool false), .nils, (kI 0), .nils, .nils, (.str []), (kI 0), (kI 0), (kI 0), (kI 0), (.str []), (kI 0)])
 stsC 19 t9 t47 h18 fun h19 =>
 faC 0 t3 fun t49 =>
 ldI t49 h19 fun t50 =>
 let t51 := eqQ t50 (Int.ofNat 3)
 br t51 (
 let t53 := !t48
 obB (brV t53 (
 some (vB true)) (
 let t55 := (AV.ptr (HP.nxQ h17) (Nat.add 0 0))
 let t56 := (AV.ptr (HP.nxQ h17) (Nat.add (Nat.add 0 0) 0))
 ldBV t56 h19 fun t57 =>
 some (vB t57))) fun t58 =>
 br t58 (
 cellsC 7 t2 h19 fun t59 =>
 faC 7 t3 fun t60 =>
 ldI t60 h19 fun t61 =>
 cellsC 8 t3 h19 fun t63 =>
 cal D 86 [t59, (vI (Int.ofNat 13)), (vI t61)] h19 fun t62 h40 =>
 br (again [⟨none, .cells 8 q3, p63⟩] (mkT [(p63, t63), (p3, t3)]) h40) (
 stsC 7 t4 t62 h40 fun h41 =>
 br (againE (.stores 7 q4 q62) [⟨none, .cells 8 q3, p63⟩] (mkT [(p4, t4), (p63, t63), (p3, t3)]) h41) (
 stsC 8 t5 t63 h41 fun h42 =>
 cellsC 7 t4 h42 fun t4a =>
 cellsC 8 t5 h42 fun t5a =>
 some (.ret (.tup [t4a, t5a]) h42, .no)) none) none) (
 let t64 := (AV.ptr (HP.nxQ h17) (Nat.add 0 17))
 ldS t64 h19 fun t65 =>
 faC 2 t3 fun t66 =>
 stoC t66 (vS t65) h19 fun h43 =>
 let t67 := (AV.ptr (HP.nxQ h17) (Nat.add 0 0))
 let t68 := (AV.ptr (HP.nxQ h17) (Nat.add (Nat.add 0 0) 4))
 ldI t68 h43 fun t69 =>
 faC 6 t3 fun t70 =>
 stoC t70 (vI t69) h43 fun h44 =>
 let t71 := (AV.ptr (HP.nxQ h17) (Nat.add 0 0))
 let t72 := (AV.ptr (HP.nxQ h17) (Nat.add (Nat.add 0 0) 5))
 ldI t72 h44 fun t73 =>
 let t74 := ltQ (Int.ofNat 0) t73
 br t74 (
 let t75 := (AV.ptr (HP.nxQ h17) (Nat.add 0 0))
 let t76 := (AV.ptr (HP.nxQ h17) (Nat.add (Nat.add 0 0) 4))
 ldI t76 h44 fun t77 =>
 cal D 204 [(vI t77)] h44 fun t78 h47 =>
 asI .i64 t78 fun t78a =>
 faC 6 t3 fun t79 =>
 stoC t79 (vI t78a) h47 fun h48 =>
 faC 3 t3 fun t80 =>
 stoC t80 (vW (Int.ofNat 1)) h48 fun h49 =>
 S167_7 D m t2 t3 t4 t5 h49) (
 S167_7 D m t2 t3 t4 t5 h44))) (
 S167_1 D m t2 t3 t4 t5 t9 t48 h19))
def e167_8 (k t2 t3 t4 t5 t6 t15 t16 h) := kN k [(p2, t2), (p3, t3), (p4, t4), (p5, t5), (p6, t6), (p15, (vI t15)), (p16, (vI t16))] h
def S167_8b (D : CallD) (m : Nat) (g8 : AV → AV → AV → AV → AV → Int → Int → HP → Res2) (t2 t3 t4 t5 t6 : AV) (t15 t16 : Int) (h : HP) : Res2 :=
 let t17 := ltQ t16 t15
 br t17 (
 let t19 := (AV.agg [(vI (Int.ofNat 0)), (vS ([] : LN)), (vS ([] : LN)), (vW (Int.ofNat 0)), (AV.int .u64 (Int.ofNat 0)), (.nils : AV), (vI (Int.ofNat 0)), (vI (Int.ofNat 0))])
 let t8 := AV.ptr (HP.nxQ h) 0
 let h50 := HP.newQ h (.cells true [(kI 0), (.str []), (.str []), (.int .u32 (.ofNat 0)), (.int .u64 (.ofNat 0)), .nils, (kI 0), (kI 0)])
 stsC 8 t8 t19 h50 fun h51 =>
 cellsC 7 t2 h51 fun t21 =>
 faC 5 t3 fun t22 =>
 cellC t22 h51 fun t23 =>
 iasC 8 t23 (vI t16) fun t25 =>
 cellsC 8 t25 h51 fun t26 =>
 cal D 167 [t21, t26] h51 fun t27 h52 =>
 extC t27 0 fun t28 =>
 extC t27 1 fun t29 =>
 stsC 7 t2 t28 h52 fun h53 =>
 stsC 8 t8 t29 h53 fun h54 =>
 cellsC 8 t8 h54 fun t31 =>
 obQ (evA (.bsl [(kI 0), (.str []), (.str []), (.int .u32 (.ofNat 0)), (.int .u64 (.ofNat 0)), .nils, (kI 0), (kI 0)] 1 [⟨0, 8, (.c t31)⟩]) .leaf) fun r55 =>
 let t32 := vkV r55.2 (HP.nxQ h54)
 let h56 := HP.newQ h54 r55.1
 eff (.app 8 96 (.c t6) (.c t32)) h56 fun t33 h57 =>
 let t34 := wrQ .i64 (addQ t16 (Int.ofNat 1))
 g8 t2 t3 t4 t5 t33 t15 t34 h57) (
 S167_0 D m t2 t3 t4 t5 t6 h)
def S167_8 (D : CallD) (m : Nat) : AV → AV → AV → AV → AV → Int → Int → HP → Res2 := nrec (fun _ _ _ _ _ _ _ _ => none) (fun _ g => S167_8b D m g) m
def e167_9 (k t0 t1 h) := kN k [(p0, t0), (p1, t1)] h
def S167_9 (D : CallD) (m : Nat) (t0 t1 : AV) (h : HP) : Res2 :=
 let t2 := AV.ptr (HP.nxQ h) 0
 let h10 := HP.newQ h (.cells true (AV.cells t0))
 let t3 := AV.ptr (HP.nxQ h10) 0
 let h11 := HP.newQ h10 (.cells true (AV.cells t1))
 let t4 := AV.ptr (HP.nxQ h11) 0
 let h12 := HP.newQ h11 (.cells true [.nils, (kI 0), (kI 0), (kI 0), (kI 0), (kI 0), (kI 0)])
 let t5 := AV.ptr (HP.nxQ h12) 0
 let h13 := HP.newQ h12 (.cells true [(kI 0), (.str []), (.str []), (.int .u32 (.ofNat 0)), (.int .u64 (.ofNat 0)), .nils, (kI 0), (kI 0)])
 let t13 := (AV.ptr (HP.nxQ h10) (Nat.add 0 5))
 cellC t13 h13 fun t14 =>
 lenC t14 fun vt15 => asI .i64 vt15 fun t15 =>
 S167_8 D m t2 t3 t4 t5 (.nils : AV) t15 (Int.ofNat 0) h13
def S167 : SFn := fun D m args h u => nou u <| popV args fun t0 args => popV args fun t1 args => endA args (S167_9 D m t0 t1 h)
theorem T167_3 (hE : FX x167 D m E) : S167_3 D m = e167_3 (E c167_3 []) := by unfold S167_3; rw [hE c167_3]; kernel_rfl
theorem T167_2 (hE : FX x167 D m E) : S167_2 D m = e167_2 (E c167_2 []) := by unfold S167_2; rw [T167_3 hE, hE c167_2]; kernel_rfl
theorem T167_4 (hE : FX x167 D m E) : S167_4 D m = e167_4 (E c167_4 [.sj v167_2 c167_2]) := by unfold S167_4; rw [hE c167_4]; kernel_rfl
theorem T167_6 (hE : FX x167 D m E) (G5) : S167_6 D m (e167_5 G5) = e167_6 (E c167_6 [.lp v167_5 G5, .blk 2, .sj v167_4 c167_4, .sj v167_2 c167_2]) := by unfold S167_6; rw [hE c167_6]; kernel_rfl
theorem T167_5b (hE : FX x167 D m E) (G5) : S167_5b D m (e167_5 G5) = e167_5 (E c167_5b [.lp v167_5 G5, .blk 2, .sj v167_4 c167_4, .sj v167_2 c167_2]) := by unfold S167_5b; rw [T167_6 hE G5, T167_4 hE, hE c167_5b]; kernel_rfl
theorem T167_5 (hE : FX x167 D m E) : S167_5 D m = e167_5 (nrec (fun _ => none) (fun _ G5 st => E c167_5b [.lp v167_5 G5, .blk 2, .sj v167_4 c167_4, .sj v167_2 c167_2] st) m) :=
  nrec_emb e167_5 (fun _ _ _ _ _ _ _ _ => none) (fun g => S167_5b D m g) (fun G5 st => E c167_5b [.lp v167_5 G5, .blk 2, .sj v167_4 c167_4, .sj v167_2 c167_2] st) rfl (fun g => T167_5b hE g) m
theorem T167_1 (hE : FX x167 D m E) : S167_1 D m = e167_1 (E c167_1 []) := by unfold S167_1; rw [T167_5 hE, T167_2 hE, hE c167_1]; kernel_rfl
theorem T167_7 (hE : FX x167 D m E) : S167_7 D m = e167_7 (E c167_7 [.sj v167_1 c167_1]) := by unfold S167_7; rw [hE c167_7]; kernel_rfl
theorem T167_0 (hE : FX x167 D m E) : S167_0 D m = e167_0 (E c167_0 []) := by unfold S167_0; rw [T167_7 hE, T167_1 hE, hE c167_0]; kernel_rfl
theorem T167_8b (hE : FX x167 D m E) (G8) : S167_8b D m (e167_8 G8) = e167_8 (E c167_8b [.lp v167_8 G8, .blk 0, .sj v167_0 c167_0]) := by unfold S167_8b; rw [T167_0 hE, hE c167_8b]; kernel_rfl
theorem T167_8 (hE : FX x167 D m E) : S167_8 D m = e167_8 (nrec (fun _ => none) (fun _ G8 st => E c167_8b [.lp v167_8 G8, .blk 0, .sj v167_0 c167_0] st) m) :=
  nrec_emb e167_8 (fun _ _ _ _ _ _ _ _ => none) (fun g => S167_8b D m g) (fun G8 st => E c167_8b [.lp v167_8 G8, .blk 0, .sj v167_0 c167_0] st) rfl (fun g => T167_8b hE g) m
theorem T167_9 (hE : FX x167 D m E) : S167_9 D m = e167_9 (E c167_e []) := by unfold S167_9; rw [T167_8 hE, hE c167_e]; kernel_rfl
theorem X167 : XTie S167 x167 := X_of fun D m E hE args h u => by unfold S167; rw [T167_9 hE]; kernel_rfl
/- 168 -/
def c168_2 : XC := (.s .ret)
def l168_1 : XL := (XL.of [.o ⟨none, (.e (.stores 8 q4 q21)), none, [⟨(some (p24, true)), .cell q25, p26⟩]⟩ .v, .mv p5 q29 .b])
def v168_0 : List Pos := [p1, p2, p4]
def c168_0 : XC := (.opq true (XL.pre [.L p21 (.cells 8 q2) .v, .mv p22 q1 tI, .bn p23 .neq q22 (ci 0) .b, .mv p24 q23 .b, .sp p24, .G p24 true p25 (.faddr 6 q2) .v, .o ⟨(some p26), (.l (.cell q25)), (some (p24, true)), []⟩ tI, .G p24 true p27 (.mov q1) tI, .G p24 true p28 (.bin .eql q26 q27) .b, .P p29 (.pick q24 q28 (cb false)) .b, .jn p24 [p4, p21, p24, p25, p26, p29]] l168_1) c168_2)
def c168_e : XC := (.sO [.al p2 (.box q0), .al p4 (.new [(kI 0), (.str []), (.str []), (.int .u32 (.ofNat 0)), (.int .u64 (.ofNat 0)), .nils, (kI 0), (kI 0)]), .mv p5 (cb false) .b] (.sj v168_0 (.sO [.mv p6 q1 tI, .cl p7 206 [q6] tI, .bn p8 .neq q7 (ci 0) .b, .mv p9 q8 .b, .ge p9 (XL.of [.G p9 true p10 (.faddr 0 q2) .v, .o ⟨(some p11), (.l (.cell q10)), (some (p9, true)), []⟩ tI, .G p9 true p12 (.bin .eql q11 (ci 1)) .b, .P p13 (.pick q9 q12 (cb false)) .b]) p13 .b, .mv p14 q13 .b, .ge p14 (XL.of [.G p14 true p15 (.faddr 3 q2) .v, .o ⟨(some p16), (.l (.cell q15)), (some (p14, true)), []⟩ tW, .G p14 true p17 (.bin .eql q16 (.c (.int .u32 (.ofNat 0)))) .b, .P p18 (.pick q14 q17 (cb false)) .b]) p18 .b] (.cond q18 (.s (.oX [.mv p19 q1 tI, .fa p20 6 q2, .st q20 q19])) (.s .skip))) c168_0))
def x168 : XFn := ⟨[.v, tI], false, [(.cells 8 p4), (.tmp p5)], c168_e⟩
def e168_1 (k t4 t21 t24 t25 t26 t29 h) := kN k [(p4, t4), (p21, t21), (p24, (vB t24)), (p25, t25), (p26, t26), (p29, (vB t29))] h
def S168_1 (D : CallD) (m : Nat) (t4 t21 : AV) (t24 : Bool) (t25 t26 : AV) (t29 : Bool) (h : HP) : Res2 :=
 stsC 8 t4 t21 h fun h6 =>
 br (againE (.stores 8 q4 q21) [⟨(some (p24, true)), .cell q25, p26⟩] (mkT [(p4, t4), (p26, t26), (p24, (vB t24)), (p25, t25)]) h6) (
 cellsC 8 t4 h6 fun t4a =>
 some (.ret (.tup [t4a, (vB t29)]) h6, .no)) none
def e168_0 (k t1 t2 t4 h) := kN k [(p1, (vI t1)), (p2, t2), (p4, t4)] h
def S168_0 (D : CallD) (m : Nat) (t1 : Int) (t2 t4 : AV) (h : HP) : Res2 :=
 cellsC 8 t2 h fun t21 =>
 let t23 := notQ (eqQ t1 (Int.ofNat 0))
 br t23 (
 faC 6 t2 fun t25 =>
 ldI t25 h fun t26 =>
 let t28 := eqQ t26 t1
 S168_1 D m t4 t21 true t25 (vI t26) t28 h) (
 S168_1 D m t4 t21 false (.tup [] : AV) (.tup [] : AV) false h)
def e168_3 (k t0 t1 h) := kN k [(p0, t0), (p1, (vI t1))] h
def S168_3 (D : CallD) (m : Nat) (t0 : AV) (t1 : Int) (h : HP) : Res2 :=
 let t2 := AV.ptr (HP.nxQ h) 0
 let h4 := HP.newQ h (.cells true (AV.cells t0))
 let t4 := AV.ptr (HP.nxQ h4) 0
 let h5 := HP.newQ h4 (.cells true [(kI 0), (.str []), (.str []), (.int .u32 (.ofNat 0)), (.int .u64 (.ofNat 0)), .nils, (kI 0), (kI 0)])
 cal D 206 [(vI t1)] h5 fun t7 h7 =>
 asI .i64 t7 fun t7a =>
 let t8 := notQ (eqQ t7a (Int.ofNat 0))
 obB (brV t8 (
 let t10 := (AV.ptr (HP.nxQ h) (Nat.add 0 0))
 ldIV t10 h7 fun t11 =>
 let t12 := eqQ t11 (Int.ofNat 1)
 some (vB t12)) (
 some (vB false))) fun t13 =>
 obB (brV t13 (
 let t15 := (AV.ptr (HP.nxQ h) (Nat.add 0 3))
 ldWV t15 h7 fun t16 =>
 binCV .eql (vW t16) (vW (Int.ofNat 0)) fun vt17 => asBV vt17 fun t17 =>
 some (vB t17)) (
 some (vB false))) fun t18 =>
 br t18 (
 let t20 := (AV.ptr (HP.nxQ h) (Nat.add 0 6))
 stoC t20 (vI t1) h7 fun h8 =>
 S168_0 D m t1 t2 t4 h8) (
 S168_0 D m t1 t2 t4 h7)
def S168 : SFn := fun D m args h u => nou u <| popV args fun t0 args => popI .i64 args fun t1 args => endA args (S168_3 D m t0 t1 h)
theorem T168_1 (hE : FX x168 D m E) : S168_1 D m = e168_1 (E (.opq true l168_1 c168_2) []) := by unfold S168_1; rw [hE (.opq true l168_1 c168_2)]; kernel_rfl
theorem T168_0 (hE : FX x168 D m E) : S168_0 D m = e168_0 (E c168_0 []) := by unfold S168_0; rw [T168_1 hE, hE c168_0]; kernel_rfl
theorem T168_3 (hE : FX x168 D m E) : S168_3 D m = e168_3 (E c168_e []) := by unfold S168_3; rw [T168_0 hE, hE c168_e]; kernel_rfl
theorem X168 : XTie S168 x168 := X_of fun D m E hE args h u => by unfold S168; rw [T168_3 hE]; kernel_rfl
/- 169 -/
def v169_0 : List Pos := [p2, p3, p4, p5, p6]
def c169_0 : XC := (.sO [.mv p241 q6 .v, .fa p242 1 q3, .st q242 q241] (.seq (.ops true (XL.of [.L p243 (.cells 7 q2) .v, .L p244 (.cells 7 q3) .v, .o ⟨none, (.e (.stores 7 q4 q243)), none, [⟨none, .cells 7 q3, p244⟩]⟩ .v, .ss 7 q5 q244])) (.s .ret)))
def v169_2 : List Pos := [p2, p3, p4, p5, p6, p7]
def c169_2 : XC := (.sO [.mv p86 q7 .v, .fa p87 2 q3, .st q87 q86] (.s (.oX [.fa p88 4 q2, .ld p89 q88 tI, .fa p90 0 q3, .ld p91 q90 tI, .bn p92 .sub q89 q91 tI, .bn p93 .add q92 (ci 2) tI, .fa p94 4 q2, .st q94 q93])))
def v169_3 : List Pos := [p2, p3, p4, p5, p6, p7, p63, p64]
def c169_3b : XC := (.sO [.bn p65 .lss q64 q63 .b] (.seq (.cond q65 .skip (.exit 1)) (.seq (.block 2 (.seq (.oX [.mv p66 q64 tI, .mv p8 q66 tI]) (.seq (.oX [.P p67 (.build [(kI 0), .nils, .nils, (.str []), (kI 0), (kI 0), (kI 0)] []) .v, .al p9 (.new [(kI 0), .nils, .nils, (.str []), (kI 0), (kI 0), (kI 0)]), .ss 7 q9 q67]) (.seq (.ops true (XL.of [.L p69 (.cells 7 q2) .v, .fa p71 2 q3, .ld p72 q71 .v, .mv p73 q8 tI, .P p74 (.iaddr (.sl 7) q72 q73) .v, .L p75 (.cells 7 q74) .v, .o ⟨(some p70), (.call (.fn 129) [q69]), none, [⟨none, .cell q71, p72⟩, ⟨none, .cells 7 q74, p75⟩]⟩ .v, .cl p76 169 [q70, q75] .v, .mv p68 q76 .v, .P p77 (.ext q68 0) .v, .P p78 (.ext q68 1) .v, .ss 7 q2 q77, .ss 7 q9 q78])) (.seq (.oX [.L p79 (.cells 7 q2) .v, .cl p80 134 [q79] .v, .ss 7 q2 q80]) (.oX [.mv p81 q7 .v, .L p82 (.cells 7 q9) .v, .al p83 (.bsl [(kI 0), .nils, .nils, (.str []), (kI 0), (kI 0), (kI 0)] 1 [⟨0, 7, q82⟩]), .o ⟨(some p84), (.e (.app 7 96 q81 q83)), none, []⟩ .v, .mv p7 q84 .v])))))) (.s (.oX [.bn p85 .add q64 (ci 1) tI, .mv p64 q85 tI])))))
def v169_4 : List Pos := [p2, p3, p4, p5, p6]
def c169_4 : XC := (.sO [.mv p109 q6 .v, .P p110 (.lenl q109) tI, .bn p111 .gtr q110 (ci 0) .b] (.cond q111 (.s (.ops true (XL.of [.mv p113 q6 .v, .L p114 (.cells 7 q2) .v, .mv p115 q6 .v, .P p116 (.iaddr (.sl 8) q115 (ci 0)) .v, .L p117 (.cells 8 q116) .v, .fa p118 2 q2, .ld p119 q118 tI, .fa p120 6 q3, .ld p121 q120 tI, .cl p122 132 [q114, q117, q119, q121] .v, .mv p112 q122 .v, .P p123 (.ext q112 0) .v, .P p124 (.ext q112 1) .v, .ss 7 q2 q123, .P p125 (.iaddr (.sl 8) q113 (ci 0)) .v, .ss 8 q125 q124]))) (.s .skip)))
def v169_8 : List Pos := [p2, p3, p4, p5, p6]
def c169_8 : XC := (.s (.oX [.L p229 (.cells 7 q2) .v, .fa p230 3 q3, .ld p231 q230 .s, .fa p232 4 q3, .ld p233 q232 tI, .fa p234 5 q3, .ld p235 q234 tI, .P p236 (.build [(.bool false), (.bool false), (.bool false), (.str []), (kI 0), (kI 0), .nils, (.bool false), .nils, (kI 0), .nils, .nils, (.str []), (kI 0), (kI 0), (kI 0), (kI 0)] [⟨3, 1, q231⟩, ⟨4, 1, q233⟩, ⟨5, 1, q235⟩]) .v, .cl p237 131 [q229, q236] .v, .mv p228 q237 .v, .P p238 (.ext q228 0) .v, .P p239 (.ext q228 1) .s, .ss 7 q2 q238, .fa p240 3 q3, .st q240 q239]))
def c169_11 : XC := (.cond q223 (.s (.oX [.L p224 (.cells 7 q2) .v, .fa p225 6 q3, .ld p226 q225 tI, .cl p227 86 [q224, (ci 14), q226] .v, .ss 7 q2 q227])) (.s .skip))
def l169_10 : XL := (XL.of [])
def l169_9 : XL := (XL.pre [.P p223 (.pick q208 (cb true) q222) .b, .jn p208 [p2, p3, p4, p5, p6, p223]] l169_10)
def v169_7 : List Pos := [p2, p3, p4, p5, p6, p12]
def c169_7 : XC := (.sj v169_8 (.opq false (XL.pre [.mv p201 q12 .b, .P p202 (.un .not q201) .b, .mv p203 q202 .b, .ge p203 (XL.of [.G p203 false p204 (.faddr 4 q3) .v, .o ⟨(some p205), (.l (.cell q204)), (some (p203, false)), []⟩ tI, .G p203 false p206 (.bin .eql q205 (ci 0)) .b, .P p207 (.pick q203 (cb true) q206) .b]) p207 .b, .mv p208 q207 .b, .sp p208, .G p208 false p209 (.faddr 5 q3) .v, .o ⟨(some p210), (.l (.cell q209)), (some (p208, false)), []⟩ tI, .G p208 false p211 (.bin .gtr q210 (ci 0)) .b, .G p208 false p212 (.mov q211) .b, .sp p212, .G p212 true p213 (.faddr 4 q3) .v, .o ⟨(some p214), (.l (.cell q213)), (some (p212, true)), []⟩ tI, .o ⟨(some p215), (.call (.fn 128) [q214]), (some (p212, true)), []⟩ .b, .G p212 true p216 (.un .not q215) .b, .G p212 true p217 (.mov q216) .b, .ge p217 (XL.of [.G p217 false p218 (.mov q6) .v, .G p217 false p219 (.lenl q218) tI, .G p217 false p220 (.bin .gtr q219 (ci 0)) .b, .G p212 true p221 (.pick q217 (cb true) q220) .b]) p221 .b, .G p208 false p222 (.pick q212 q221 (cb false)) .b, .jn p212 [p2, p3, p4, p5, p6, p208, p222]] l169_9) c169_11) c169_8)
def v169_6 : List Pos := [p2, p3, p4, p5, p6]
def c169_6 : XC := (.sO [.mv p12 (cb true) .b] (.sj v169_7 (.sO [.mv p172 q6 .v, .P p173 (.lenl q172) tI, .bn p174 .gtr q173 (ci 0) .b, .mv p175 q174 .b, .ge p175 (XL.of [.G p175 true p176 (.faddr 5 q2) .v, .o ⟨(some p177), (.l (.cell q176)), (some (p175, true)), []⟩ tI, .G p175 true p178 (.bin .eql q177 (ci 0)) .b, .P p179 (.pick q175 q178 (cb false)) .b]) p179 .b] (.cond q179 (.seq (.ops true (XL.of [.mv p181 q6 .v, .L p182 (.cells 7 q2) .v, .mv p183 q6 .v, .P p184 (.iaddr (.sl 8) q183 (ci 0)) .v, .L p185 (.cells 8 q184) .v, .cl p186 167 [q182, q185] .v, .mv p180 q186 .v, .P p187 (.ext q180 0) .v, .P p188 (.ext q180 1) .v, .ss 7 q2 q187, .P p189 (.iaddr (.sl 8) q181 (ci 0)) .v, .ss 8 q189 q188])) (.s (.ops true (XL.of [.mv p191 q6 .v, .mv p192 q6 .v, .P p193 (.iaddr (.sl 8) q192 (ci 0)) .v, .L p194 (.cells 8 q193) .v, .fa p195 4 q3, .ld p196 q195 tI, .cl p197 168 [q194, q196] .v, .mv p190 q197 .v, .P p198 (.ext q190 0) .v, .P p199 (.ext q190 1) .b, .P p200 (.iaddr (.sl 8) q191 (ci 0)) .v, .ss 8 q200 q198, .mv p12 q199 .b])))) (.s .skip))) c169_7))
def v169_5 : List Pos := [p2, p3, p4, p5, p6, p23, p126]
def c169_5 : XC := (.cond q126 (.sO [.fa p129 4 q2, .ld p130 q129 tI, .bn p131 .eql q130 (ci 0) .b] (.cond q131 (.s (.oX [.L p132 (.cells 7 q2) .v, .fa p133 6 q3, .ld p134 q133 tI, .cl p135 86 [q132, (ci 14), q134] .v, .ss 7 q2 q135])) (.s .skip))) (.sO [.bn p137 .eql q23 (ci 7) .b, .mv p136 q137 .b] (.cond q136 (.sO [.mv p138 q6 .v, .P p139 (.lenl q138) tI, .bn p140 .gtr q139 (ci 0) .b] (.cond q140 (.s (.ops true (XL.of [.mv p142 q6 .v, .L p143 (.cells 7 q2) .v, .mv p144 q6 .v, .P p145 (.iaddr (.sl 8) q144 (ci 0)) .v, .L p146 (.cells 8 q145) .v, .cl p147 167 [q143, q146] .v, .mv p141 q147 .v, .P p148 (.ext q141 0) .v, .P p149 (.ext q141 1) .v, .ss 7 q2 q148, .P p150 (.iaddr (.sl 8) q142 (ci 0)) .v, .ss 8 q150 q149]))) (.s .skip))) (.sO [.bn p152 .eql q23 (ci 8) .b, .mv p151 q152 .b] (.cond q151 (.sO [.L p154 (.cells 7 q2) .v, .fa p155 3 q3, .ld p156 q155 .s, .cl p157 130 [q154, q156] .v, .mv p153 q157 .v, .P p158 (.ext q153 0) .v, .P p159 (.ext q153 1) .b, .al p10 (.new [(.bool false), (.bool false), (.bool false), (.str []), (kI 0), (kI 0), .nils, (.bool false), .nils, (kI 0), .nils, .nils, (.str []), (kI 0), (kI 0), (kI 0), (kI 0), (.str []), (kI 0)]), .ss 19 q10 q158, .mv p11 q159 .b] (.sj v169_6 (.sO [.mv p160 q11 .b, .mv p161 q160 .b, .ge p161 (XL.of [.G p161 true p162 (.faddr 18 q10) .v, .o ⟨(some p163), (.l (.cell q162)), (some (p161, true)), []⟩ tI, .G p161 true p164 (.faddr 1 q2) .v, .o ⟨(some p165), (.l (.cell q164)), (some (p161, true)), []⟩ tI, .G p161 true p166 (.bin .eql q163 q165) .b, .P p167 (.pick q161 q166 (cb false)) .b]) p167 .b] (.cond q167 (.s (.oX [.L p168 (.cells 7 q2) .v, .fa p169 6 q3, .ld p170 q169 tI, .cl p171 86 [q168, (ci 13), q170] .v, .ss 7 q2 q171])) (.s .skip))) c169_6)) (.s .skip))))))
def v169_1 : List Pos := [p2, p3, p4, p5, p6, p23, p37]
def c169_1 : XC := (.cond q37 (.seq (.ops true (XL.of [.mv p41 q6 .v, .L p42 (.cells 7 q2) .v, .mv p43 q6 .v, .P p44 (.iaddr (.sl 8) q43 (ci 0)) .v, .L p45 (.cells 8 q44) .v, .mv p46 q6 .v, .P p47 (.iaddr (.sl 8) q46 (ci 0)) .v, .fa p48 7 q47, .ld p49 q48 tI, .cl p50 132 [q42, q45, (ci 1), q49] .v, .mv p40 q50 .v, .P p51 (.ext q40 0) .v, .P p52 (.ext q40 1) .v, .ss 7 q2 q51, .P p53 (.iaddr (.sl 8) q41 (ci 0)) .v, .ss 8 q53 q52])) (.sO [.fa p54 4 q2, .ld p55 q54 tI, .fa p56 0 q3, .ld p57 q56 tI, .bn p58 .add q55 q57 tI, .bn p59 .sub q58 (ci 2) tI, .fa p60 4 q2, .st q60 q59] (.sO [.mv p7 (.c .nils) .v] (.sj v169_2 (.sO [.fa p61 2 q3, .ld p62 q61 .v, .P p63 (.lenl q62) tI, .mv p64 (ci 0) tI] (.block 1 (.loop v169_3 c169_3b))) c169_2)))) (.sO [.bn p96 .eql q23 (ci 4) .b, .mv p95 q96 .b] (.cond q95 (.sj v169_4 (.sO [.mv p97 q6 .v, .P p98 (.lenl q97) tI, .bn p99 .eql q98 (ci 0) .b, .mv p100 q99 .b, .ge p100 (XL.of [.G p100 true p101 (.faddr 2 q2) .v, .o ⟨(some p102), (.l (.cell q101)), (some (p100, true)), []⟩ tI, .G p100 true p103 (.bin .neq q102 (ci 0)) .b, .P p104 (.pick q100 q103 (cb false)) .b]) p104 .b] (.cond q104 (.s (.oX [.L p105 (.cells 7 q2) .v, .fa p106 6 q3, .ld p107 q106 tI, .cl p108 86 [q105, (ci 14), q107] .v, .ss 7 q2 q108])) (.s .skip))) c169_4) (.sj v169_5 (.sO [.bn p127 .eql q23 (ci 5) .b, .mv p126 q127 .b] (.cond q126 (.s .skip) (.s (.oX [.bn p128 .eql q23 (ci 6) .b, .mv p126 q128 .b])))) c169_5))))
def c169_e : XC := (.sO [.al p2 (.box q0), .al p3 (.box q1), .al p4 (.new [.nils, (kI 0), (kI 0), (kI 0), (kI 0), (kI 0), (kI 0)]), .al p5 (.new [(kI 0), .nils, .nils, (.str []), (kI 0), (kI 0), (kI 0)])] (.seq (.seq (.oX [.fa p13 5 q2, .ld p14 q13 tI, .bn p15 .neq q14 (ci 0) .b]) (.cond q15 (.seq (.ops true (XL.of [.L p16 (.cells 7 q2) .v, .L p17 (.cells 7 q3) .v, .o ⟨none, (.e (.stores 7 q4 q16)), none, [⟨none, .cells 7 q3, p17⟩]⟩ .v, .ss 7 q5 q17])) .ret) .skip)) (.sO [.al p18 (.bsl [] 0 []), .fa p19 1 q3, .ld p20 q19 .v, .o ⟨(some p21), (.e (.app 8 96 q18 q20)), none, []⟩ .v, .mv p6 q21 .v] (.sj v169_0 (.sO [.fa p22 0 q3, .ld p23 q22 tI] (.block 0 (.sO [.bn p25 .eql q23 (ci 1) .b, .mv p24 q25 .b] (.cond q24 (.seq (.ops true (XL.of [.L p27 (.cells 7 q2) .v, .fa p29 2 q3, .ld p30 q29 .v, .o ⟨(some p28), (.call (.fn 129) [q27]), none, [⟨none, .cell q29, p30⟩]⟩ .v, .cl p31 133 [q28, q30] .v, .mv p26 q31 .v, .P p32 (.ext q26 0) .v, .P p33 (.ext q26 1) .v, .ss 7 q2 q32, .fa p34 2 q3, .st q34 q33])) (.s (.oX [.L p35 (.cells 7 q2) .v, .cl p36 134 [q35] .v, .ss 7 q2 q36]))) (.sj v169_1 (.sO [.bn p38 .eql q23 (ci 2) .b, .mv p37 q38 .b] (.cond q37 (.s .skip) (.s (.oX [.bn p39 .eql q23 (ci 3) .b, .mv p37 q39 .b])))) c169_1))))) c169_0))))
def x169 : XFn := ⟨[.v, .v], false, [(.cells 7 p4), (.cells 7 p5)], c169_e⟩
def S169 : SFn := evFX x169
theorem X169 : XTie S169 x169 := fun _ _ _ _ _ => rfl
/- 178 -/
def c178_e : XC := (.sO [.mv p4 (ci 0) tI] (.sO [.mv p6 q0 .v, .cl p7 90 [q6, (ci 1)] tI, .mv p5 q7 tI] (.sO [.mv p8 q0 .v, .mv p9 q5 tI, .mv p10 q1 tW, .P p11 (.build [(kI 0), (kI 0), (kI 0), (kI 0), (.int .u32 (.ofNat 0)), (.int .u64 (.ofNat 0)), (.str []), .nils, (kI 0)] [⟨0, 1, (ci 1)⟩, ⟨1, 1, q9⟩, ⟨4, 1, q10⟩]) .v, .cl p12 140 [q8, q11] .v] (.sO [.mv p13 q5 tI, .mv p4 q13 tI] (.s .ret)))))
def x178 : XFn := ⟨[.v, tW], false, [(.tmp p4)], c178_e⟩
def e178_0 (k t0 t1 h) := kN k [(p0, t0), (p1, (vW t1))] h
def S178_0 (D : CallD) (m : Nat) (t0 : AV) (t1 : Int) (h : HP) : Res2 :=
 cal D 90 [t0, (vI (Int.ofNat 1))] h fun t7 h1 =>
 asI .i64 t7 fun t7a =>
 let t11 := (AV.agg [(vI (Int.ofNat 1)), (vI t7a), (vI (Int.ofNat 0)), (vI (Int.ofNat 0)), (vW t1), (AV.int .u64 (Int.ofNat 0)), (vS ([] : LN)), (.nils : AV), (vI (Int.ofNat 0))])
 cal D 140 [t0, t11] h1 fun t12 h2 =>
 some (.ret (vI t7a) h2, .no)
def S178 : SFn := fun D m args h u => nou u <| popV args fun t0 args => popI .u32 args fun t1 args => endA args (S178_0 D m t0 t1 h)
theorem T178_0 (hE : FX x178 D m E) : S178_0 D m = e178_0 (E c178_e []) := by unfold S178_0; rw [hE c178_e]; kernel_rfl
theorem X178 : XTie S178 x178 := X_of fun D m E hE args h u => by unfold S178; rw [T178_0 hE]; kernel_rfl
/- 184 -/
def c184_e : XC := (.sO [.al p3 (.box q1), .mv p4 (ci 0) tI] (.sO [.mv p9 q0 .v, .L p10 (.cells 8 q3) .v, .cl p11 188 [q9, q10] .v, .mv p8 q11 .v, .P p12 (.ext q8 0) tI, .P p13 (.ext q8 1) tI, .mv p5 q12 tI, .mv p6 q13 tI] (.seq (.block 0 (.seq (.oX [.fa p15 0 q3, .ld p16 q15 tI, .bn p17 .eql q16 (ci 3) .b, .mv p18 q17 .b, .ge p18 (XL.of [.G p18 true p19 (.faddr 3 q3) .v, .o ⟨(some p20), (.l (.cell q19)), (some (p18, true)), []⟩ tW, .G p18 true p21 (.bin .eql q20 (.c (.int .u32 (.ofNat 1)))) .b, .P p22 (.pick q18 q21 (cb false)) .b]) p22 .b, .mv p14 q22 .b]) (.cond q14 (.seq (.oX [.mv p23 q6 tI, .mv p4 q23 tI]) .ret) (.seq (.oX [.mv p25 q5 tI, .bn p26 .lss q25 (ci 0) .b, .mv p24 q26 .b]) (.cond q24 (.seq (.oX [.mv p27 q0 .v, .fa p28 6 q3, .ld p29 q28 tI, .mv p30 q6 tI, .cl p31 216 [q27, q29, q30] tI, .mv p4 q31 tI]) .ret) .skip))))) (.sO [.mv p32 q0 .v, .fa p33 6 q3, .ld p34 q33 tI, .cl p35 91 [q34] tI, .cl p36 90 [q32, q35] tI, .mv p7 q36 tI] (.sO [.mv p37 q0 .v, .mv p38 q7 tI, .mv p39 q5 tI, .P p40 (.build [(kI 0), (kI 0), (kI 0), (kI 0), (.int .u32 (.ofNat 0)), (.int .u64 (.ofNat 0)), (.str []), .nils, (kI 0)] [⟨0, 1, (ci 3)⟩, ⟨1, 1, q38⟩, ⟨2, 1, q39⟩]) .v, .cl p41 140 [q37, q40] .v] (.sO [.mv p42 q7 tI, .mv p4 q42 tI] (.s .ret)))))))
def x184 : XFn := ⟨[.v, .v], false, [(.tmp p4)], c184_e⟩
def e184_0 (k t0 t1 h) := kN k [(p0, t0), (p1, t1)] h
def S184_0 (D : CallD) (m : Nat) (t0 t1 : AV) (h : HP) : Res2 :=
 let t3 := AV.ptr (HP.nxQ h) 0
 let h1 := HP.newQ h (.cells true (AV.cells t1))
 cellsC 8 t3 h1 fun t10 =>
 cal D 188 [t0, t10] h1 fun t11 h2 =>
 extC t11 0 fun vt12 => asI .i64 vt12 fun t12 =>
 extC t11 1 fun vt13 => asI .i64 vt13 fun t13 =>
 let t15 := (AV.ptr (HP.nxQ h) (Nat.add 0 0))
 ldI t15 h2 fun t16 =>
 let t17 := eqQ t16 (Int.ofNat 3)
 obB (brV t17 (
 let t19 := (AV.ptr (HP.nxQ h) (Nat.add 0 3))
 ldWV t19 h2 fun t20 =>
 binCV .eql (vW t20) (vW (Int.ofNat 1)) fun vt21 => asBV vt21 fun t21 =>
 some (vB t21)) (
 some (vB false))) fun t22 =>
 br t22 (
 some (.ret (vI t13) h2, .no)) (
 let t26 := ltQ t12 (Int.ofNat 0)
 br t26 (
 let t28 := (AV.ptr (HP.nxQ h) (Nat.add 0 6))
 ldI t28 h2 fun t29 =>
 cal D 216 [t0, (vI t29), (vI t13)] h2 fun t31 h3 =>
 asI .i64 t31 fun t31a =>
 some (.ret (vI t31a) h3, .no)) (
 let t33 := (AV.ptr (HP.nxQ h) (Nat.add 0 6))
 ldI t33 h2 fun t34 =>
 cal D 91 [(vI t34)] h2 fun t35 h4 =>
 asI .i64 t35 fun t35a =>
 cal D 90 [t0, (vI t35a)] h4 fun t36 h5 =>
 asI .i64 t36 fun t36a =>
 let t40 := (AV.agg [(vI (Int.ofNat 3)), (vI t36a), (vI t12), (vI (Int.ofNat 0)), (vW (Int.ofNat 0)), (AV.int .u64 (Int.ofNat 0)), (vS ([] : LN)), (.nils : AV), (vI (Int.ofNat 0))])
 cal D 140 [t0, t40] h5 fun t41 h6 =>
 some (.ret (vI t36a) h6, .no)))
def S184 : SFn := fun D m args h u => nou u <| popV args fun t0 args => popV args fun t1 args => endA args (S184_0 D m t0 t1 h)
theorem T184_0 (hE : FX x184 D m E) : S184_0 D m = e184_0 (E c184_e []) := by unfold S184_0; rw [hE c184_e]; kernel_rfl
theorem X184 : XTie S184 x184 := X_of fun D m E hE args h u => by unfold S184; rw [T184_0 hE]; kernel_rfl
/- 185 -/
def c185_e : XC := (.sO [.al p3 (.box q1), .mv p4 (ci 0) tI] (.seq (.seq (.oX [.fa p9 1 q3, .ld p10 q9 .s]) (.block 0 (.seq (.oX [.bn p12 .eql q10 (.c (.str [38])) .b, .mv p11 q12 .b]) (.cond q11 (.seq (.oX [.mv p14 q0 .v, .fa p15 5 q3, .ld p16 q15 .v, .P p17 (.iaddr (.sl 8) q16 (ci 0)) .v, .L p18 (.cells 8 q17) .v, .cl p19 188 [q14, q18] .v, .mv p13 q19 .v, .P p20 (.ext q13 0) tI, .P p21 (.ext q13 1) tI, .mv p5 q20 tI, .mv p6 q21 tI]) (.seq (.oX [.mv p22 q6 tI, .mv p4 q22 tI]) .ret)) (.seq (.oX [.bn p24 .eql q10 (.c (.str [42])) .b, .mv p23 q24 .b]) (.cond q23 (.seq (.oX [.mv p25 q0 .v, .L p26 (.cells 8 q3) .v, .cl p27 184 [q25, q26] tI, .mv p4 q27 tI]) .ret) .skip)))))) (.sO [.mv p28 q0 .v, .fa p29 5 q3, .ld p30 q29 .v, .P p31 (.iaddr (.sl 8) q30 (ci 0)) .v, .L p32 (.cells 8 q31) .v, .cl p33 145 [q28, q32] tI, .mv p7 q33 tI] (.seq (.block 1 (.seq (.oX [.fa p35 1 q3, .ld p36 q35 .s, .bn p37 .eql q36 (.c (.str [33])) .b, .mv p34 q37 .b]) (.cond q34 (.seq (.oX [.mv p38 q0 .v, .mv p39 q7 tI, .mv p40 q0 .v, .cl p41 178 [q40, (.c (.int .u32 (.ofNat 1)))] tI, .cl p42 179 [q38, (.c (.int .u32 (.ofNat 5))), q39, q41] tI, .mv p4 q42 tI]) .ret) (.seq (.oX [.fa p44 1 q3, .ld p45 q44 .s, .bn p46 .eql q45 (.c (.str [126])) .b, .mv p43 q46 .b]) (.cond q43 (.seq (.oX [.mv p47 q0 .v, .mv p48 q7 tI, .mv p49 q0 .v, .cl p50 178 [q49, (.c (.int .u32 (.ofNat 4294967295)))] tI, .cl p51 179 [q47, (.c (.int .u32 (.ofNat 6))), q48, q50] tI, .mv p4 q51 tI]) .ret) (.seq (.oX [.fa p53 6 q3, .ld p54 q53 tI, .bn p55 .eql q54 (ci 2) .b, .mv p52 q55 .b]) (.cond q52 (.seq (.oX [.mv p56 q0 .v, .cl p57 90 [q56, (ci 2)] tI, .mv p8 q57 tI]) (.seq (.oX [.mv p58 q0 .v, .mv p59 q8 tI, .mv p60 q7 tI, .P p61 (.build [(kI 0), (kI 0), (kI 0), (kI 0), (.int .u32 (.ofNat 0)), (.int .u64 (.ofNat 0)), (.str []), .nils, (kI 0)] [⟨0, 1, (ci 7)⟩, ⟨1, 1, q59⟩, ⟨2, 1, q60⟩]) .v, .cl p62 140 [q58, q61] .v]) (.seq (.oX [.mv p63 q8 tI, .mv p4 q63 tI]) .ret))) .skip))))))) (.sO [.mv p64 q0 .v, .mv p65 q0 .v, .cl p66 178 [q65, (.c (.int .u32 (.ofNat 0)))] tI, .mv p67 q7 tI, .cl p68 179 [q64, (.c (.int .u32 (.ofNat 2))), q66, q67] tI, .mv p4 q68 tI] (.s .ret))))))
def x185 : XFn := ⟨[.v, .v], false, [(.tmp p4)], c185_e⟩
def e185_0 (k t0 t1 h) := kN k [(p0, t0), (p1, t1)] h
def S185_0 (D : CallD) (m : Nat) (t0 t1 : AV) (h : HP) : Res2 :=
 let t3 := AV.ptr (HP.nxQ h) 0
 let h1 := HP.newQ h (.cells true (AV.cells t1))
 let t9 := (AV.ptr (HP.nxQ h) (Nat.add 0 1))
 ldS t9 h1 fun t10 =>
 let t12 := eqL t10 ([38] : LN)
 br t12 (
 let t15 := (AV.ptr (HP.nxQ h) (Nat.add 0 5))
 cellC t15 h1 fun t16 =>
 iasC 8 t16 (vI (Int.ofNat 0)) fun t17 =>
 cellsC 8 t17 h1 fun t18 =>
 cal D 188 [t0, t18] h1 fun t19 h2 =>
 extC t19 0 fun vt20 => asI .i64 vt20 fun t20 =>
 extC t19 1 fun vt21 => asI .i64 vt21 fun t21 =>
 some (.ret (vI t21) h2, .no)) (
 let t24 := eqL t10 ([42] : LN)
 br t24 (
 cellsC 8 t3 h1 fun t26 =>
 cal D 184 [t0, t26] h1 fun t27 h3 =>
 asI .i64 t27 fun t27a =>
 some (.ret (vI t27a) h3, .no)) (
 let t29 := (AV.ptr (HP.nxQ h) (Nat.add 0 5))
 cellC t29 h1 fun t30 =>
 iasC 8 t30 (vI (Int.ofNat 0)) fun t31 =>
 cellsC 8 t31 h1 fun t32 =>
 cal D 145 [t0, t32] h1 fun t33 h4 =>
 asI .i64 t33 fun t33a =>
 let t35 := (AV.ptr (HP.nxQ h) (Nat.add 0 1))
 ldS t35 h4 fun t36 =>
 let t37 := eqL t36 ([33] : LN)
 br t37 (
 cal D 178 [t0, (vW (Int.ofNat 1))] h4 fun t41 h5 =>
 asI .i64 t41 fun t41a =>
 cal D 179 [t0, (vW (Int.ofNat 5)), (vI t33a), (vI t41a)] h5 fun t42 h6 =>
 asI .i64 t42 fun t42a =>
 some (.ret (vI t42a) h6, .no)) (
 let t44 := (AV.ptr (HP.nxQ h) (Nat.add 0 1))
 ldS t44 h4 fun t45 =>
 let t46 := eqL t45 ([126] : LN)
 br t46 (
 cal D 178 [t0, (vW (Int.ofNat 4294967295))] h4 fun t50 h7 =>
 asI .i64 t50 fun t50a =>
 cal D 179 [t0, (vW (Int.ofNat 6)), (vI t33a), (vI t50a)] h7 fun t51 h8 =>
 asI .i64 t51 fun t51a =>
 some (.ret (vI t51a) h8, .no)) (
 let t53 := (AV.ptr (HP.nxQ h) (Nat.add 0 6))
 ldI t53 h4 fun t54 =>
 let t55 := eqQ t54 (Int.ofNat 2)
 br t55 (
 cal D 90 [t0, (vI (Int.ofNat 2))] h4 fun t57 h9 =>
 asI .i64 t57 fun t57a =>
 let t61 := (AV.agg [(vI (Int.ofNat 7)), (vI t57a), (vI t33a), (vI (Int.ofNat 0)), (vW (Int.ofNat 0)), (AV.int .u64 (Int.ofNat 0)), (vS ([] : LN)), (.nils : AV), (vI (Int.ofNat 0))])
 cal D 140 [t0, t61] h9 fun t62 h10 =>
 some (.ret (vI t57a) h10, .no)) (
 cal D 178 [t0, (vW (Int.ofNat 0))] h4 fun t66 h11 =>
 asI .i64 t66 fun t66a =>
 cal D 179 [t0, (vW (Int.ofNat 2)), (vI t66a), (vI t33a)] h11 fun t68 h12 =>
 asI .i64 t68 fun t68a =>
 some (.ret (vI t68a) h12, .no))))))
def S185 : SFn := fun D m args h u => nou u <| popV args fun t0 args => popV args fun t1 args => endA args (S185_0 D m t0 t1 h)
theorem T185_0 (hE : FX x185 D m E) : S185_0 D m = e185_0 (E c185_e []) := by unfold S185_0; rw [hE c185_e]; kernel_rfl
theorem X185 : XTie S185 x185 := X_of fun D m E hE args h u => by unfold S185; rw [T185_0 hE]; kernel_rfl
end
end Go.Proofs.YtcoldhmbmcdemaaGreat.Sx
