/- Functions, printed by a program of ours: their code, what they do, and that it is so. -/
import Derived.Test.YtbfdhoggchedjaaGreatDoorSp
set_option maxRecDepth 8000
set_option linter.unusedVariables false
namespace Go.Proofs.YtbfdhoggchedjaaGreatDoor.Sx
open Go Go.Proofs.YtbfdhoggchedjaaGreatDoor.Ev
set_option linter.unusedSectionVars false
noncomputable section
variable [Rho]
variable {D : CallD} {m : Nat} {E : XE}
/- 3 -/
def c3_e : XC := (.sO [.mv p6 (cb false) .b] (.seq (.seq (.oX [.cl p15 10 [] .b, .P p16 (.un .not q15) .b]) (.cond q16 (.seq (.oX [.mv p6 (cb false) .b]) .ret) .skip)) (.sO [.mv p18 q0 tI, .mv p19 q1 (.i .u64), .mv p20 q2 (.i .u64), .cl p21 11 [q18, q19, q20] .v, .mv p17 q21 .v, .P p22 (.ext q17 0) (.i .u64), .P p23 (.ext q17 1) tI, .mv p7 q22 (.i .u64), .mv p8 q23 tI] (.sO [.mv p25 q0 tI, .mv p26 q1 (.i .u64), .mv p27 q2 (.i .u64), .cl p28 12 [q25, q26, q27] .v, .mv p24 q28 .v, .P p29 (.ext q24 0) (.i .u64), .P p30 (.ext q24 1) .b, .mv p9 q29 (.i .u64), .mv p10 q30 .b] (.sO [.mv p32 q0 tI, .mv p33 q1 (.i .u64), .mv p34 q2 (.i .u64), .cl p35 13 [q32, q33, q34] .v, .mv p31 q35 .v, .P p36 (.ext q31 0) tW, .P p37 (.ext q31 1) tI, .mv p11 q36 tW, .mv p12 q37 tI] (.sO [.mv p39 q0 tI, .mv p40 q1 (.i .u64), .mv p41 q2 (.i .u64), .cl p42 14 [q39, q40, q41] .v, .mv p38 q42 .v, .P p43 (.ext q38 0) tW, .P p44 (.ext q38 1) .b, .mv p13 q43 tW, .mv p14 q44 .b] (.sO [.mv p45 q7 (.i .u64), .mv p46 q9 (.i .u64), .bn p47 .eql q45 q46 .b, .mv p48 q47 .b, .ge p48 (XL.of [.G p48 true p49 (.mov q8) tI, .G p48 true p50 (.bin .eql q49 (ci 0)) .b, .G p48 true p51 (.mov q10) .b, .G p48 true p52 (.eqb false q50 q51) .b, .P p53 (.pick q48 q52 (cb false)) .b]) p53 .b, .mv p54 q53 .b, .ge p54 (XL.of [.G p54 true p55 (.mov q10) .b, .G p54 true p56 (.mov q55) .b, .ge p56 (XL.of [.G p56 false p57 (.mov q8) tI, .G p56 false p58 (.bin .eql q57 (ci 1)) .b, .G p54 true p59 (.pick q56 (cb true) q58) .b]) p59 .b, .P p60 (.pick q54 q59 (cb false)) .b]) p60 .b, .mv p61 q60 .b, .ge p61 (XL.of [.G p61 true p62 (.mov q11) tW, .G p61 true p63 (.mov q13) tW, .G p61 true p64 (.bin .eql q62 q63) .b, .P p65 (.pick q61 q64 (cb false)) .b]) p65 .b, .mv p66 q65 .b, .ge p66 (XL.of [.G p66 true p67 (.mov q12) tI, .G p66 true p68 (.bin .eql q67 (ci 0)) .b, .G p66 true p69 (.mov q14) .b, .G p66 true p70 (.eqb false q68 q69) .b, .P p71 (.pick q66 q70 (cb false)) .b]) p71 .b, .mv p72 q71 .b, .ge p72 (XL.of [.G p72 true p73 (.mov q14) .b, .G p72 true p74 (.mov q73) .b, .ge p74 (XL.of [.G p74 false p75 (.mov q12) tI, .G p74 false p76 (.bin .eql q75 (ci 1)) .b, .G p72 true p77 (.pick q74 (cb true) q76) .b]) p77 .b, .P p78 (.pick q72 q77 (cb false)) .b]) p78 .b, .mv p6 q78 .b] (.s .ret))))))))
def x3 : XFn := ⟨[tI, (.i .u64), (.i .u64)], false, [(.tmp p6)], c3_e⟩
def e3_0 (k t0 t1 t2 h) := kN k [(p0, (vI t0)), (p1, (AV.int .u64 t1)), (p2, (AV.int .u64 t2))] h
def S3_0 (D : CallD) (m : Nat) (t0 t1 t2 : Int) (h : HP) : Res2 :=
 cal D 10 [] h fun t15 h1 =>
 asB t15 fun t15a =>
 let t16 := !t15a
 br t16 (
 some (.ret (vB false) h1, .no)) (
 cal D 11 [(vI t0), (AV.int .u64 t1), (AV.int .u64 t2)] h1 fun t21 h2 =>
 extC t21 0 fun vt22 => asI .u64 vt22 fun t22 =>
 extC t21 1 fun vt23 => asI .i64 vt23 fun t23 =>
 cal D 12 [(vI t0), (AV.int .u64 t1), (AV.int .u64 t2)] h2 fun t28 h3 =>
 extC t28 0 fun vt29 => asI .u64 vt29 fun t29 =>
 extC t28 1 fun vt30 => asB vt30 fun t30 =>
 cal D 13 [(vI t0), (AV.int .u64 t1), (AV.int .u64 t2)] h3 fun t35 h4 =>
 extC t35 0 fun vt36 => asI .u32 vt36 fun t36 =>
 extC t35 1 fun vt37 => asI .i64 vt37 fun t37 =>
 cal D 14 [(vI t0), (AV.int .u64 t1), (AV.int .u64 t2)] h4 fun t42 h5 =>
 extC t42 0 fun vt43 => asI .u32 vt43 fun t43 =>
 extC t42 1 fun vt44 => asB vt44 fun t44 =>
 let t47 := eqQ t22 t29
 obB (brV t47 (
 let t50 := eqQ t23 (Int.ofNat 0)
 let t52 := ((t50 == t30) != false)
 some (vB t52)) (
 some (vB false))) fun t53 =>
 obB (brV t53 (
 obBV (brV t30 (
 some (vB true)) (
 let t58 := eqQ t23 (Int.ofNat 1)
 some (vB t58))) fun t59 =>
 some (vB t59)) (
 some (vB false))) fun t60 =>
 obB (brV t60 (
 binCV .eql (vW t36) (vW t43) fun vt64 => asBV vt64 fun t64 =>
 some (vB t64)) (
 some (vB false))) fun t65 =>
 obB (brV t65 (
 let t68 := eqQ t37 (Int.ofNat 0)
 let t70 := ((t68 == t44) != false)
 some (vB t70)) (
 some (vB false))) fun t71 =>
 obB (brV t71 (
 obBV (brV t44 (
 some (vB true)) (
 let t76 := eqQ t37 (Int.ofNat 1)
 some (vB t76))) fun t77 =>
 some (vB t77)) (
 some (vB false))) fun t78 =>
 some (.ret (vB t78) h5, .no))
def S3 : SFn := fun D m args h u => nou u <| popI .i64 args fun t0 args => popI .u64 args fun t1 args => popI .u64 args fun t2 args => endA args (S3_0 D m t0 t1 t2 h)
theorem T3_0 (hE : FX x3 D m E) : S3_0 D m = e3_0 (E c3_e []) := by unfold S3_0; rw [hE c3_e]; kernel_rfl
theorem X3 : XTie S3 x3 := X_of fun D m E hE args h u => by unfold S3; rw [T3_0 hE]; kernel_rfl
/- 10 -/
def c10_1 : XC := (.s .ret)
def l10_0 : XL := (XL.of [.mv p0 q30 .b])
def c10_e : XC := (.sO [.mv p0 (cb false) .b] (.sO [.cl p6 27 [(.c (.str [49, 46, 53, 101, 49]))] .v, .mv p5 q6 .v, .P p7 (.ext q5 0) (.i .u64), .P p8 (.ext q5 1) tI, .mv p1 q7 (.i .u64), .mv p2 q8 tI] (.sO [.cl p10 11 [(ci 48), (.c (.int .u64 (.ofNat 0))), (.c (.int .u64 (.ofNat 0)))] .v, .mv p9 q10 .v, .P p11 (.ext q9 0) (.i .u64), .P p12 (.ext q9 1) tI, .mv p3 q11 (.i .u64), .mv p4 q12 tI] (.opq false (XL.pre [.mv p13 q2 tI, .bn p14 .eql q13 (ci 0) .b, .mv p15 q14 .b, .ge p15 (XL.of [.G p15 true p16 (.mov q1) (.i .u64), .G p15 true p17 (.bin .eql q16 (.c (.int .u64 (.ofNat 4624633867356078080)))) .b, .P p18 (.pick q15 q17 (cb false)) .b]) p18 .b, .mv p19 q18 .b, .ge p19 (XL.of [.G p19 true p20 (.mov q4) tI, .G p19 true p21 (.bin .eql q20 (ci 0)) .b, .P p22 (.pick q19 q21 (cb false)) .b]) p22 .b, .mv p23 q22 .b, .ge p23 (XL.of [.G p23 true p24 (.mov q3) (.i .u64), .G p23 true p25 (.bin .eql q24 (.c (.int .u64 (.ofNat 9221120237041090560)))) .b, .P p26 (.pick q23 q25 (cb false)) .b]) p26 .b, .mv p27 q26 .b, .sp p27, .o ⟨(some p28), (.call (.fn 22) [(.c (.int .u64 (.ofNat 18442240474082181120)))]), (some (p27, true)), []⟩ tW, .G p27 true p29 (.bin .eql q28 (.c (.int .u32 (.ofNat 2147483648)))) .b, .P p30 (.pick q27 q29 (cb false)) .b, .jn p27 [p30]] l10_0) c10_1))))
def x10 : XFn := ⟨[], false, [(.tmp p0)], c10_e⟩
def e10_0 (k t30 h) := kN k [(p30, (vB t30))] h
def S10_0 (D : CallD) (m : Nat) (t30 : Bool) (h : HP) : Res2 :=
 some (.ret (vB t30) h, .no)
def e10_2 (k h) := kN k [] h
def S10_2 (D : CallD) (m : Nat) (h : HP) : Res2 :=
 cal D 27 [(vS ([49, 46, 53, 101, 49] : LN))] h fun t6 h3 =>
 extC t6 0 fun vt7 => asI .u64 vt7 fun t7 =>
 extC t6 1 fun vt8 => asI .i64 vt8 fun t8 =>
 cal D 11 [(vI (Int.ofNat 48)), (AV.int .u64 (Int.ofNat 0)), (AV.int .u64 (Int.ofNat 0))] h3 fun t10 h4 =>
 extC t10 0 fun vt11 => asI .u64 vt11 fun t11 =>
 extC t10 1 fun vt12 => asI .i64 vt12 fun t12 =>
 let t14 := eqQ t8 (Int.ofNat 0)
 obB (brV t14 (
 let t17 := eqQ t7 (Int.ofNat 4624633867356078080)
 some (vB t17)) (
 some (vB false))) fun t18 =>
 obB (brV t18 (
 let t21 := eqQ t12 (Int.ofNat 0)
 some (vB t21)) (
 some (vB false))) fun t22 =>
 obB (brV t22 (
 let t25 := eqQ t11 (Int.ofNat 9221120237041090560)
 some (vB t25)) (
 some (vB false))) fun t26 =>
 br t26 (
 cal D 22 [(AV.int .u64 (Int.ofNat 18442240474082181120))] h4 fun t28 h5 =>
 asI .u32 t28 fun t28a =>
 binC .eql (vW t28a) (vW (Int.ofNat 2147483648)) fun vt29 => asB vt29 fun t29 =>
 S10_0 D m t29 h5) (
 S10_0 D m false h4)
def S10 : SFn := fun D m args h u => nou u <| endA args (S10_2 D m h)
theorem T10_0 (hE : FX x10 D m E) : S10_0 D m = e10_0 (E (.opq false l10_0 c10_1) []) := by unfold S10_0; rw [hE (.opq false l10_0 c10_1)]; kernel_rfl
theorem T10_2 (hE : FX x10 D m E) : S10_2 D m = e10_2 (E c10_e []) := by unfold S10_2; rw [T10_0 hE, hE c10_e]; kernel_rfl
theorem X10 : XTie S10 x10 := X_of fun D m E hE args h u => by unfold S10; rw [T10_2 hE]; kernel_rfl
/- 11 -/
def c11_e : XC := (.sO [.mv p6 (.c (.int .u64 (.ofNat 0))) (.i .u64), .mv p7 (ci 0) tI] (.sO [.mv p10 q1 (.i .u64), .cl p11 31 [q10] .v, .mv p12 q2 (.i .u64), .cl p13 31 [q12] .v, .mv p8 q11 .v, .mv p9 q13 .v] (.seq (.seq (.oX [.mv p14 q0 tI]) (.block 0 (.seq (.oX [.bn p16 .eql q14 (ci 45) .b, .mv p15 q16 .b]) (.cond q15 (.seq (.oX [.mv p17 q8 .v, .mv p18 q9 .v, .bn p19 .add q17 q18 .v, .cl p20 32 [q19] (.i .u64), .mv p6 q20 (.i .u64), .mv p7 (ci 0) tI]) .ret) (.seq (.oX [.bn p22 .eql q14 (ci 46) .b, .mv p21 q22 .b]) (.cond q21 (.seq (.oX [.mv p23 q8 .v, .mv p24 q9 .v, .bn p25 .sub q23 q24 .v, .cl p26 32 [q25] (.i .u64), .mv p6 q26 (.i .u64), .mv p7 (ci 0) tI]) .ret) (.seq (.oX [.bn p28 .eql q14 (ci 47) .b, .mv p27 q28 .b]) (.cond q27 (.seq (.oX [.mv p29 q8 .v, .mv p30 q9 .v, .bn p31 .mul q29 q30 .v, .cl p32 32 [q31] (.i .u64), .mv p6 q32 (.i .u64), .mv p7 (ci 0) tI]) .ret) (.seq (.oX [.bn p34 .eql q14 (ci 48) .b, .mv p33 q34 .b]) (.cond q33 (.seq (.oX [.mv p35 q8 .v, .mv p36 q9 .v, .bn p37 .quo q35 q36 .v, .cl p38 32 [q37] (.i .u64), .mv p6 q38 (.i .u64), .mv p7 (ci 0) tI]) .ret) .skip)))))))))) (.sO [.mv p6 (.c (.int .u64 (.ofNat 0))) (.i .u64), .mv p7 (ci 1) tI] (.s .ret)))))
def x11 : XFn := ⟨[tI, (.i .u64), (.i .u64)], false, [(.tmp p6), (.tmp p7)], c11_e⟩
def e11_0 (k t0 t1 t2 h) := kN k [(p0, (vI t0)), (p1, (AV.int .u64 t1)), (p2, (AV.int .u64 t2))] h
def S11_0 (D : CallD) (m : Nat) (t0 t1 t2 : Int) (h : HP) : Res2 :=
 cal D 31 [(AV.int .u64 t1)] h fun t11 h1 =>
 cal D 31 [(AV.int .u64 t2)] h1 fun t13 h2 =>
 let t16 := eqQ t0 (Int.ofNat 45)
 br t16 (
 binC .add t11 t13 fun t19 =>
 cal D 32 [t19] h2 fun t20 h3 =>
 asI .u64 t20 fun t20a =>
 some (.ret (.tup [(AV.int .u64 t20a), (vI (Int.ofNat 0))]) h3, .no)) (
 let t22 := eqQ t0 (Int.ofNat 46)
 br t22 (
 binC .sub t11 t13 fun t25 =>
 cal D 32 [t25] h2 fun t26 h4 =>
 asI .u64 t26 fun t26a =>
 some (.ret (.tup [(AV.int .u64 t26a), (vI (Int.ofNat 0))]) h4, .no)) (
 let t28 := eqQ t0 (Int.ofNat 47)
 br t28 (
 binC .mul t11 t13 fun t31 =>
 cal D 32 [t31] h2 fun t32 h5 =>
 asI .u64 t32 fun t32a =>
 some (.ret (.tup [(AV.int .u64 t32a), (vI (Int.ofNat 0))]) h5, .no)) (
 let t34 := eqQ t0 (Int.ofNat 48)
 br t34 (
 binC .quo t11 t13 fun t37 =>
 cal D 32 [t37] h2 fun t38 h6 =>
 asI .u64 t38 fun t38a =>
 some (.ret (.tup [(AV.int .u64 t38a), (vI (Int.ofNat 0))]) h6, .no)) (
 some (.ret (.tup [(AV.int .u64 (Int.ofNat 0)), (vI (Int.ofNat 1))]) h2, .no)))))
def S11 : SFn := fun D m args h u => nou u <| popI .i64 args fun t0 args => popI .u64 args fun t1 args => popI .u64 args fun t2 args => endA args (S11_0 D m t0 t1 t2 h)
theorem T11_0 (hE : FX x11 D m E) : S11_0 D m = e11_0 (E c11_e []) := by unfold S11_0; rw [hE c11_e]; kernel_rfl
theorem X11 : XTie S11 x11 := X_of fun D m E hE args h u => by unfold S11; rw [T11_0 hE]; kernel_rfl
/- 12 -/
def v12_1 : List Pos := [p0, p1, p2, p14]
def c12_1 : XC := (.sO [.mv p190 q1 (.i .u64), .cl p191 37 [q190] .v, .mv p189 q191 .v, .P p192 (.ext q189 0) tI, .P p193 (.ext q189 1) tI, .mv p19 q192 tI, .mv p20 q193 tI] (.sO [.mv p195 q2 (.i .u64), .cl p196 37 [q195] .v, .mv p194 q196 .v, .P p197 (.ext q194 0) tI, .P p198 (.ext q194 1) tI, .mv p21 q197 tI, .mv p22 q198 tI] (.seq (.seq (.oX [.mv p199 q0 tI, .bn p200 .eql q199 (ci 47) .b]) (.cond q200 (.seq (.oX [.mv p201 q14 (.i .u64), .mv p202 q19 tI, .cl p203 40 [q202] .v, .mv p204 q21 tI, .cl p205 40 [q204] .v, .cl p206 39 [q203, q205] .v, .cl p207 40 [(ci 1)] .v, .mv p208 q20 tI, .mv p209 q22 tI, .bn p210 .add q208 q209 tI, .cl p211 38 [q206, q207, q210] (.i .u64), .cl p212 36 [q201, q211] (.i .u64), .mv p6 q212 (.i .u64), .mv p7 (cb true) .b]) .ret) .skip)) (.sO [.mv p213 q14 (.i .u64), .mv p214 q19 tI, .cl p215 40 [q214] .v, .mv p216 q21 tI, .cl p217 40 [q216] .v, .mv p218 q20 tI, .mv p219 q22 tI, .bn p220 .sub q218 q219 tI, .cl p221 38 [q215, q217, q220] (.i .u64), .cl p222 36 [q213, q221] (.i .u64), .mv p6 q222 (.i .u64), .mv p7 (cb true) .b] (.s .ret)))))
def v12_3 : List Pos := [p0, p1, p2, p14, p18, p161]
def c12_3 : XC := (.cond q161 (.sO [.mv p179 q14 (.i .u64), .cl p180 36 [q179, (.c (.int .u64 (.ofNat 9218868437227405312)))] (.i .u64), .mv p6 q180 (.i .u64), .mv p7 (cb true) .b] (.s .ret)) (.sO [.mv p182 q0 tI, .bn p183 .eql q182 (ci 48) .b, .mv p184 q183 .b, .ge p184 (XL.of [.G p184 true p185 (.mov q18) .b, .P p186 (.pick q184 q185 (cb false)) .b]) p186 .b, .mv p181 q186 .b] (.cond q181 (.sO [.mv p187 q14 (.i .u64), .cl p188 36 [q187, (.c (.int .u64 (.ofNat 0)))] (.i .u64), .mv p6 q188 (.i .u64), .mv p7 (cb true) .b] (.s .ret)) (.s .skip))))
def v12_2 : List Pos := [p0, p1, p2, p8, p11, p14, p15, p16, p17, p18, p67]
def c12_2 : XC := (.cond q67 (.sO [.mv p6 (.c (.int .u64 (.ofNat 9221120237041090560))) (.i .u64), .mv p7 (cb true) .b] (.s .ret)) (.sO [.mv p114 q0 tI, .bn p115 .eql q114 (ci 45) .b, .mv p116 q115 .b, .ge p116 (XL.of [.G p116 true p117 (.mov q17) .b, .P p118 (.pick q116 q117 (cb false)) .b]) p118 .b, .mv p113 q118 .b] (.cond q113 (.sO [.mv p119 q1 (.i .u64), .mv p6 q119 (.i .u64), .mv p7 (cb true) .b] (.s .ret)) (.sO [.mv p121 q0 tI, .bn p122 .eql q121 (ci 45) .b, .mv p123 q122 .b, .ge p123 (XL.of [.G p123 true p124 (.mov q18) .b, .P p125 (.pick q123 q124 (cb false)) .b]) p125 .b, .mv p120 q125 .b] (.cond q120 (.sO [.mv p126 q2 (.i .u64), .mv p6 q126 (.i .u64), .mv p7 (cb true) .b] (.s .ret)) (.sO [.mv p128 q0 tI, .bn p129 .eql q128 (ci 45) .b, .mv p130 q129 .b, .ge p130 (XL.of [.G p130 true p131 (.mov q15) (.i .u64), .G p130 true p132 (.bin .eql q131 (.c (.int .u64 (.ofNat 0)))) .b, .P p133 (.pick q130 q132 (cb false)) .b]) p133 .b, .mv p134 q133 .b, .ge p134 (XL.of [.G p134 true p135 (.mov q16) (.i .u64), .G p134 true p136 (.bin .eql q135 (.c (.int .u64 (.ofNat 0)))) .b, .P p137 (.pick q134 q136 (cb false)) .b]) p137 .b, .mv p138 q137 .b, .ge p138 (XL.of [.G p138 true p139 (.mov q8) (.i .u64), .G p138 true p140 (.mov q11) (.i .u64), .G p138 true p141 (.bin .neq q139 q140) .b, .P p142 (.pick q138 q141 (cb false)) .b]) p142 .b, .mv p127 q142 .b] (.cond q127 (.sO [.mv p6 (.c (.int .u64 (.ofNat 0))) (.i .u64), .mv p7 (cb true) .b] (.s .ret)) (.sO [.mv p144 q0 tI, .bn p145 .eql q144 (ci 45) .b, .mv p146 q145 .b, .ge p146 (XL.of [.G p146 true p147 (.mov q15) (.i .u64), .G p146 true p148 (.bin .eql q147 (.c (.int .u64 (.ofNat 0)))) .b, .P p149 (.pick q146 q148 (cb false)) .b]) p149 .b, .mv p150 q149 .b, .ge p150 (XL.of [.G p150 true p151 (.mov q16) (.i .u64), .G p150 true p152 (.bin .eql q151 (.c (.int .u64 (.ofNat 0)))) .b, .P p153 (.pick q150 q152 (cb false)) .b]) p153 .b, .mv p143 q153 .b] (.cond q143 (.sO [.mv p154 q1 (.i .u64), .mv p6 q154 (.i .u64), .mv p7 (cb true) .b] (.s .ret)) (.sO [.mv p156 q0 tI, .bn p157 .eql q156 (ci 45) .b, .mv p155 q157 .b] (.cond q155 (.sO [.mv p158 q1 (.i .u64), .mv p159 q2 (.i .u64), .cl p160 35 [q158, q159] (.i .u64), .mv p6 q160 (.i .u64), .mv p7 (cb true) .b] (.s .ret)) (.sj v12_3 (.sO [.mv p162 q0 tI, .bn p163 .eql q162 (ci 47) .b, .mv p164 q163 .b, .ge p164 (XL.of [.G p164 true p165 (.mov q17) .b, .G p164 true p166 (.mov q165) .b, .ge p166 (XL.of [.G p166 false p167 (.mov q18) .b, .G p164 true p168 (.pick q166 (cb true) q167) .b]) p168 .b, .P p169 (.pick q164 q168 (cb false)) .b]) p169 .b, .mv p161 q169 .b] (.cond q161 (.s .skip) (.s (.oX [.mv p170 q0 tI, .bn p171 .eql q170 (ci 48) .b, .mv p172 q171 .b, .ge p172 (XL.of [.G p172 true p173 (.mov q17) .b, .G p172 true p174 (.mov q173) .b, .ge p174 (XL.of [.G p174 false p175 (.mov q16) (.i .u64), .G p174 false p176 (.bin .eql q175 (.c (.int .u64 (.ofNat 0)))) .b, .G p172 true p177 (.pick q174 (cb true) q176) .b]) p177 .b, .P p178 (.pick q172 q177 (cb false)) .b]) p178 .b, .mv p161 q178 .b])))) c12_3))))))))))))
def v12_0 : List Pos := [p0, p1, p2, p8, p9, p11, p12, p14, p15, p16]
def c12_0 : XC := (.seq (.seq (.oX [.mv p55 q0 tI, .bn p56 .eql q55 (ci 46) .b]) (.cond q56 (.seq (.oX [.mv p57 q1 (.i .u64), .mv p58 q2 (.i .u64), .cl p59 21 [q58] (.i .u64), .cl p60 12 [(ci 45), q57, q59] .v, .P p61 (.ext q60 0) (.i .u64), .P p62 (.ext q60 1) .b, .mv p6 q61 (.i .u64), .mv p7 q62 .b]) .ret) .skip)) (.sO [.mv p63 q9 (.i .u64), .bn p64 .eql q63 (.c (.int .u64 (.ofNat 2047))) .b, .mv p65 q12 (.i .u64), .bn p66 .eql q65 (.c (.int .u64 (.ofNat 2047))) .b, .mv p17 q64 .b, .mv p18 q66 .b] (.sj v12_1 (.block 0 (.sj v12_2 (.sO [.mv p68 q0 tI, .bn p69 .eql q68 (ci 45) .b, .mv p70 q69 .b, .ge p70 (XL.of [.G p70 true p71 (.mov q17) .b, .P p72 (.pick q70 q71 (cb false)) .b]) p72 .b, .mv p73 q72 .b, .ge p73 (XL.of [.G p73 true p74 (.mov q18) .b, .P p75 (.pick q73 q74 (cb false)) .b]) p75 .b, .mv p76 q75 .b, .ge p76 (XL.of [.G p76 true p77 (.mov q8) (.i .u64), .G p76 true p78 (.mov q11) (.i .u64), .G p76 true p79 (.bin .neq q77 q78) .b, .P p80 (.pick q76 q79 (cb false)) .b]) p80 .b, .mv p67 q80 .b] (.cond q67 (.s .skip) (.sO [.mv p81 q0 tI, .bn p82 .eql q81 (ci 47) .b, .mv p83 q82 .b, .ge p83 (XL.of [.G p83 true p84 (.mov q17) .b, .G p83 true p85 (.mov q84) .b, .ge p85 (XL.of [.G p85 true p86 (.mov q16) (.i .u64), .G p85 true p87 (.bin .eql q86 (.c (.int .u64 (.ofNat 0)))) .b, .G p83 true p88 (.pick q85 q87 (cb false)) .b]) p88 .b, .G p83 true p89 (.mov q88) .b, .ge p89 (XL.of [.G p89 false p90 (.mov q18) .b, .G p89 false p91 (.mov q90) .b, .ge p91 (XL.of [.G p91 true p92 (.mov q15) (.i .u64), .G p91 true p93 (.bin .eql q92 (.c (.int .u64 (.ofNat 0)))) .b, .G p89 false p94 (.pick q91 q93 (cb false)) .b]) p94 .b, .G p83 true p95 (.pick q89 (cb true) q94) .b]) p95 .b, .P p96 (.pick q83 q95 (cb false)) .b]) p96 .b, .mv p67 q96 .b] (.cond q67 (.s .skip) (.s (.oX [.mv p97 q0 tI, .bn p98 .eql q97 (ci 48) .b, .mv p99 q98 .b, .ge p99 (XL.of [.G p99 true p100 (.mov q17) .b, .G p99 true p101 (.mov q100) .b, .ge p101 (XL.of [.G p101 true p102 (.mov q18) .b, .G p99 true p103 (.pick q101 q102 (cb false)) .b]) p103 .b, .G p99 true p104 (.mov q103) .b, .ge p104 (XL.of [.G p104 false p105 (.mov q15) (.i .u64), .G p104 false p106 (.bin .eql q105 (.c (.int .u64 (.ofNat 0)))) .b, .G p104 false p107 (.mov q106) .b, .ge p107 (XL.of [.G p107 true p108 (.mov q16) (.i .u64), .G p107 true p109 (.bin .eql q108 (.c (.int .u64 (.ofNat 0)))) .b, .G p104 false p110 (.pick q107 q109 (cb false)) .b]) p110 .b, .G p99 true p111 (.pick q104 (cb true) q110) .b]) p111 .b, .P p112 (.pick q99 q111 (cb false)) .b]) p112 .b, .mv p67 q112 .b])))))) c12_2)) c12_1)))
def c12_5 : XC := (.cond q54 (.sO [.mv p6 (.c (.int .u64 (.ofNat 9221120237041090560))) (.i .u64), .mv p7 (cb true) .b] (.s .ret)) (.s .skip))
def l12_4 : XL := (XL.of [])
def c12_e : XC := (.sO [.mv p6 (.c (.int .u64 (.ofNat 0))) (.i .u64), .mv p7 (cb false) .b] (.seq (.seq (.oX [.mv p23 q0 tI, .bn p24 .lss q23 (ci 45) .b, .mv p25 q24 .b, .ge p25 (XL.of [.G p25 false p26 (.mov q0) tI, .G p25 false p27 (.bin .gtr q26 (ci 48)) .b, .P p28 (.pick q25 (cb true) q27) .b]) p28 .b]) (.cond q28 (.seq (.oX [.mv p6 (.c (.int .u64 (.ofNat 0))) (.i .u64), .mv p7 (cb false) .b]) .ret) .skip)) (.sO [.mv p30 q1 (.i .u64), .cl p31 33 [q30] .v, .mv p29 q31 .v, .P p32 (.ext q29 0) (.i .u64), .P p33 (.ext q29 1) (.i .u64), .P p34 (.ext q29 2) (.i .u64), .mv p8 q32 (.i .u64), .mv p9 q33 (.i .u64), .mv p10 q34 (.i .u64)] (.sO [.mv p36 q2 (.i .u64), .cl p37 33 [q36] .v, .mv p35 q37 .v, .P p38 (.ext q35 0) (.i .u64), .P p39 (.ext q35 1) (.i .u64), .P p40 (.ext q35 2) (.i .u64), .mv p11 q38 (.i .u64), .mv p12 q39 (.i .u64), .mv p13 q40 (.i .u64)] (.sO [.mv p41 q8 (.i .u64), .mv p42 q11 (.i .u64), .bn p43 .add q41 q42 (.i .u64), .bn p44 .rem q43 (.c (.int .u64 (.ofNat 2))) (.i .u64), .mv p14 q44 (.i .u64)] (.sO [.mv p45 q1 (.i .u64), .bn p46 .rem q45 (.c (.int .u64 (.ofNat 9223372036854775808))) (.i .u64), .mv p47 q2 (.i .u64), .bn p48 .rem q47 (.c (.int .u64 (.ofNat 9223372036854775808))) (.i .u64), .mv p15 q46 (.i .u64), .mv p16 q48 (.i .u64)] (.sj v12_0 (.opq false (XL.pre [.mv p49 q1 (.i .u64), .cl p50 34 [q49] .b, .mv p51 q50 .b, .sp p51, .G p51 false p52 (.mov q2) (.i .u64), .o ⟨(some p53), (.call (.fn 34) [q52]), (some (p51, false)), []⟩ .b, .P p54 (.pick q51 (cb true) q53) .b, .jn p51 [p0, p1, p2, p8, p9, p11, p12, p14, p15, p16, p54]] l12_4) c12_5) c12_0)))))))
def x12 : XFn := ⟨[tI, (.i .u64), (.i .u64)], false, [(.tmp p6), (.tmp p7)], c12_e⟩
def e12_1 (k t0 t1 t2 t14 h) := kN k [(p0, (vI t0)), (p1, (AV.int .u64 t1)), (p2, (AV.int .u64 t2)), (p14, (AV.int .u64 t14))] h
def S12_1 (D : CallD) (m : Nat) (t0 t1 t2 t14 : Int) (h : HP) : Res2 :=
 cal D 37 [(AV.int .u64 t1)] h fun t191 h11 =>
 extC t191 0 fun vt192 => asI .i64 vt192 fun t192 =>
 extC t191 1 fun vt193 => asI .i64 vt193 fun t193 =>
 cal D 37 [(AV.int .u64 t2)] h11 fun t196 h12 =>
 extC t196 0 fun vt197 => asI .i64 vt197 fun t197 =>
 extC t196 1 fun vt198 => asI .i64 vt198 fun t198 =>
 let t200 := eqQ t0 (Int.ofNat 47)
 br t200 (
 cal D 40 [(vI t192)] h12 fun t203 h13 =>
 cal D 40 [(vI t197)] h13 fun t205 h14 =>
 cal D 39 [t203, t205] h14 fun t206 h15 =>
 cal D 40 [(vI (Int.ofNat 1))] h15 fun t207 h16 =>
 let t210 := wrQ .i64 (addQ t193 t198)
 cal D 38 [t206, t207, (vI t210)] h16 fun t211 h17 =>
 asI .u64 t211 fun t211a =>
 cal D 36 [(AV.int .u64 t14), (AV.int .u64 t211a)] h17 fun t212 h18 =>
 asI .u64 t212 fun t212a =>
 some (.ret (.tup [(AV.int .u64 t212a), (vB true)]) h18, .no)) (
 cal D 40 [(vI t192)] h12 fun t215 h19 =>
 cal D 40 [(vI t197)] h19 fun t217 h20 =>
 let t220 := wrQ .i64 (t193 - t198)
 cal D 38 [t215, t217, (vI t220)] h20 fun t221 h21 =>
 asI .u64 t221 fun t221a =>
 cal D 36 [(AV.int .u64 t14), (AV.int .u64 t221a)] h21 fun t222 h22 =>
 asI .u64 t222 fun t222a =>
 some (.ret (.tup [(AV.int .u64 t222a), (vB true)]) h22, .no))
def e12_3 (k t0 t1 t2 t14 t18 t161 h) := kN k [(p0, (vI t0)), (p1, (AV.int .u64 t1)), (p2, (AV.int .u64 t2)), (p14, (AV.int .u64 t14)), (p18, (vB t18)), (p161, (vB t161))] h
def S12_3 (D : CallD) (m : Nat) (t0 t1 t2 t14 : Int) (t18 t161 : Bool) (h : HP) : Res2 :=
 br t161 (
 cal D 36 [(AV.int .u64 t14), (AV.int .u64 (Int.ofNat 9218868437227405312))] h fun t180 h24 =>
 asI .u64 t180 fun t180a =>
 some (.ret (.tup [(AV.int .u64 t180a), (vB true)]) h24, .no)) (
 let t183 := eqQ t0 (Int.ofNat 48)
 obB (brV t183 (
 some (vB t18)) (
 some (vB false))) fun t186 =>
 br t186 (
 cal D 36 [(AV.int .u64 t14), (AV.int .u64 (Int.ofNat 0))] h fun t188 h25 =>
 asI .u64 t188 fun t188a =>
 some (.ret (.tup [(AV.int .u64 t188a), (vB true)]) h25, .no)) (
 S12_1 D m t0 t1 t2 t14 h))
def e12_2 (k t0 t1 t2 t8 t11 t14 t15 t16 t17 t18 t67 h) := kN k [(p0, (vI t0)), (p1, (AV.int .u64 t1)), (p2, (AV.int .u64 t2)), (p8, (AV.int .u64 t8)), (p11, (AV.int .u64 t11)), (p14, (AV.int .u64 t14)), (p15, (AV.int .u64 t15)), (p16, (AV.int .u64 t16)), (p17, (vB t17)), (p18, (vB t18)), (p67, (vB t67))] h
def S12_2 (D : CallD) (m : Nat) (t0 t1 t2 t8 t11 t14 t15 t16 : Int) (t17 t18 t67 : Bool) (h : HP) : Res2 :=
 br t67 (
 some (.ret (.tup [(AV.int .u64 (Int.ofNat 9221120237041090560)), (vB true)]) h, .no)) (
 let t115 := eqQ t0 (Int.ofNat 45)
 obB (brV t115 (
 some (vB t17)) (
 some (vB false))) fun t118 =>
 br t118 (
 some (.ret (.tup [(AV.int .u64 t1), (vB true)]) h, .no)) (
 let t122 := eqQ t0 (Int.ofNat 45)
 obB (brV t122 (
 some (vB t18)) (
 some (vB false))) fun t125 =>
 br t125 (
 some (.ret (.tup [(AV.int .u64 t2), (vB true)]) h, .no)) (
 let t129 := eqQ t0 (Int.ofNat 45)
 obB (brV t129 (
 let t132 := eqQ t15 (Int.ofNat 0)
 some (vB t132)) (
 some (vB false))) fun t133 =>
 obB (brV t133 (
 let t136 := eqQ t16 (Int.ofNat 0)
 some (vB t136)) (
 some (vB false))) fun t137 =>
 obB (brV t137 (
 let t141 := notQ (eqQ t8 t11)
 some (vB t141)) (
 some (vB false))) fun t142 =>
 br t142 (
 some (.ret (.tup [(AV.int .u64 (Int.ofNat 0)), (vB true)]) h, .no)) (
 let t145 := eqQ t0 (Int.ofNat 45)
 obB (brV t145 (
 let t148 := eqQ t15 (Int.ofNat 0)
 some (vB t148)) (
 some (vB false))) fun t149 =>
 obB (brV t149 (
 let t152 := eqQ t16 (Int.ofNat 0)
 some (vB t152)) (
 some (vB false))) fun t153 =>
 br t153 (
 some (.ret (.tup [(AV.int .u64 t1), (vB true)]) h, .no)) (
 let t157 := eqQ t0 (Int.ofNat 45)
 br t157 (
 cal D 35 [(AV.int .u64 t1), (AV.int .u64 t2)] h fun t160 h23 =>
 asI .u64 t160 fun t160a =>
 some (.ret (.tup [(AV.int .u64 t160a), (vB true)]) h23, .no)) (
 let t163 := eqQ t0 (Int.ofNat 47)
 obB (brV t163 (
 obBV (brV t17 (
 some (vB true)) (
 some (vB t18))) fun t168 =>
 some (vB t168)) (
 some (vB false))) fun t169 =>
 br t169 (
 S12_3 D m t0 t1 t2 t14 t18 t169 h) (
 let t171 := eqQ t0 (Int.ofNat 48)
 obB (brV t171 (
 obBV (brV t17 (
 some (vB true)) (
 let t176 := eqQ t16 (Int.ofNat 0)
 some (vB t176))) fun t177 =>
 some (vB t177)) (
 some (vB false))) fun t178 =>
 S12_3 D m t0 t1 t2 t14 t18 t178 h)))))))
def e12_0 (k t0 t1 t2 t8 t9 t11 t12 t14 t15 t16 h) := kN k [(p0, (vI t0)), (p1, (AV.int .u64 t1)), (p2, (AV.int .u64 t2)), (p8, (AV.int .u64 t8)), (p9, (AV.int .u64 t9)), (p11, (AV.int .u64 t11)), (p12, (AV.int .u64 t12)), (p14, (AV.int .u64 t14)), (p15, (AV.int .u64 t15)), (p16, (AV.int .u64 t16))] h
def S12_0 (D : CallD) (m : Nat) (t0 t1 t2 t8 t9 t11 t12 t14 t15 t16 : Int) (h : HP) : Res2 :=
 let t56 := eqQ t0 (Int.ofNat 46)
 br t56 (
 cal D 21 [(AV.int .u64 t2)] h fun t59 h9 =>
 asI .u64 t59 fun t59a =>
 cal D 12 [(vI (Int.ofNat 45)), (AV.int .u64 t1), (AV.int .u64 t59a)] h9 fun t60 h10 =>
 extC t60 0 fun vt61 => asI .u64 vt61 fun t61 =>
 extC t60 1 fun vt62 => asB vt62 fun t62 =>
 some (.ret (.tup [(AV.int .u64 t61), (vB t62)]) h10, .no)) (
 let t64 := eqQ t9 (Int.ofNat 2047)
 let t66 := eqQ t12 (Int.ofNat 2047)
 let t69 := eqQ t0 (Int.ofNat 45)
 obB (brV t69 (
 some (vB t64)) (
 some (vB false))) fun t72 =>
 obB (brV t72 (
 some (vB t66)) (
 some (vB false))) fun t75 =>
 obB (brV t75 (
 let t79 := notQ (eqQ t8 t11)
 some (vB t79)) (
 some (vB false))) fun t80 =>
 br t80 (
 S12_2 D m t0 t1 t2 t8 t11 t14 t15 t16 t64 t66 t80 h) (
 let t82 := eqQ t0 (Int.ofNat 47)
 obB (brV t82 (
 obBV (brV t64 (
 let t87 := eqQ t16 (Int.ofNat 0)
 some (vB t87)) (
 some (vB false))) fun t88 =>
 obBV (brV t88 (
 some (vB true)) (
 obBV (brV t66 (
 let t93 := eqQ t15 (Int.ofNat 0)
 some (vB t93)) (
 some (vB false))) fun t94 =>
 some (vB t94))) fun t95 =>
 some (vB t95)) (
 some (vB false))) fun t96 =>
 br t96 (
 S12_2 D m t0 t1 t2 t8 t11 t14 t15 t16 t64 t66 t96 h) (
 let t98 := eqQ t0 (Int.ofNat 48)
 obB (brV t98 (
 obBV (brV t64 (
 some (vB t66)) (
 some (vB false))) fun t103 =>
 obBV (brV t103 (
 some (vB true)) (
 let t106 := eqQ t15 (Int.ofNat 0)
 obBV (brV t106 (
 let t109 := eqQ t16 (Int.ofNat 0)
 some (vB t109)) (
 some (vB false))) fun t110 =>
 some (vB t110))) fun t111 =>
 some (vB t111)) (
 some (vB false))) fun t112 =>
 S12_2 D m t0 t1 t2 t8 t11 t14 t15 t16 t64 t66 t112 h)))
def e12_4 (k t0 t1 t2 t8 t9 t11 t12 t14 t15 t16 t54 h) := kN k [(p0, (vI t0)), (p1, (AV.int .u64 t1)), (p2, (AV.int .u64 t2)), (p8, (AV.int .u64 t8)), (p9, (AV.int .u64 t9)), (p11, (AV.int .u64 t11)), (p12, (AV.int .u64 t12)), (p14, (AV.int .u64 t14)), (p15, (AV.int .u64 t15)), (p16, (AV.int .u64 t16)), (p54, (vB t54))] h
def S12_4 (D : CallD) (m : Nat) (t0 t1 t2 t8 t9 t11 t12 t14 t15 t16 : Int) (t54 : Bool) (h : HP) : Res2 :=
 br t54 (
 some (.ret (.tup [(AV.int .u64 (Int.ofNat 9221120237041090560)), (vB true)]) h, .no)) (
 S12_0 D m t0 t1 t2 t8 t9 t11 t12 t14 t15 t16 h)
def e12_6 (k t0 t1 t2 h) := kN k [(p0, (vI t0)), (p1, (AV.int .u64 t1)), (p2, (AV.int .u64 t2))] h
def S12_6 (D : CallD) (m : Nat) (t0 t1 t2 : Int) (h : HP) : Res2 :=
 let t24 := ltQ t0 (Int.ofNat 45)
 obB (brV t24 (
 some (vB true)) (
 let t27 := ltQ (Int.ofNat 48) t0
 some (vB t27))) fun t28 =>
 br t28 (
 some (.ret (.tup [(AV.int .u64 (Int.ofNat 0)), (vB false)]) h, .no)) (
 cal D 33 [(AV.int .u64 t1)] h fun t31 h7 =>
 extC t31 0 fun vt32 => asI .u64 vt32 fun t32 =>
 extC t31 1 fun vt33 => asI .u64 vt33 fun t33 =>
 extC t31 2 fun vt34 => asI .u64 vt34 fun t34 =>
 cal D 33 [(AV.int .u64 t2)] h7 fun t37 h8 =>
 extC t37 0 fun vt38 => asI .u64 vt38 fun t38 =>
 extC t37 1 fun vt39 => asI .u64 vt39 fun t39 =>
 extC t37 2 fun vt40 => asI .u64 vt40 fun t40 =>
 let t43 := wrQ .u64 (addQ t32 t38)
 let t44 := Int.tmod t43 (Int.ofNat 2)
 let t46 := Int.tmod t1 (Int.ofNat 9223372036854775808)
 let t48 := Int.tmod t2 (Int.ofNat 9223372036854775808)
 cal D 34 [(AV.int .u64 t1)] h8 fun t50 h26 =>
 asB t50 fun t50a =>
 br t50a (
 S12_4 D m t0 t1 t2 t32 t33 t38 t39 t44 t46 t48 true h26) (
 cal D 34 [(AV.int .u64 t2)] h26 fun t53 h27 =>
 asB t53 fun t53a =>
 S12_4 D m t0 t1 t2 t32 t33 t38 t39 t44 t46 t48 t53a h27))
def S12 : SFn := fun D m args h u => nou u <| popI .i64 args fun t0 args => popI .u64 args fun t1 args => popI .u64 args fun t2 args => endA args (S12_6 D m t0 t1 t2 h)
theorem T12_1 (hE : FX x12 D m E) : S12_1 D m = e12_1 (E c12_1 []) := by unfold S12_1; rw [hE c12_1]; kernel_rfl
theorem T12_3 (hE : FX x12 D m E) : S12_3 D m = e12_3 (E c12_3 [.blk 0, .sj v12_1 c12_1]) := by unfold S12_3; rw [T12_1 hE, hE c12_3]; kernel_rfl
theorem T12_2 (hE : FX x12 D m E) : S12_2 D m = e12_2 (E c12_2 [.blk 0, .sj v12_1 c12_1]) := by unfold S12_2; rw [T12_3 hE, hE c12_2]; kernel_rfl
theorem T12_0 (hE : FX x12 D m E) : S12_0 D m = e12_0 (E c12_0 []) := by unfold S12_0; rw [T12_2 hE, hE c12_0]; kernel_rfl
theorem T12_4 (hE : FX x12 D m E) : S12_4 D m = e12_4 (E (.opq false l12_4 c12_5) [.sj v12_0 c12_0]) := by unfold S12_4; rw [T12_0 hE, hE (.opq false l12_4 c12_5)]; kernel_rfl
theorem T12_6 (hE : FX x12 D m E) : S12_6 D m = e12_6 (E c12_e []) := by unfold S12_6; rw [T12_4 hE, hE c12_e]; kernel_rfl
theorem X12 : XTie S12 x12 := X_of fun D m E hE args h u => by unfold S12; rw [T12_6 hE]; kernel_rfl
/- 13 -/
def v13_0 : List Pos := [p10]
def c13_0 : XC := (.seq (.seq (.oX [.mv p31 q10 .b]) (.cond q31 (.seq (.oX [.mv p6 (.c (.int .u32 (.ofNat 1))) tW, .mv p7 (ci 0) tI]) .ret) .skip)) (.sO [.mv p6 (.c (.int .u32 (.ofNat 0))) tW, .mv p7 (ci 0) tI] (.s .ret)))
def c13_e : XC := (.sO [.mv p6 (.c (.int .u32 (.ofNat 0))) tW, .mv p7 (ci 0) tI] (.sO [.mv p11 q1 (.i .u64), .cl p12 31 [q11] .v, .mv p13 q2 (.i .u64), .cl p14 31 [q13] .v, .mv p8 q12 .v, .mv p9 q14 .v] (.sO [.mv p10 (cb false) .b] (.sj v13_0 (.sO [.mv p15 q0 tI] (.block 0 (.sO [.bn p17 .eql q15 (ci 51) .b, .mv p16 q17 .b] (.cond q16 (.s (.oX [.mv p18 q8 .v, .mv p19 q9 .v, .bn p20 .eql q18 q19 .b, .mv p10 q20 .b])) (.sO [.bn p22 .eql q15 (ci 52) .b, .mv p21 q22 .b] (.cond q21 (.s (.oX [.mv p23 q8 .v, .mv p24 q9 .v, .bn p25 .lss q23 q24 .b, .mv p10 q25 .b])) (.sO [.bn p27 .eql q15 (ci 53) .b, .mv p26 q27 .b] (.cond q26 (.s (.oX [.mv p28 q8 .v, .mv p29 q9 .v, .bn p30 .leq q28 q29 .b, .mv p10 q30 .b])) (.sO [.mv p6 (.c (.int .u32 (.ofNat 0))) tW, .mv p7 (ci 1) tI] (.s .ret)))))))))) c13_0))))
def x13 : XFn := ⟨[tI, (.i .u64), (.i .u64)], false, [(.tmp p6), (.tmp p7)], c13_e⟩
def e13_0 (k t10 h) := kN k [(p10, (vB t10))] h
def S13_0 (D : CallD) (m : Nat) (t10 : Bool) (h : HP) : Res2 :=
 br t10 (
 some (.ret (.tup [(vW (Int.ofNat 1)), (vI (Int.ofNat 0))]) h, .no)) (
 some (.ret (.tup [(vW (Int.ofNat 0)), (vI (Int.ofNat 0))]) h, .no))
def e13_1 (k t0 t1 t2 h) := kN k [(p0, (vI t0)), (p1, (AV.int .u64 t1)), (p2, (AV.int .u64 t2))] h
def S13_1 (D : CallD) (m : Nat) (t0 t1 t2 : Int) (h : HP) : Res2 :=
 cal D 31 [(AV.int .u64 t1)] h fun t12 h2 =>
 cal D 31 [(AV.int .u64 t2)] h2 fun t14 h3 =>
 let t17 := eqQ t0 (Int.ofNat 51)
 br t17 (
 binC .eql t12 t14 fun vt20 => asB vt20 fun t20 =>
 S13_0 D m t20 h3) (
 let t22 := eqQ t0 (Int.ofNat 52)
 br t22 (
 binC .lss t12 t14 fun vt25 => asB vt25 fun t25 =>
 S13_0 D m t25 h3) (
 let t27 := eqQ t0 (Int.ofNat 53)
 br t27 (
 binC .leq t12 t14 fun vt30 => asB vt30 fun t30 =>
 S13_0 D m t30 h3) (
 some (.ret (.tup [(vW (Int.ofNat 0)), (vI (Int.ofNat 1))]) h3, .no))))
def S13 : SFn := fun D m args h u => nou u <| popI .i64 args fun t0 args => popI .u64 args fun t1 args => popI .u64 args fun t2 args => endA args (S13_1 D m t0 t1 t2 h)
theorem T13_0 (hE : FX x13 D m E) : S13_0 D m = e13_0 (E c13_0 []) := by unfold S13_0; rw [hE c13_0]; kernel_rfl
theorem T13_1 (hE : FX x13 D m E) : S13_1 D m = e13_1 (E c13_e []) := by unfold S13_1; rw [T13_0 hE, hE c13_e]; kernel_rfl
theorem X13 : XTie S13 x13 := X_of fun D m E hE args h u => by unfold S13; rw [T13_1 hE]; kernel_rfl
/- 14 -/
def v14_0 : List Pos := [p0, p1, p2]
def c14_0 : XC := (.sO [.mv p22 q1 (.i .u64), .cl p23 41 [q22] tI, .mv p24 q2 (.i .u64), .cl p25 41 [q24] tI, .mv p8 q23 tI, .mv p9 q25 tI] (.seq (.seq (.oX [.mv p26 q0 tI, .bn p27 .eql q26 (ci 51) .b, .mv p28 q27 .b, .ge p28 (XL.of [.G p28 true p29 (.mov q8) tI, .G p28 true p30 (.mov q9) tI, .G p28 true p31 (.bin .eql q29 q30) .b, .P p32 (.pick q28 q31 (cb false)) .b]) p32 .b, .mv p33 q32 .b, .ge p33 (XL.of [.G p33 false p34 (.mov q0) tI, .G p33 false p35 (.bin .eql q34 (ci 52)) .b, .G p33 false p36 (.mov q35) .b, .ge p36 (XL.of [.G p36 true p37 (.mov q8) tI, .G p36 true p38 (.mov q9) tI, .G p36 true p39 (.bin .lss q37 q38) .b, .G p33 false p40 (.pick q36 q39 (cb false)) .b]) p40 .b, .P p41 (.pick q33 (cb true) q40) .b]) p41 .b, .mv p42 q41 .b, .ge p42 (XL.of [.G p42 false p43 (.mov q0) tI, .G p42 false p44 (.bin .eql q43 (ci 53)) .b, .G p42 false p45 (.mov q44) .b, .ge p45 (XL.of [.G p45 true p46 (.mov q8) tI, .G p45 true p47 (.mov q9) tI, .G p45 true p48 (.bin .leq q46 q47) .b, .G p42 false p49 (.pick q45 q48 (cb false)) .b]) p49 .b, .P p50 (.pick q42 (cb true) q49) .b]) p50 .b]) (.cond q50 (.seq (.oX [.mv p6 (.c (.int .u32 (.ofNat 1))) tW, .mv p7 (cb true) .b]) .ret) .skip)) (.sO [.mv p6 (.c (.int .u32 (.ofNat 0))) tW, .mv p7 (cb true) .b] (.s .ret))))
def c14_2 : XC := (.cond q21 (.sO [.mv p6 (.c (.int .u32 (.ofNat 0))) tW, .mv p7 (cb true) .b] (.s .ret)) (.s .skip))
def l14_1 : XL := (XL.of [])
def c14_e : XC := (.sO [.mv p6 (.c (.int .u32 (.ofNat 0))) tW, .mv p7 (cb false) .b] (.seq (.seq (.oX [.mv p10 q0 tI, .bn p11 .lss q10 (ci 51) .b, .mv p12 q11 .b, .ge p12 (XL.of [.G p12 false p13 (.mov q0) tI, .G p12 false p14 (.bin .gtr q13 (ci 53)) .b, .P p15 (.pick q12 (cb true) q14) .b]) p15 .b]) (.cond q15 (.seq (.oX [.mv p6 (.c (.int .u32 (.ofNat 0))) tW, .mv p7 (cb false) .b]) .ret) .skip)) (.sj v14_0 (.opq false (XL.pre [.mv p16 q1 (.i .u64), .cl p17 34 [q16] .b, .mv p18 q17 .b, .sp p18, .G p18 false p19 (.mov q2) (.i .u64), .o ⟨(some p20), (.call (.fn 34) [q19]), (some (p18, false)), []⟩ .b, .P p21 (.pick q18 (cb true) q20) .b, .jn p18 [p0, p1, p2, p21]] l14_1) c14_2) c14_0)))
def x14 : XFn := ⟨[tI, (.i .u64), (.i .u64)], false, [(.tmp p6), (.tmp p7)], c14_e⟩
def e14_0 (k t0 t1 t2 h) := kN k [(p0, (vI t0)), (p1, (AV.int .u64 t1)), (p2, (AV.int .u64 t2))] h
def S14_0 (D : CallD) (m : Nat) (t0 t1 t2 : Int) (h : HP) : Res2 :=
 cal D 41 [(AV.int .u64 t1)] h fun t23 h4 =>
 asI .i64 t23 fun t23a =>
 cal D 41 [(AV.int .u64 t2)] h4 fun t25 h5 =>
 asI .i64 t25 fun t25a =>
 let t27 := eqQ t0 (Int.ofNat 51)
 obB (brV t27 (
 let t31 := eqQ t23a t25a
 some (vB t31)) (
 some (vB false))) fun t32 =>
 obB (brV t32 (
 some (vB true)) (
 let t35 := eqQ t0 (Int.ofNat 52)
 obBV (brV t35 (
 let t39 := ltQ t23a t25a
 some (vB t39)) (
 some (vB false))) fun t40 =>
 some (vB t40))) fun t41 =>
 obB (brV t41 (
 some (vB true)) (
 let t44 := eqQ t0 (Int.ofNat 53)
 obBV (brV t44 (
 let t48 := leQ t23a t25a
 some (vB t48)) (
 some (vB false))) fun t49 =>
 some (vB t49))) fun t50 =>
 br t50 (
 some (.ret (.tup [(vW (Int.ofNat 1)), (vB true)]) h5, .no)) (
 some (.ret (.tup [(vW (Int.ofNat 0)), (vB true)]) h5, .no))
def e14_1 (k t0 t1 t2 t21 h) := kN k [(p0, (vI t0)), (p1, (AV.int .u64 t1)), (p2, (AV.int .u64 t2)), (p21, (vB t21))] h
def S14_1 (D : CallD) (m : Nat) (t0 t1 t2 : Int) (t21 : Bool) (h : HP) : Res2 :=
 br t21 (
 some (.ret (.tup [(vW (Int.ofNat 0)), (vB true)]) h, .no)) (
 S14_0 D m t0 t1 t2 h)
def e14_3 (k t0 t1 t2 h) := kN k [(p0, (vI t0)), (p1, (AV.int .u64 t1)), (p2, (AV.int .u64 t2))] h
def S14_3 (D : CallD) (m : Nat) (t0 t1 t2 : Int) (h : HP) : Res2 :=
 let t11 := ltQ t0 (Int.ofNat 51)
 obB (brV t11 (
 some (vB true)) (
 let t14 := ltQ (Int.ofNat 53) t0
 some (vB t14))) fun t15 =>
 br t15 (
 some (.ret (.tup [(vW (Int.ofNat 0)), (vB false)]) h, .no)) (
 cal D 34 [(AV.int .u64 t1)] h fun t17 h6 =>
 asB t17 fun t17a =>
 br t17a (
 S14_1 D m t0 t1 t2 true h6) (
 cal D 34 [(AV.int .u64 t2)] h6 fun t20 h7 =>
 asB t20 fun t20a =>
 S14_1 D m t0 t1 t2 t20a h7))
def S14 : SFn := fun D m args h u => nou u <| popI .i64 args fun t0 args => popI .u64 args fun t1 args => popI .u64 args fun t2 args => endA args (S14_3 D m t0 t1 t2 h)
theorem T14_0 (hE : FX x14 D m E) : S14_0 D m = e14_0 (E c14_0 []) := by unfold S14_0; rw [hE c14_0]; kernel_rfl
theorem T14_1 (hE : FX x14 D m E) : S14_1 D m = e14_1 (E (.opq false l14_1 c14_2) [.sj v14_0 c14_0]) := by unfold S14_1; rw [T14_0 hE, hE (.opq false l14_1 c14_2)]; kernel_rfl
theorem T14_3 (hE : FX x14 D m E) : S14_3 D m = e14_3 (E c14_e []) := by unfold S14_3; rw [T14_1 hE, hE c14_e]; kernel_rfl
theorem X14 : XTie S14 x14 := X_of fun D m E hE args h u => by unfold S14; rw [T14_3 hE]; kernel_rfl
/- 21 -/
def c21_e : XC := (.sO [.mv p2 (.c (.int .u64 (.ofNat 0))) (.i .u64)] (.seq (.seq (.oX [.mv p6 q0 (.i .u64), .cl p7 34 [q6] .b]) (.cond q7 (.seq (.oX [.mv p2 (.c (.int .u64 (.ofNat 9221120237041090560))) (.i .u64)]) .ret) .skip)) (.sO [.mv p9 q0 (.i .u64), .cl p10 33 [q9] .v, .mv p8 q10 .v, .P p11 (.ext q8 0) (.i .u64), .P p12 (.ext q8 1) (.i .u64), .P p13 (.ext q8 2) (.i .u64), .mv p3 q11 (.i .u64), .mv p4 q12 (.i .u64), .mv p5 q13 (.i .u64)] (.seq (.seq (.oX [.mv p14 q3 (.i .u64), .bn p15 .eql q14 (.c (.int .u64 (.ofNat 1))) .b]) (.cond q15 (.seq (.oX [.mv p16 q0 (.i .u64), .bn p17 .sub q16 (.c (.int .u64 (.ofNat 9223372036854775808))) (.i .u64), .mv p2 q17 (.i .u64)]) .ret) .skip)) (.sO [.mv p18 q0 (.i .u64), .bn p19 .add q18 (.c (.int .u64 (.ofNat 9223372036854775808))) (.i .u64), .mv p2 q19 (.i .u64)] (.s .ret))))))
def x21 : XFn := ⟨[(.i .u64)], false, [(.tmp p2)], c21_e⟩
def e21_0 (k t0 h) := kN k [(p0, (AV.int .u64 t0))] h
def S21_0 (D : CallD) (m : Nat) (t0 : Int) (h : HP) : Res2 :=
 cal D 34 [(AV.int .u64 t0)] h fun t7 h1 =>
 asB t7 fun t7a =>
 br t7a (
 some (.ret (AV.int .u64 (Int.ofNat 9221120237041090560)) h1, .no)) (
 cal D 33 [(AV.int .u64 t0)] h1 fun t10 h2 =>
 extC t10 0 fun vt11 => asI .u64 vt11 fun t11 =>
 extC t10 1 fun vt12 => asI .u64 vt12 fun t12 =>
 extC t10 2 fun vt13 => asI .u64 vt13 fun t13 =>
 let t15 := eqQ t11 (Int.ofNat 1)
 br t15 (
 let t17 := wrQ .u64 (t0 - (Int.ofNat 9223372036854775808))
 some (.ret (AV.int .u64 t17) h2, .no)) (
 let t19 := wrQ .u64 (addQ t0 (Int.ofNat 9223372036854775808))
 some (.ret (AV.int .u64 t19) h2, .no)))
def S21 : SFn := fun D m args h u => nou u <| popI .u64 args fun t0 args => endA args (S21_0 D m t0 h)
theorem T21_0 (hE : FX x21 D m E) : S21_0 D m = e21_0 (E c21_e []) := by unfold S21_0; rw [hE c21_e]; kernel_rfl
theorem X21 : XTie S21 x21 := X_of fun D m E hE args h u => by unfold S21; rw [T21_0 hE]; kernel_rfl
/- 22 -/
def c22_e : XC := (.sO [.mv p2 (.c (.int .u32 (.ofNat 0))) tW] (.sO [.mv p4 q0 (.i .u64), .cl p5 31 [q4] .v, .cl p6 44 [q5] .v, .mv p3 q6 .v] (.seq (.block 0 (.seq (.oX [.mv p8 q3 .v, .cl p9 45 [q8] .b, .mv p10 q9 .b, .ge p10 (XL.of [.G p10 false p11 (.mov q3) .v, .G p10 false p12 (.bin .gtr q11 (.c (.flt .f64 4746794007244308480))) .b, .P p13 (.pick q10 (cb true) q12) .b]) p13 .b, .mv p7 q13 .b]) (.cond q7 (.seq (.oX [.mv p2 (.c (.int .u32 (.ofNat 2147483647))) tW]) .ret) (.seq (.oX [.mv p15 q3 .v, .bn p16 .lss q15 (.c (.flt .f64 13970166044103278592)) .b, .mv p14 q16 .b]) (.cond q14 (.seq (.oX [.mv p2 (.c (.int .u32 (.ofNat 2147483648))) tW]) .ret) .skip))))) (.sO [.mv p17 q3 .v, .P p18 (.conv (.fi .i64) q17) tI, .cl p19 46 [q18] tW, .mv p2 q19 tW] (.s .ret)))))
def x22 : XFn := ⟨[(.i .u64)], false, [(.tmp p2)], c22_e⟩
def e22_0 (k t0 h) := kN k [(p0, (AV.int .u64 t0))] h
def S22_0 (D : CallD) (m : Nat) (t0 : Int) (h : HP) : Res2 :=
 cal D 31 [(AV.int .u64 t0)] h fun t5 h1 =>
 cal D 44 [t5] h1 fun t6 h2 =>
 cal D 45 [t6] h2 fun t9 h3 =>
 asB t9 fun t9a =>
 obB (brV t9a (
 some (vB true)) (
 binCV .gtr t6 ((.flt .f64 4746794007244308480) : AV) fun vt12 => asBV vt12 fun t12 =>
 some (vB t12))) fun t13 =>
 br t13 (
 some (.ret (vW (Int.ofNat 2147483647)) h3, .no)) (
 binC .lss t6 ((.flt .f64 13970166044103278592) : AV) fun vt16 => asB vt16 fun t16 =>
 br t16 (
 some (.ret (vW (Int.ofNat 2147483648)) h3, .no)) (
 obI .i64 (evP (.conv (.fi .i64) (.c t6)) .leaf) fun t18 =>
 cal D 46 [(vI t18)] h3 fun t19 h4 =>
 asI .u32 t19 fun t19a =>
 some (.ret (vW t19a) h4, .no)))
def S22 : SFn := fun D m args h u => nou u <| popI .u64 args fun t0 args => endA args (S22_0 D m t0 h)
theorem T22_0 (hE : FX x22 D m E) : S22_0 D m = e22_0 (E c22_e []) := by unfold S22_0; rw [hE c22_e]; kernel_rfl
theorem X22 : XTie S22 x22 := X_of fun D m E hE args h u => by unfold S22; rw [T22_0 hE]; kernel_rfl
/- 27 -/
def v27_0 : List Pos := [p0, p4, p5]
def c27_0 : XC := (.seq (.seq (.oX [.mv p68 q5 .b, .P p69 (.un .not q68) .b, .mv p70 q69 .b, .ge p70 (XL.of [.G p70 false p71 (.mov q4) .s, .G p70 false p72 (.bin .neq q71 (.c (.str []))) .b, .P p73 (.pick q70 (cb true) q72) .b]) p73 .b]) (.cond q73 (.seq (.oX [.mv p2 (.c (.int .u64 (.ofNat 0))) (.i .u64), .mv p3 (ci 2) tI]) .ret) .skip)) (.sO [.mv p75 q0 .s, .cl p76 53 [q75, (ci 64)] .v, .mv p74 q76 .v, .P p77 (.ext q74 0) .v, .P p78 (.ext q74 1) .v, .mv p10 q77 .v, .mv p11 q78 .v] (.sO [.mv p79 q10 .v, .cl p80 32 [q79] (.i .u64), .mv p2 q80 (.i .u64), .mv p3 (ci 0) tI] (.s .ret))))
def v27_1 : List Pos := [p0, p5, p8]
def c27_1 : XC := (.sO [.mv p60 q8 .s, .cl p61 51 [q60] .v, .mv p59 q61 .v, .P p62 (.ext q59 0) .s, .P p63 (.ext q59 1) .b, .mv p4 q62 .s, .mv p7 q63 .b] (.s (.oX [.mv p64 q5 .b, .mv p65 q64 .b, .ge p65 (XL.of [.G p65 true p66 (.mov q7) .b, .P p67 (.pick q65 q66 (cb false)) .b]) p67 .b, .mv p5 q67 .b])))
def c27_e : XC := (.sO [.mv p2 (.c (.int .u64 (.ofNat 0))) (.i .u64), .mv p3 (ci 0) tI] (.sO [.mv p13 q0 .s, .cl p14 51 [q13] .v, .mv p12 q14 .v, .P p15 (.ext q12 0) .s, .P p16 (.ext q12 1) .b, .mv p4 q15 .s, .mv p5 q16 .b] (.sO [.mv p18 q4 .s, .cl p19 52 [q18, (.c (.str [46]))] .v, .mv p17 q19 .v, .P p20 (.ext q17 0) .s, .P p21 (.ext q17 1) .b, .mv p4 q20 .s, .mv p6 q21 .b] (.sO [.mv p23 q4 .s, .cl p24 51 [q23] .v, .mv p22 q24 .v, .P p25 (.ext q22 0) .s, .P p26 (.ext q22 1) .b, .mv p4 q25 .s, .mv p7 q26 .b] (.sO [.mv p27 q5 .b, .mv p28 q27 .b, .ge p28 (XL.of [.G p28 true p29 (.mov q6) .b, .P p30 (.pick q28 q29 (cb false)) .b]) p30 .b, .mv p31 q30 .b, .ge p31 (XL.of [.G p31 true p32 (.mov q7) .b, .P p33 (.pick q31 q32 (cb false)) .b]) p33 .b, .mv p34 q33 .b, .ge p34 (XL.of [.G p34 true p35 (.mov q0) .s, .G p34 true p36 (.lens q35) tI, .G p34 true p37 (.bin .leq q36 (ci 40)) .b, .P p38 (.pick q34 q37 (cb false)) .b]) p38 .b, .mv p5 q38 .b] (.sj v27_0 (.sO [.mv p40 q4 .s, .cl p41 52 [q40, (.c (.str [101]))] .v, .mv p39 q41 .v, .P p42 (.ext q39 0) .s, .P p43 (.ext q39 1) .b, .mv p8 q42 .s, .mv p9 q43 .b] (.sO [.mv p44 q9 .b] (.cond q44 (.sj v27_1 (.sO [.mv p45 q8 .s, .bn p46 .neq q45 (.c (.str [])) .b, .mv p47 q46 .b, .ge p47 (XL.of [.G p47 true p48 (.mov q8) .s, .G p47 true p49 (.idxs q48 (ci 0)) tC, .G p47 true p50 (.bin .eql q49 (.c (.int .u8 (.ofNat 43)))) .b, .G p47 true p51 (.mov q50) .b, .ge p51 (XL.of [.G p51 false p52 (.mov q8) .s, .G p51 false p53 (.idxs q52 (ci 0)) tC, .G p51 false p54 (.bin .eql q53 (.c (.int .u8 (.ofNat 45)))) .b, .G p47 true p55 (.pick q51 (cb true) q54) .b]) p55 .b, .P p56 (.pick q47 q55 (cb false)) .b]) p56 .b] (.cond q56 (.s (.oX [.mv p57 q8 .s, .P p58 (.slice .str q57 (some (ci 1)) none none) .s, .mv p8 q58 .s])) (.s .skip))) c27_1) (.s .skip)))) c27_0))))))
def x27 : XFn := ⟨[.s], false, [(.tmp p2), (.tmp p3)], c27_e⟩
def e27_0 (k t0 t4 t5 h) := kN k [(p0, (vS t0)), (p4, (vS t4)), (p5, (vB t5))] h
def S27_0 (D : CallD) (m : Nat) (t0 t4 : LN) (t5 : Bool) (h : HP) : Res2 :=
 let t69 := !t5
 obB (brV t69 (
 some (vB true)) (
 let t72 := !(eqL t4 ([] : LN))
 some (vB t72))) fun t73 =>
 br t73 (
 some (.ret (.tup [(AV.int .u64 (Int.ofNat 0)), (vI (Int.ofNat 2))]) h, .no)) (
 cal D 53 [(vS t0), (vI (Int.ofNat 64))] h fun t76 h6 =>
 extC t76 0 fun t77 =>
 extC t76 1 fun t78 =>
 cal D 32 [t77] h6 fun t80 h7 =>
 asI .u64 t80 fun t80a =>
 some (.ret (.tup [(AV.int .u64 t80a), (vI (Int.ofNat 0))]) h7, .no))
def e27_1 (k t0 t5 t8 h) := kN k [(p0, (vS t0)), (p5, (vB t5)), (p8, (vS t8))] h
def S27_1 (D : CallD) (m : Nat) (t0 : LN) (t5 : Bool) (t8 : LN) (h : HP) : Res2 :=
 cal D 51 [(vS t8)] h fun t61 h9 =>
 extC t61 0 fun vt62 => asS vt62 fun t62 =>
 extC t61 1 fun vt63 => asB vt63 fun t63 =>
 obB (brV t5 (
 some (vB t63)) (
 some (vB false))) fun t67 =>
 S27_0 D m t0 t62 t67 h9
def e27_2 (k t0 h) := kN k [(p0, (vS t0))] h
def S27_2 (D : CallD) (m : Nat) (t0 : LN) (h : HP) : Res2 :=
 cal D 51 [(vS t0)] h fun t14 h3 =>
 extC t14 0 fun vt15 => asS vt15 fun t15 =>
 extC t14 1 fun vt16 => asB vt16 fun t16 =>
 cal D 52 [(vS t15), (vS ([46] : LN))] h3 fun t19 h4 =>
 extC t19 0 fun vt20 => asS vt20 fun t20 =>
 extC t19 1 fun vt21 => asB vt21 fun t21 =>
 cal D 51 [(vS t20)] h4 fun t24 h5 =>
 extC t24 0 fun vt25 => asS vt25 fun t25 =>
 extC t24 1 fun vt26 => asB vt26 fun t26 =>
 obB (brV t16 (
 some (vB t21)) (
 some (vB false))) fun t30 =>
 obB (brV t30 (
 some (vB t26)) (
 some (vB false))) fun t33 =>
 obB (brV t33 (
 let t36 := Int.ofNat (lenL t0)
 let t37 := leQ t36 (Int.ofNat 40)
 some (vB t37)) (
 some (vB false))) fun t38 =>
 cal D 52 [(vS t25), (vS ([101] : LN))] h5 fun t41 h8 =>
 extC t41 0 fun vt42 => asS vt42 fun t42 =>
 extC t41 1 fun vt43 => asB vt43 fun t43 =>
 br t43 (
 let t46 := !(eqL t42 ([] : LN))
 obB (brV t46 (
 ixCV (vS t42) (vI (Int.ofNat 0)) fun vt49 => asIV .u8 vt49 fun t49 =>
 let t50 := eqQ t49 (Int.ofNat 43)
 obBV (brV t50 (
 some (vB true)) (
 ixCV (vS t42) (vI (Int.ofNat 0)) fun vt53 => asIV .u8 vt53 fun t53 =>
 let t54 := eqQ t53 (Int.ofNat 45)
 some (vB t54))) fun t55 =>
 some (vB t55)) (
 some (vB false))) fun t56 =>
 br t56 (
 slC (vS t42) (some (vI (Int.ofNat 1))) none fun vt58 => asS vt58 fun t58 =>
 S27_1 D m t0 t38 t58 h8) (
 S27_1 D m t0 t38 t42 h8)) (
 S27_0 D m t0 t25 t38 h8)
def S27 : SFn := fun D m args h u => nou u <| popS args fun t0 args => endA args (S27_2 D m t0 h)
theorem T27_0 (hE : FX x27 D m E) : S27_0 D m = e27_0 (E c27_0 []) := by unfold S27_0; rw [hE c27_0]; kernel_rfl
theorem T27_1 (hE : FX x27 D m E) : S27_1 D m = e27_1 (E c27_1 [.sj v27_0 c27_0]) := by unfold S27_1; rw [T27_0 hE, hE c27_1]; kernel_rfl
theorem T27_2 (hE : FX x27 D m E) : S27_2 D m = e27_2 (E c27_e []) := by unfold S27_2; rw [T27_1 hE, T27_0 hE, hE c27_e]; kernel_rfl
theorem X27 : XTie S27 x27 := X_of fun D m E hE args h u => by unfold S27; rw [T27_2 hE]; kernel_rfl
/- 31 -/
def c31_e : XC := (.sO [.mv p2 (.c (.flt .f64 0)) .v] (.sO [.mv p3 q0 (.i .u64), .P p4 (.xt .ffrom [q3]) .v, .mv p2 q4 .v] (.s .ret)))
def x31 : XFn := ⟨[(.i .u64)], false, [(.tmp p2)], c31_e⟩
def e31_0 (k t0 h) := kN k [(p0, (AV.int .u64 t0))] h
def S31_0 (D : CallD) (m : Nat) (t0 : Int) (h : HP) : Res2 :=
 obQ (evP (.xt .ffrom [(.c (AV.int .u64 t0))]) .leaf) fun t4 =>
 some (.ret t4 h, .no)
def S31 : SFn := fun D m args h u => nou u <| popI .u64 args fun t0 args => endA args (S31_0 D m t0 h)
theorem T31_0 (hE : FX x31 D m E) : S31_0 D m = e31_0 (E c31_e []) := by unfold S31_0; rw [hE c31_e]; kernel_rfl
theorem X31 : XTie S31 x31 := X_of fun D m E hE args h u => by unfold S31; rw [T31_0 hE]; kernel_rfl
/- 32 -/
def c32_e : XC := (.sO [.mv p2 (.c (.int .u64 (.ofNat 0))) (.i .u64)] (.seq (.seq (.oX [.mv p3 q0 .v, .cl p4 45 [q3] .b]) (.cond q4 (.seq (.oX [.mv p2 (.c (.int .u64 (.ofNat 9221120237041090560))) (.i .u64)]) .ret) .skip)) (.sO [.mv p5 q0 .v, .P p6 (.xt .fbits [q5]) (.i .u64), .mv p2 q6 (.i .u64)] (.s .ret))))
def x32 : XFn := ⟨[.v], false, [(.tmp p2)], c32_e⟩
def e32_0 (k t0 h) := kN k [(p0, t0)] h
def S32_0 (D : CallD) (m : Nat) (t0 : AV) (h : HP) : Res2 :=
 cal D 45 [t0] h fun t4 h1 =>
 asB t4 fun t4a =>
 br t4a (
 some (.ret (AV.int .u64 (Int.ofNat 9221120237041090560)) h1, .no)) (
 obI .u64 (evP (.xt .fbits [(.c t0)]) .leaf) fun t6 =>
 some (.ret (AV.int .u64 t6) h1, .no))
def S32 : SFn := fun D m args h u => nou u <| popV args fun t0 args => endA args (S32_0 D m t0 h)
theorem T32_0 (hE : FX x32 D m E) : S32_0 D m = e32_0 (E c32_e []) := by unfold S32_0; rw [hE c32_e]; kernel_rfl
theorem X32 : XTie S32 x32 := X_of fun D m E hE args h u => by unfold S32; rw [T32_0 hE]; kernel_rfl
/- 33 -/
def c33_e : XC := (.sO [.mv p2 (.c (.int .u64 (.ofNat 0))) (.i .u64), .mv p3 (.c (.int .u64 (.ofNat 0))) (.i .u64), .mv p4 (.c (.int .u64 (.ofNat 0))) (.i .u64)] (.sO [.mv p5 q0 (.i .u64), .bn p6 .quo q5 (.c (.int .u64 (.ofNat 9223372036854775808))) (.i .u64), .mv p7 q0 (.i .u64), .bn p8 .quo q7 (.c (.int .u64 (.ofNat 4503599627370496))) (.i .u64), .bn p9 .rem q8 (.c (.int .u64 (.ofNat 2048))) (.i .u64), .mv p10 q0 (.i .u64), .bn p11 .rem q10 (.c (.int .u64 (.ofNat 4503599627370496))) (.i .u64), .mv p2 q6 (.i .u64), .mv p3 q9 (.i .u64), .mv p4 q11 (.i .u64)] (.s .ret)))
def x33 : XFn := ⟨[(.i .u64)], false, [(.tmp p2), (.tmp p3), (.tmp p4)], c33_e⟩
def e33_0 (k t0 h) := kN k [(p0, (AV.int .u64 t0))] h
def S33_0 (D : CallD) (m : Nat) (t0 : Int) (h : HP) : Res2 :=
 let t6 := wrapF .u64 (Int.tdiv t0 (Int.ofNat 9223372036854775808))
 let t8 := wrapF .u64 (Int.tdiv t0 (Int.ofNat 4503599627370496))
 let t9 := Int.tmod t8 (Int.ofNat 2048)
 let t11 := Int.tmod t0 (Int.ofNat 4503599627370496)
 some (.ret (.tup [(AV.int .u64 t6), (AV.int .u64 t9), (AV.int .u64 t11)]) h, .no)
def S33 : SFn := fun D m args h u => nou u <| popI .u64 args fun t0 args => endA args (S33_0 D m t0 h)
theorem T33_0 (hE : FX x33 D m E) : S33_0 D m = e33_0 (E c33_e []) := by unfold S33_0; rw [hE c33_e]; kernel_rfl
theorem X33 : XTie S33 x33 := X_of fun D m E hE args h u => by unfold S33; rw [T33_0 hE]; kernel_rfl
/- 34 -/
def c34_e : XC := (.sO [.mv p2 (cb false) .b] (.sO [.mv p7 q0 (.i .u64), .cl p8 33 [q7] .v, .mv p6 q8 .v, .P p9 (.ext q6 0) (.i .u64), .P p10 (.ext q6 1) (.i .u64), .P p11 (.ext q6 2) (.i .u64), .mv p3 q9 (.i .u64), .mv p4 q10 (.i .u64), .mv p5 q11 (.i .u64)] (.sO [.mv p12 q4 (.i .u64), .bn p13 .eql q12 (.c (.int .u64 (.ofNat 2047))) .b, .mv p14 q13 .b, .ge p14 (XL.of [.G p14 true p15 (.mov q5) (.i .u64), .G p14 true p16 (.bin .neq q15 (.c (.int .u64 (.ofNat 0)))) .b, .P p17 (.pick q14 q16 (cb false)) .b]) p17 .b, .mv p2 q17 .b] (.s .ret))))
def x34 : XFn := ⟨[(.i .u64)], false, [(.tmp p2)], c34_e⟩
def e34_0 (k t0 h) := kN k [(p0, (AV.int .u64 t0))] h
def S34_0 (D : CallD) (m : Nat) (t0 : Int) (h : HP) : Res2 :=
 cal D 33 [(AV.int .u64 t0)] h fun t8 h1 =>
 extC t8 0 fun vt9 => asI .u64 vt9 fun t9 =>
 extC t8 1 fun vt10 => asI .u64 vt10 fun t10 =>
 extC t8 2 fun vt11 => asI .u64 vt11 fun t11 =>
 let t13 := eqQ t10 (Int.ofNat 2047)
 obB (brV t13 (
 let t16 := notQ (eqQ t11 (Int.ofNat 0))
 some (vB t16)) (
 some (vB false))) fun t17 =>
 some (.ret (vB t17) h1, .no)
def S34 : SFn := fun D m args h u => nou u <| popI .u64 args fun t0 args => endA args (S34_0 D m t0 h)
theorem T34_0 (hE : FX x34 D m E) : S34_0 D m = e34_0 (E c34_e []) := by unfold S34_0; rw [hE c34_e]; kernel_rfl
theorem X34 : XTie S34 x34 := X_of fun D m E hE args h u => by unfold S34; rw [T34_0 hE]; kernel_rfl
/- 35 -/
def v35_0 : List Pos := [p5, p8, p11, p12, p13, p14, p15]
def c35_0 : XC := (.sO [.mv p45 q11 tI, .cl p46 40 [q45] .v, .mv p47 q12 tI, .mv p48 q15 tI, .bn p49 .sub q47 q48 tI, .cl p50 60 [q46, q49] .v, .mv p51 q13 tI, .cl p52 40 [q51] .v, .mv p53 q14 tI, .mv p54 q15 tI, .bn p55 .sub q53 q54 tI, .cl p56 60 [q52, q55] .v, .mv p16 q50 .v, .mv p17 q56 .v] (.seq (.seq (.oX [.mv p57 q5 (.i .u64), .mv p58 q8 (.i .u64), .bn p59 .eql q57 q58 .b]) (.cond q59 (.seq (.oX [.mv p60 q5 (.i .u64), .mv p61 q16 .v, .mv p62 q17 .v, .cl p63 55 [q61, q62] .v, .cl p64 40 [(ci 1)] .v, .mv p65 q15 tI, .cl p66 38 [q63, q64, q65] (.i .u64), .cl p67 36 [q60, q66] (.i .u64), .mv p4 q67 (.i .u64)]) .ret) .skip)) (.seq (.seq (.oX [.mv p68 q16 .v, .mv p69 q17 .v, .cl p70 61 [q68, q69] tI]) (.block 0 (.seq (.oX [.bn p72 .eql q70 (ci 0) .b, .mv p71 q72 .b]) (.cond q71 (.seq (.oX [.mv p4 (.c (.int .u64 (.ofNat 0))) (.i .u64)]) .ret) (.seq (.oX [.bn p74 .eql q70 (ci 1) .b, .mv p73 q74 .b]) (.cond q73 (.seq (.oX [.mv p75 q5 (.i .u64), .mv p76 q16 .v, .mv p77 q17 .v, .cl p78 62 [q76, q77] .v, .cl p79 40 [(ci 1)] .v, .mv p80 q15 tI, .cl p81 38 [q78, q79, q80] (.i .u64), .cl p82 36 [q75, q81] (.i .u64), .mv p4 q82 (.i .u64)]) .ret) .skip)))))) (.sO [.mv p83 q8 (.i .u64), .mv p84 q17 .v, .mv p85 q16 .v, .cl p86 62 [q84, q85] .v, .cl p87 40 [(ci 1)] .v, .mv p88 q15 tI, .cl p89 38 [q86, q87, q88] (.i .u64), .cl p90 36 [q83, q89] (.i .u64), .mv p4 q90 (.i .u64)] (.s .ret)))))
def c35_e : XC := (.sO [.mv p4 (.c (.int .u64 (.ofNat 0))) (.i .u64)] (.sO [.mv p19 q0 (.i .u64), .cl p20 33 [q19] .v, .mv p18 q20 .v, .P p21 (.ext q18 0) (.i .u64), .P p22 (.ext q18 1) (.i .u64), .P p23 (.ext q18 2) (.i .u64), .mv p5 q21 (.i .u64), .mv p6 q22 (.i .u64), .mv p7 q23 (.i .u64)] (.sO [.mv p25 q1 (.i .u64), .cl p26 33 [q25] .v, .mv p24 q26 .v, .P p27 (.ext q24 0) (.i .u64), .P p28 (.ext q24 1) (.i .u64), .P p29 (.ext q24 2) (.i .u64), .mv p8 q27 (.i .u64), .mv p9 q28 (.i .u64), .mv p10 q29 (.i .u64)] (.sO [.mv p31 q0 (.i .u64), .cl p32 37 [q31] .v, .mv p30 q32 .v, .P p33 (.ext q30 0) tI, .P p34 (.ext q30 1) tI, .mv p11 q33 tI, .mv p12 q34 tI] (.sO [.mv p36 q1 (.i .u64), .cl p37 37 [q36] .v, .mv p35 q37 .v, .P p38 (.ext q35 0) tI, .P p39 (.ext q35 1) tI, .mv p13 q38 tI, .mv p14 q39 tI] (.sO [.mv p40 q12 tI, .mv p15 q40 tI] (.sj v35_0 (.sO [.mv p41 q14 tI, .mv p42 q12 tI, .bn p43 .lss q41 q42 .b] (.cond q43 (.s (.oX [.mv p44 q14 tI, .mv p15 q44 tI])) (.s .skip))) c35_0)))))))
def x35 : XFn := ⟨[(.i .u64), (.i .u64)], false, [(.tmp p4)], c35_e⟩
def e35_0 (k t5 t8 t11 t12 t13 t14 t15 h) := kN k [(p5, (AV.int .u64 t5)), (p8, (AV.int .u64 t8)), (p11, (vI t11)), (p12, (vI t12)), (p13, (vI t13)), (p14, (vI t14)), (p15, (vI t15))] h
def S35_0 (D : CallD) (m : Nat) (t5 t8 t11 t12 t13 t14 t15 : Int) (h : HP) : Res2 :=
 cal D 40 [(vI t11)] h fun t46 h6 =>
 let t49 := wrQ .i64 (t12 - t15)
 cal D 60 [t46, (vI t49)] h6 fun t50 h7 =>
 cal D 40 [(vI t13)] h7 fun t52 h8 =>
 let t55 := wrQ .i64 (t14 - t15)
 cal D 60 [t52, (vI t55)] h8 fun t56 h9 =>
 let t59 := eqQ t5 t8
 br t59 (
 cal D 55 [t50, t56] h9 fun t63 h10 =>
 cal D 40 [(vI (Int.ofNat 1))] h10 fun t64 h11 =>
 cal D 38 [t63, t64, (vI t15)] h11 fun t66 h12 =>
 asI .u64 t66 fun t66a =>
 cal D 36 [(AV.int .u64 t5), (AV.int .u64 t66a)] h12 fun t67 h13 =>
 asI .u64 t67 fun t67a =>
 some (.ret (AV.int .u64 t67a) h13, .no)) (
 cal D 61 [t50, t56] h9 fun t70 h14 =>
 asI .i64 t70 fun t70a =>
 let t72 := eqQ t70a (Int.ofNat 0)
 br t72 (
 some (.ret (AV.int .u64 (Int.ofNat 0)) h14, .no)) (
 let t74 := eqQ t70a (Int.ofNat 1)
 br t74 (
 cal D 62 [t50, t56] h14 fun t78 h15 =>
 cal D 40 [(vI (Int.ofNat 1))] h15 fun t79 h16 =>
 cal D 38 [t78, t79, (vI t15)] h16 fun t81 h17 =>
 asI .u64 t81 fun t81a =>
 cal D 36 [(AV.int .u64 t5), (AV.int .u64 t81a)] h17 fun t82 h18 =>
 asI .u64 t82 fun t82a =>
 some (.ret (AV.int .u64 t82a) h18, .no)) (
 cal D 62 [t56, t50] h14 fun t86 h19 =>
 cal D 40 [(vI (Int.ofNat 1))] h19 fun t87 h20 =>
 cal D 38 [t86, t87, (vI t15)] h20 fun t89 h21 =>
 asI .u64 t89 fun t89a =>
 cal D 36 [(AV.int .u64 t8), (AV.int .u64 t89a)] h21 fun t90 h22 =>
 asI .u64 t90 fun t90a =>
 some (.ret (AV.int .u64 t90a) h22, .no))))
def e35_1 (k t0 t1 h) := kN k [(p0, (AV.int .u64 t0)), (p1, (AV.int .u64 t1))] h
def S35_1 (D : CallD) (m : Nat) (t0 t1 : Int) (h : HP) : Res2 :=
 cal D 33 [(AV.int .u64 t0)] h fun t20 h2 =>
 extC t20 0 fun vt21 => asI .u64 vt21 fun t21 =>
 extC t20 1 fun vt22 => asI .u64 vt22 fun t22 =>
 extC t20 2 fun vt23 => asI .u64 vt23 fun t23 =>
 cal D 33 [(AV.int .u64 t1)] h2 fun t26 h3 =>
 extC t26 0 fun vt27 => asI .u64 vt27 fun t27 =>
 extC t26 1 fun vt28 => asI .u64 vt28 fun t28 =>
 extC t26 2 fun vt29 => asI .u64 vt29 fun t29 =>
 cal D 37 [(AV.int .u64 t0)] h3 fun t32 h4 =>
 extC t32 0 fun vt33 => asI .i64 vt33 fun t33 =>
 extC t32 1 fun vt34 => asI .i64 vt34 fun t34 =>
 cal D 37 [(AV.int .u64 t1)] h4 fun t37 h5 =>
 extC t37 0 fun vt38 => asI .i64 vt38 fun t38 =>
 extC t37 1 fun vt39 => asI .i64 vt39 fun t39 =>
 let t43 := ltQ t39 t34
 br t43 (
 S35_0 D m t21 t27 t33 t34 t38 t39 t39 h5) (
 S35_0 D m t21 t27 t33 t34 t38 t39 t34 h5)
def S35 : SFn := fun D m args h u => nou u <| popI .u64 args fun t0 args => popI .u64 args fun t1 args => endA args (S35_1 D m t0 t1 h)
theorem T35_0 (hE : FX x35 D m E) : S35_0 D m = e35_0 (E c35_0 []) := by unfold S35_0; rw [hE c35_0]; kernel_rfl
theorem T35_1 (hE : FX x35 D m E) : S35_1 D m = e35_1 (E c35_e []) := by unfold S35_1; rw [T35_0 hE, hE c35_e]; kernel_rfl
theorem X35 : XTie S35 x35 := X_of fun D m E hE args h u => by unfold S35; rw [T35_1 hE]; kernel_rfl
/- 36 -/
def c36_e : XC := (.sO [.mv p4 (.c (.int .u64 (.ofNat 0))) (.i .u64)] (.seq (.seq (.oX [.mv p5 q0 (.i .u64), .bn p6 .eql q5 (.c (.int .u64 (.ofNat 1))) .b]) (.cond q6 (.seq (.oX [.mv p7 q1 (.i .u64), .bn p8 .add q7 (.c (.int .u64 (.ofNat 9223372036854775808))) (.i .u64), .mv p4 q8 (.i .u64)]) .ret) .skip)) (.sO [.mv p9 q1 (.i .u64), .mv p4 q9 (.i .u64)] (.s .ret))))
def x36 : XFn := ⟨[(.i .u64), (.i .u64)], false, [(.tmp p4)], c36_e⟩
def e36_0 (k t0 t1 h) := kN k [(p0, (AV.int .u64 t0)), (p1, (AV.int .u64 t1))] h
def S36_0 (D : CallD) (m : Nat) (t0 t1 : Int) (h : HP) : Res2 :=
 let t6 := eqQ t0 (Int.ofNat 1)
 br t6 (
 let t8 := wrQ .u64 (addQ t1 (Int.ofNat 9223372036854775808))
 some (.ret (AV.int .u64 t8) h, .no)) (
 some (.ret (AV.int .u64 t1) h, .no))
def S36 : SFn := fun D m args h u => nou u <| popI .u64 args fun t0 args => popI .u64 args fun t1 args => endA args (S36_0 D m t0 t1 h)
theorem T36_0 (hE : FX x36 D m E) : S36_0 D m = e36_0 (E c36_e []) := by unfold S36_0; rw [hE c36_e]; kernel_rfl
theorem X36 : XTie S36 x36 := X_of fun D m E hE args h u => by unfold S36; rw [T36_0 hE]; kernel_rfl
/- 37 -/
def c37_e : XC := (.sO [.mv p2 (ci 0) tI, .mv p3 (ci 0) tI] (.sO [.mv p8 q0 (.i .u64), .cl p9 33 [q8] .v, .mv p7 q9 .v, .P p10 (.ext q7 0) (.i .u64), .P p11 (.ext q7 1) (.i .u64), .P p12 (.ext q7 2) (.i .u64), .mv p4 q10 (.i .u64), .mv p5 q11 (.i .u64), .mv p6 q12 (.i .u64)] (.seq (.seq (.oX [.mv p13 q5 (.i .u64), .bn p14 .eql q13 (.c (.int .u64 (.ofNat 0))) .b]) (.cond q14 (.seq (.oX [.mv p15 q6 (.i .u64), .P p16 (.conv (.ii .i64) q15) tI, .mv p2 q16 tI, .mv p3 (.c (.int .i64 (.negSucc 1073))) tI]) .ret) .skip)) (.sO [.mv p17 q6 (.i .u64), .P p18 (.conv (.ii .i64) q17) tI, .bn p19 .add q18 (ci 4503599627370496) tI, .mv p20 q5 (.i .u64), .P p21 (.conv (.ii .i64) q20) tI, .bn p22 .sub q21 (ci 1075) tI, .mv p2 q19 tI, .mv p3 q22 tI] (.s .ret)))))
def x37 : XFn := ⟨[(.i .u64)], false, [(.tmp p2), (.tmp p3)], c37_e⟩
def e37_0 (k t0 h) := kN k [(p0, (AV.int .u64 t0))] h
def S37_0 (D : CallD) (m : Nat) (t0 : Int) (h : HP) : Res2 :=
 cal D 33 [(AV.int .u64 t0)] h fun t9 h1 =>
 extC t9 0 fun vt10 => asI .u64 vt10 fun t10 =>
 extC t9 1 fun vt11 => asI .u64 vt11 fun t11 =>
 extC t9 2 fun vt12 => asI .u64 vt12 fun t12 =>
 let t14 := eqQ t11 (Int.ofNat 0)
 br t14 (
 let t16 := wrapF .i64 t12
 some (.ret (.tup [(vI t16), (vI (Int.negSucc 1073))]) h1, .no)) (
 let t18 := wrapF .i64 t12
 let t19 := wrQ .i64 (addQ t18 (Int.ofNat 4503599627370496))
 let t21 := wrapF .i64 t11
 let t22 := wrQ .i64 (t21 - (Int.ofNat 1075))
 some (.ret (.tup [(vI t19), (vI t22)]) h1, .no))
def S37 : SFn := fun D m args h u => nou u <| popI .u64 args fun t0 args => endA args (S37_0 D m t0 h)
theorem T37_0 (hE : FX x37 D m E) : S37_0 D m = e37_0 (E c37_e []) := by unfold S37_0; rw [hE c37_e]; kernel_rfl
theorem X37 : XTie S37 x37 := X_of fun D m E hE args h u => by unfold S37; rw [T37_0 hE]; kernel_rfl
/- 38 -/
def v38_1 : List Pos := [p2, p8]
def c38_1 : XC := (.seq (.seq (.oX [.mv p75 q8 tI, .bn p76 .lss q75 (ci 4503599627370496) .b]) (.cond q76 (.seq (.oX [.mv p77 q8 tI, .P p78 (.conv (.ii .u64) q77) (.i .u64), .mv p6 q78 (.i .u64)]) .ret) .skip)) (.seq (.seq (.oX [.mv p79 q2 tI, .bn p80 .add q79 (ci 1075) tI, .bn p81 .geq q80 (ci 2047) .b]) (.cond q81 (.seq (.oX [.mv p6 (.c (.int .u64 (.ofNat 9218868437227405312))) (.i .u64)]) .ret) .skip)) (.sO [.mv p82 q2 tI, .bn p83 .add q82 (ci 1075) tI, .P p84 (.conv (.ii .u64) q83) (.i .u64), .bn p85 .mul q84 (.c (.int .u64 (.ofNat 4503599627370496))) (.i .u64), .mv p86 q8 tI, .P p87 (.conv (.ii .u64) q86) (.i .u64), .bn p88 .add q85 q87 (.i .u64), .bn p89 .sub q88 (.c (.int .u64 (.ofNat 4503599627370496))) (.i .u64), .mv p6 q89 (.i .u64)] (.s .ret))))
def v38_0 : List Pos := [p2, p7, p8]
def c38_0 : XC := (.sO [.mv p66 q2 tI, .mv p67 q7 tI, .bn p68 .sub q66 q67 tI, .mv p2 q68 tI] (.sj v38_1 (.sO [.mv p69 q8 tI, .bn p70 .eql q69 (ci 9007199254740992) .b] (.cond q70 (.sO [.mv p71 q8 tI, .bn p72 .quo q71 (ci 2) tI, .mv p8 q72 tI] (.s (.oX [.mv p73 q2 tI, .bn p74 .add q73 (ci 1) tI, .mv p2 q74 tI]))) (.s .skip))) c38_1))
def v38_5 : List Pos := [p0, p1, p2, p7]
def c38_5 : XC := (.s (.oX [.mv p64 q7 tI, .bn p65 .sub q64 (ci 1) tI, .mv p7 q65 tI]))
def v38_6 : List Pos := [p2, p7, p8]
def c38_6 : XC := (.s (.exit 0))
def v38_4 : List Pos := [p0, p1, p2, p7, p10, p11]
def c38_4 : XC := (.sO [.mv p40 q10 .v, .mv p41 q11 .v, .cl p42 64 [q40, q41] .v, .mv p39 q42 .v, .P p43 (.ext q39 0) tI, .P p44 (.ext q39 1) .v, .mv p8 q43 tI, .mv p9 q44 .v] (.sj v38_5 (.sO [.mv p45 q8 tI, .bn p46 .lss q45 (ci 9007199254740992) .b] (.cond q46 (.sO [.mv p47 q9 .v, .cl p48 60 [q47, (ci 1)] .v, .mv p49 q11 .v, .cl p50 61 [q48, q49] tI, .mv p12 q50 tI] (.sj v38_6 (.sO [.mv p51 q12 tI, .bn p52 .gtr q51 (ci 0) .b, .mv p53 q52 .b, .ge p53 (XL.of [.G p53 false p54 (.mov q12) tI, .G p53 false p55 (.bin .eql q54 (ci 0)) .b, .G p53 false p56 (.mov q55) .b, .ge p56 (XL.of [.G p56 true p57 (.mov q8) tI, .G p56 true p58 (.bin .rem q57 (ci 2)) tI, .G p56 true p59 (.bin .eql q58 (ci 1)) .b, .G p53 false p60 (.pick q56 q59 (cb false)) .b]) p60 .b, .P p61 (.pick q53 (cb true) q60) .b]) p61 .b] (.cond q61 (.s (.oX [.mv p62 q8 tI, .bn p63 .add q62 (ci 1) tI, .mv p8 q63 tI])) (.s .skip))) c38_6)) (.s .skip))) c38_5))
def v38_3 : List Pos := [p0, p1, p2, p7]
def c38_3 : XC := (.sO [.mv p28 q0 .v, .mv p29 q1 .v, .mv p10 q28 .v, .mv p11 q29 .v] (.sj v38_4 (.sO [.mv p30 q7 tI, .bn p31 .gtr q30 (ci 0) .b] (.cond q31 (.s (.oX [.mv p32 q0 .v, .mv p33 q7 tI, .cl p34 60 [q32, q33] .v, .mv p10 q34 .v])) (.s (.oX [.mv p35 q1 .v, .mv p36 q7 tI, .P p37 (.un .neg q36) tI, .cl p38 60 [q35, q37] .v, .mv p11 q38 .v])))) c38_4))
def v38_2 : List Pos := [p0, p1, p2, p7]
def c38_2b : XC := (.block 1 (.sj v38_3 (.sO [.mv p22 q2 tI, .mv p23 q7 tI, .bn p24 .sub q22 q23 tI, .bn p25 .lss q24 (.c (.int .i64 (.negSucc 1073))) .b] (.cond q25 (.s (.oX [.mv p26 q2 tI, .bn p27 .add q26 (ci 1074) tI, .mv p7 q27 tI])) (.s .skip))) c38_3))
def c38_e : XC := (.sO [.mv p6 (.c (.int .u64 (.ofNat 0))) (.i .u64)] (.seq (.seq (.oX [.mv p13 q0 .v, .P p14 (.lenl q13) tI, .bn p15 .eql q14 (ci 0) .b]) (.cond q15 (.seq (.oX [.mv p6 (.c (.int .u64 (.ofNat 0))) (.i .u64)]) .ret) .skip)) (.sO [.mv p16 q0 .v, .cl p17 63 [q16] tI, .bn p18 .sub (ci 53) q17 tI, .mv p19 q1 .v, .cl p20 63 [q19] tI, .bn p21 .add q18 q20 tI, .mv p7 q21 tI] (.sO [.mv p8 (ci 0) tI] (.sO [.mv p9 (.c .nils) .v] (.sj v38_0 (.block 0 (.loop v38_2 c38_2b)) c38_0))))))
def x38 : XFn := ⟨[.v, .v, tI], false, [(.tmp p6)], c38_e⟩
def e38_1 (k t2 t8 h) := kN k [(p2, (vI t2)), (p8, (vI t8))] h
def S38_1 (D : CallD) (m : Nat) (t2 t8 : Int) (h : HP) : Res2 :=
 let t76 := ltQ t8 (Int.ofNat 4503599627370496)
 br t76 (
 let t78 := wrapF .u64 t8
 some (.ret (AV.int .u64 t78) h, .no)) (
 let t80 := wrQ .i64 (addQ t2 (Int.ofNat 1075))
 let t81 := leQ (Int.ofNat 2047) t80
 br t81 (
 some (.ret (AV.int .u64 (Int.ofNat 9218868437227405312)) h, .no)) (
 let t83 := wrQ .i64 (addQ t2 (Int.ofNat 1075))
 let t84 := wrapF .u64 t83
 let t85 := wrQ .u64 (t84 * (Int.ofNat 4503599627370496))
 let t87 := wrapF .u64 t8
 let t88 := wrQ .u64 (addQ t85 t87)
 let t89 := wrQ .u64 (t88 - (Int.ofNat 4503599627370496))
 some (.ret (AV.int .u64 t89) h, .no)))
def e38_0 (k t2 t7 t8 h) := kN k [(p2, (vI t2)), (p7, (vI t7)), (p8, (vI t8))] h
def S38_0 (D : CallD) (m : Nat) (t2 t7 t8 : Int) (h : HP) : Res2 :=
 let t68 := wrQ .i64 (t2 - t7)
 let t70 := eqQ t8 (Int.ofNat 9007199254740992)
 br t70 (
 let t72 := wrapF .i64 (Int.tdiv t8 (Int.ofNat 2))
 let t74 := wrQ .i64 (addQ t68 (Int.ofNat 1))
 S38_1 D m t74 t72 h) (
 S38_1 D m t68 t8 h)
def e38_5 (k t0 t1 t2 t7 h) := kN k [(p0, t0), (p1, t1), (p2, (vI t2)), (p7, (vI t7))] h
def S38_5 (D : CallD) (m : Nat) (g2 : AV → AV → Int → Int → HP → Res2) (t0 t1 : AV) (t2 t7 : Int) (h : HP) : Res2 :=
 let t65 := wrQ .i64 (t7 - (Int.ofNat 1))
 g2 t0 t1 t2 t65 h
def e38_6 (k t2 t7 t8 h) := kN k [(p2, (vI t2)), (p7, (vI t7)), (p8, (vI t8))] h
def S38_6 (D : CallD) (m : Nat) (g2 : AV → AV → Int → Int → HP → Res2) (t2 t7 t8 : Int) (h : HP) : Res2 :=
 S38_0 D m t2 t7 t8 h
def e38_4 (k t0 t1 t2 t7 t10 t11 h) := kN k [(p0, t0), (p1, t1), (p2, (vI t2)), (p7, (vI t7)), (p10, t10), (p11, t11)] h
def S38_4 (D : CallD) (m : Nat) (g2 : AV → AV → Int → Int → HP → Res2) (t0 t1 : AV) (t2 t7 : Int) (t10 t11 : AV) (h : HP) : Res2 :=
 cal D 64 [t10, t11] h fun t42 h10 =>
 extC t42 0 fun vt43 => asI .i64 vt43 fun t43 =>
 extC t42 1 fun t44 =>
 let t46 := ltQ t43 (Int.ofNat 9007199254740992)
 br t46 (
 cal D 60 [t44, (vI (Int.ofNat 1))] h10 fun t48 h11 =>
 cal D 61 [t48, t11] h11 fun t50 h12 =>
 asI .i64 t50 fun t50a =>
 let t52 := ltQ (Int.ofNat 0) t50a
 obB (brV t52 (
 some (vB true)) (
 let t55 := eqQ t50a (Int.ofNat 0)
 obBV (brV t55 (
 let t58 := Int.tmod t43 (Int.ofNat 2)
 let t59 := eqQ t58 (Int.ofNat 1)
 some (vB t59)) (
 some (vB false))) fun t60 =>
 some (vB t60))) fun t61 =>
 br t61 (
 let t63 := wrQ .i64 (addQ t43 (Int.ofNat 1))
 S38_6 D m g2 t2 t7 t63 h12) (
 S38_6 D m g2 t2 t7 t43 h12)) (
 S38_5 D m g2 t0 t1 t2 t7 h10)
def e38_3 (k t0 t1 t2 t7 h) := kN k [(p0, t0), (p1, t1), (p2, (vI t2)), (p7, (vI t7))] h
def S38_3 (D : CallD) (m : Nat) (g2 : AV → AV → Int → Int → HP → Res2) (t0 t1 : AV) (t2 t7 : Int) (h : HP) : Res2 :=
 let t31 := ltQ (Int.ofNat 0) t7
 br t31 (
 cal D 60 [t0, (vI t7)] h fun t34 h13 =>
 S38_4 D m g2 t0 t1 t2 t7 t34 t1 h13) (
 let t37 := IntKind.wrap .i64 (0 - t7)
 cal D 60 [t1, (vI t37)] h fun t38 h14 =>
 S38_4 D m g2 t0 t1 t2 t7 t0 t38 h14)
def e38_2 (k t0 t1 t2 t7 h) := kN k [(p0, t0), (p1, t1), (p2, (vI t2)), (p7, (vI t7))] h
def S38_2b (D : CallD) (m : Nat) (g2 : AV → AV → Int → Int → HP → Res2) (t0 t1 : AV) (t2 t7 : Int) (h : HP) : Res2 :=
 let t24 := wrQ .i64 (t2 - t7)
 let t25 := ltQ t24 (Int.negSucc 1073)
 br t25 (
 let t27 := wrQ .i64 (addQ t2 (Int.ofNat 1074))
 S38_3 D m g2 t0 t1 t2 t27 h) (
 S38_3 D m g2 t0 t1 t2 t7 h)
def S38_2 (D : CallD) (m : Nat) : AV → AV → Int → Int → HP → Res2 := nrec (fun _ _ _ _ _ => none) (fun _ g => S38_2b D m g) m
def e38_7 (k t0 t1 t2 h) := kN k [(p0, t0), (p1, t1), (p2, (vI t2))] h
def S38_7 (D : CallD) (m : Nat) (t0 t1 : AV) (t2 : Int) (h : HP) : Res2 :=
 lenC t0 fun vt14 => asI .i64 vt14 fun t14 =>
 let t15 := eqQ t14 (Int.ofNat 0)
 br t15 (
 some (.ret (AV.int .u64 (Int.ofNat 0)) h, .no)) (
 cal D 63 [t0] h fun t17 h8 =>
 asI .i64 t17 fun t17a =>
 let t18 := wrQ .i64 ((Int.ofNat 53) - t17a)
 cal D 63 [t1] h8 fun t20 h9 =>
 asI .i64 t20 fun t20a =>
 let t21 := wrQ .i64 (addQ t18 t20a)
 S38_2 D m t0 t1 t2 t21 h9)
def S38 : SFn := fun D m args h u => nou u <| popV args fun t0 args => popV args fun t1 args => popI .i64 args fun t2 args => endA args (S38_7 D m t0 t1 t2 h)
theorem T38_1 (hE : FX x38 D m E) : S38_1 D m = e38_1 (E c38_1 []) := by unfold S38_1; rw [hE c38_1]; kernel_rfl
theorem T38_0 (hE : FX x38 D m E) : S38_0 D m = e38_0 (E c38_0 []) := by unfold S38_0; rw [T38_1 hE, hE c38_0]; kernel_rfl
theorem T38_5 (hE : FX x38 D m E) (G2) : S38_5 D m (e38_2 G2) = e38_5 (E c38_5 [.blk 1, .lp v38_2 G2, .blk 0, .sj v38_0 c38_0]) := by unfold S38_5; rw [hE c38_5]; kernel_rfl
theorem T38_6 (hE : FX x38 D m E) (G2) : S38_6 D m (e38_2 G2) = e38_6 (E c38_6 [.sj v38_5 c38_5, .blk 1, .lp v38_2 G2, .blk 0, .sj v38_0 c38_0]) := by unfold S38_6; rw [T38_0 hE, hE c38_6]; kernel_rfl
theorem T38_4 (hE : FX x38 D m E) (G2) : S38_4 D m (e38_2 G2) = e38_4 (E c38_4 [.blk 1, .lp v38_2 G2, .blk 0, .sj v38_0 c38_0]) := by unfold S38_4; rw [T38_6 hE G2, T38_5 hE G2, hE c38_4]; kernel_rfl
theorem T38_3 (hE : FX x38 D m E) (G2) : S38_3 D m (e38_2 G2) = e38_3 (E c38_3 [.blk 1, .lp v38_2 G2, .blk 0, .sj v38_0 c38_0]) := by unfold S38_3; rw [T38_4 hE G2, hE c38_3]; kernel_rfl
theorem T38_2b (hE : FX x38 D m E) (G2) : S38_2b D m (e38_2 G2) = e38_2 (E c38_2b [.lp v38_2 G2, .blk 0, .sj v38_0 c38_0]) := by unfold S38_2b; rw [T38_3 hE G2, hE c38_2b]; kernel_rfl
theorem T38_2 (hE : FX x38 D m E) : S38_2 D m = e38_2 (nrec (fun _ => none) (fun _ G2 st => E c38_2b [.lp v38_2 G2, .blk 0, .sj v38_0 c38_0] st) m) :=
  nrec_emb e38_2 (fun _ _ _ _ _ => none) (fun g => S38_2b D m g) (fun G2 st => E c38_2b [.lp v38_2 G2, .blk 0, .sj v38_0 c38_0] st) rfl (fun g => T38_2b hE g) m
theorem T38_7 (hE : FX x38 D m E) : S38_7 D m = e38_7 (E c38_e []) := by unfold S38_7; rw [T38_2 hE, hE c38_e]; kernel_rfl
theorem X38 : XTie S38 x38 := X_of fun D m E hE args h u => by unfold S38; rw [T38_7 hE]; kernel_rfl
/- 39 -/
def v39_0 : List Pos := [p5]
def c39_0 : XC := (.sO [.mv p23 q5 .v, .mv p4 q23 .v] (.s .ret))
def v39_1 : List Pos := [p0, p1, p5, p6]
def c39_1b : XC := (.seq (.seq (.oX [.mv p10 q6 tI, .bn p11 .geq q10 (ci 0) .b]) (.cond q11 .skip (.exit 0))) (.seq (.block 1 (.ops true (XL.of [.mv p14 q5 .v, .mv p16 q0 .v, .mv p17 q1 .v, .mv p18 q6 tI, .P p19 (.iaddr (.sl 1) q17 q18) .v, .ld p20 q19 tI, .o ⟨(some p15), (.call (.fn 60) [q14, (ci 16)]), none, [⟨none, .cell q19, p20⟩]⟩ .v, .cl p21 56 [q16, q20] .v, .cl p22 55 [q15, q21] .v, .mv p5 q22 .v]))) (.s (.oX [.mv p12 q6 tI, .bn p13 .sub q12 (ci 1) tI, .mv p6 q13 tI]))))
def c39_e : XC := (.sO [.mv p4 (.c .nils) .v] (.sO [.mv p5 (.c .nils) .v] (.sj v39_0 (.sO [.mv p7 q1 .v, .P p8 (.lenl q7) tI, .bn p9 .sub q8 (ci 1) tI, .mv p6 q9 tI] (.block 0 (.loop v39_1 c39_1b))) c39_0)))
def x39 : XFn := ⟨[.v, .v], false, [(.tmp p4)], c39_e⟩
def e39_0 (k t5 h) := kN k [(p5, t5)] h
def S39_0 (D : CallD) (m : Nat) (t5 : AV) (h : HP) : Res2 :=
 some (.ret t5 h, .no)
def e39_1 (k t0 t1 t5 t6 h) := kN k [(p0, t0), (p1, t1), (p5, t5), (p6, (vI t6))] h
def S39_1b (D : CallD) (m : Nat) (g1 : AV → AV → AV → Int → HP → Res2) (t0 t1 t5 : AV) (t6 : Int) (h : HP) : Res2 :=
 let t11 := leQ (Int.ofNat 0) t6
 br t11 (
 iasC 1 t1 (vI t6) fun t19 =>
 ldI t19 h fun t20 =>
 cal D 60 [t5, (vI (Int.ofNat 16))] h fun t15 h3 =>
 br (again [⟨none, .cell q19, p20⟩] (mkT [(p20, (vI t20)), (p19, t19)]) h3) (
 cal D 56 [t0, (vI t20)] h3 fun t21 h4 =>
 cal D 55 [t15, t21] h4 fun t22 h5 =>
 let t13 := wrQ .i64 (t6 - (Int.ofNat 1))
 g1 t0 t1 t22 t13 h5) none) (
 S39_0 D m t5 h)
def S39_1 (D : CallD) (m : Nat) : AV → AV → AV → Int → HP → Res2 := nrec (fun _ _ _ _ _ => none) (fun _ g => S39_1b D m g) m
def e39_2 (k t0 t1 h) := kN k [(p0, t0), (p1, t1)] h
def S39_2 (D : CallD) (m : Nat) (t0 t1 : AV) (h : HP) : Res2 :=
 lenC t1 fun vt8 => asI .i64 vt8 fun t8 =>
 let t9 := wrQ .i64 (t8 - (Int.ofNat 1))
 S39_1 D m t0 t1 (.nils : AV) t9 h
def S39 : SFn := fun D m args h u => nou u <| popV args fun t0 args => popV args fun t1 args => endA args (S39_2 D m t0 t1 h)
theorem T39_0 (hE : FX x39 D m E) : S39_0 D m = e39_0 (E c39_0 []) := by unfold S39_0; rw [hE c39_0]; kernel_rfl
theorem T39_1b (hE : FX x39 D m E) (G1) : S39_1b D m (e39_1 G1) = e39_1 (E c39_1b [.lp v39_1 G1, .blk 0, .sj v39_0 c39_0]) := by unfold S39_1b; rw [T39_0 hE, hE c39_1b]; kernel_rfl
theorem T39_1 (hE : FX x39 D m E) : S39_1 D m = e39_1 (nrec (fun _ => none) (fun _ G1 st => E c39_1b [.lp v39_1 G1, .blk 0, .sj v39_0 c39_0] st) m) :=
  nrec_emb e39_1 (fun _ _ _ _ _ => none) (fun g => S39_1b D m g) (fun G1 st => E c39_1b [.lp v39_1 G1, .blk 0, .sj v39_0 c39_0] st) rfl (fun g => T39_1b hE g) m
theorem T39_2 (hE : FX x39 D m E) : S39_2 D m = e39_2 (E c39_e []) := by unfold S39_2; rw [T39_1 hE, hE c39_e]; kernel_rfl
theorem X39 : XTie S39 x39 := X_of fun D m E hE args h u => by unfold S39; rw [T39_2 hE]; kernel_rfl
/- 40 -/
def v40_0 : List Pos := [p3]
def c40_0 : XC := (.sO [.mv p13 q3 .v, .mv p2 q13 .v] (.s .ret))
def v40_1 : List Pos := [p0, p3]
def c40_1b : XC := (.seq (.seq (.oX [.mv p4 q0 tI, .bn p5 .gtr q4 (ci 0) .b]) (.cond q5 .skip (.exit 0))) (.block 1 (.sO [.mv p6 q3 .v, .mv p7 q0 tI, .bn p8 .rem q7 (ci 65536) tI, .al p9 (.bsl [(kI 0)] 1 [⟨0, 1, q8⟩]), .o ⟨(some p10), (.e (.app 1 8 q6 q9)), none, []⟩ .v, .mv p3 q10 .v] (.s (.oX [.mv p11 q0 tI, .bn p12 .quo q11 (ci 65536) tI, .mv p0 q12 tI])))))
def c40_e : XC := (.sO [.mv p2 (.c .nils) .v] (.sO [.mv p3 (.c .nils) .v] (.sj v40_0 (.block 0 (.loop v40_1 c40_1b)) c40_0)))
def x40 : XFn := ⟨[tI], false, [(.tmp p2)], c40_e⟩
def e40_0 (k t3 h) := kN k [(p3, t3)] h
def S40_0 (D : CallD) (m : Nat) (t3 : AV) (h : HP) : Res2 :=
 some (.ret t3 h, .no)
def e40_1 (k t0 t3 h) := kN k [(p0, (vI t0)), (p3, t3)] h
def S40_1b (D : CallD) (m : Nat) (g1 : Int → AV → HP → Res2) (t0 : Int) (t3 : AV) (h : HP) : Res2 :=
 let t5 := ltQ (Int.ofNat 0) t0
 br t5 (
 let t8 := Int.tmod t0 (Int.ofNat 65536)
 let t9 := AV.slice (HP.nxQ h) 0 1 (.exact 1)
 let h3 := HP.newQ h (.cells true [(vI t8)])
 eff (.app 1 8 (.c t3) (.c t9)) h3 fun t10 h4 =>
 let t12 := wrapF .i64 (Int.tdiv t0 (Int.ofNat 65536))
 g1 t12 t10 h4) (
 S40_0 D m t3 h)
def S40_1 (D : CallD) (m : Nat) : Int → AV → HP → Res2 := nrec (fun _ _ _ => none) (fun _ g => S40_1b D m g) m
def e40_2 (k t0 h) := kN k [(p0, (vI t0))] h
def S40_2 (D : CallD) (m : Nat) (t0 : Int) (h : HP) : Res2 :=
 S40_1 D m t0 (.nils : AV) h
def S40 : SFn := fun D m args h u => nou u <| popI .i64 args fun t0 args => endA args (S40_2 D m t0 h)
theorem T40_0 (hE : FX x40 D m E) : S40_0 D m = e40_0 (E c40_0 []) := by unfold S40_0; rw [hE c40_0]; kernel_rfl
theorem T40_1b (hE : FX x40 D m E) (G1) : S40_1b D m (e40_1 G1) = e40_1 (E c40_1b [.lp v40_1 G1, .blk 0, .sj v40_0 c40_0]) := by unfold S40_1b; rw [T40_0 hE, hE c40_1b]; kernel_rfl
theorem T40_1 (hE : FX x40 D m E) : S40_1 D m = e40_1 (nrec (fun _ => none) (fun _ G1 st => E c40_1b [.lp v40_1 G1, .blk 0, .sj v40_0 c40_0] st) m) :=
  nrec_emb e40_1 (fun _ _ _ => none) (fun g => S40_1b D m g) (fun G1 st => E c40_1b [.lp v40_1 G1, .blk 0, .sj v40_0 c40_0] st) rfl (fun g => T40_1b hE g) m
theorem T40_2 (hE : FX x40 D m E) : S40_2 D m = e40_2 (E c40_e []) := by unfold S40_2; rw [T40_1 hE, hE c40_e]; kernel_rfl
theorem X40 : XTie S40 x40 := X_of fun D m E hE args h u => by unfold S40; rw [T40_2 hE]; kernel_rfl
/- 41 -/
def c41_e : XC := (.sO [.mv p2 (ci 0) tI] (.sO [.mv p8 q0 (.i .u64), .cl p9 33 [q8] .v, .mv p7 q9 .v, .P p10 (.ext q7 0) (.i .u64), .P p11 (.ext q7 1) (.i .u64), .P p12 (.ext q7 2) (.i .u64), .mv p3 q10 (.i .u64), .mv p4 q11 (.i .u64), .mv p5 q12 (.i .u64)] (.sO [.mv p13 q0 (.i .u64), .bn p14 .rem q13 (.c (.int .u64 (.ofNat 9223372036854775808))) (.i .u64), .P p15 (.conv (.ii .i64) q14) tI, .mv p6 q15 tI] (.seq (.seq (.oX [.mv p16 q3 (.i .u64), .bn p17 .eql q16 (.c (.int .u64 (.ofNat 1))) .b]) (.cond q17 (.seq (.oX [.mv p18 q6 tI, .P p19 (.un .neg q18) tI, .mv p2 q19 tI]) .ret) .skip)) (.sO [.mv p20 q6 tI, .mv p2 q20 tI] (.s .ret))))))
def x41 : XFn := ⟨[(.i .u64)], false, [(.tmp p2)], c41_e⟩
def e41_0 (k t0 h) := kN k [(p0, (AV.int .u64 t0))] h
def S41_0 (D : CallD) (m : Nat) (t0 : Int) (h : HP) : Res2 :=
 cal D 33 [(AV.int .u64 t0)] h fun t9 h1 =>
 extC t9 0 fun vt10 => asI .u64 vt10 fun t10 =>
 extC t9 1 fun vt11 => asI .u64 vt11 fun t11 =>
 extC t9 2 fun vt12 => asI .u64 vt12 fun t12 =>
 let t14 := Int.tmod t0 (Int.ofNat 9223372036854775808)
 let t15 := wrapF .i64 t14
 let t17 := eqQ t10 (Int.ofNat 1)
 br t17 (
 let t19 := IntKind.wrap .i64 (0 - t15)
 some (.ret (vI t19) h1, .no)) (
 some (.ret (vI t15) h1, .no))
def S41 : SFn := fun D m args h u => nou u <| popI .u64 args fun t0 args => endA args (S41_0 D m t0 h)
theorem T41_0 (hE : FX x41 D m E) : S41_0 D m = e41_0 (E c41_e []) := by unfold S41_0; rw [hE c41_e]; kernel_rfl
theorem X41 : XTie S41 x41 := X_of fun D m E hE args h u => by unfold S41; rw [T41_0 hE]; kernel_rfl
/- 44 -/
def c44_e : XC := (.sO [.mv p2 (.c (.flt .f64 0)) .v] (.seq (.cond (cb true) (.seq (.oX [.mv p3 q0 .v, .P p4 (.xt .trunc [q3]) .v, .mv p2 q4 .v]) .ret) .skip) (.sO [.mv p5 q0 .v, .cl p6 66 [q5] .v, .mv p2 q6 .v] (.s .ret))))
def x44 : XFn := ⟨[.v], false, [(.tmp p2)], c44_e⟩
def e44_0 (k t0 h) := kN k [(p0, t0)] h
def S44_0 (D : CallD) (m : Nat) (t0 : AV) (h : HP) : Res2 :=
 obQ (evP (.xt .trunc [(.c t0)]) .leaf) fun t4 =>
 some (.ret t4 h, .no)
def S44 : SFn := fun D m args h u => nou u <| popV args fun t0 args => endA args (S44_0 D m t0 h)
theorem T44_0 (hE : FX x44 D m E) : S44_0 D m = e44_0 (E c44_e []) := by unfold S44_0; rw [hE c44_e]; kernel_rfl
theorem X44 : XTie S44 x44 := X_of fun D m E hE args h u => by unfold S44; rw [T44_0 hE]; kernel_rfl
/- 45 -/
def c45_e : XC := (.sO [.mv p2 (cb false) .b] (.sO [.mv p3 q0 .v, .mv p4 q0 .v, .bn p5 .neq q3 q4 .b, .mv p2 q5 .b] (.s .ret)))
def x45 : XFn := ⟨[.v], false, [(.tmp p2)], c45_e⟩
def e45_0 (k t0 h) := kN k [(p0, t0)] h
def S45_0 (D : CallD) (m : Nat) (t0 : AV) (h : HP) : Res2 :=
 binC .neq t0 t0 fun vt5 => asB vt5 fun t5 =>
 some (.ret (vB t5) h, .no)
def S45 : SFn := fun D m args h u => nou u <| popV args fun t0 args => endA args (S45_0 D m t0 h)
theorem T45_0 (hE : FX x45 D m E) : S45_0 D m = e45_0 (E c45_e []) := by unfold S45_0; rw [hE c45_e]; kernel_rfl
theorem X45 : XTie S45 x45 := X_of fun D m E hE args h u => by unfold S45; rw [T45_0 hE]; kernel_rfl
/- 51 -/
def c51_e : XC := (.sO [.mv p2 (.c (.str [])) .s, .mv p3 (cb false) .b] (.sO [.mv p5 q0 .s, .cl p6 74 [q5, (.c (.str [48, 49, 50, 51, 52, 53, 54, 55, 56, 57]))] .s, .mv p4 q6 .s] (.sO [.mv p7 q4 .s, .mv p8 q4 .s, .P p9 (.lens q8) tI, .mv p10 q0 .s, .P p11 (.lens q10) tI, .bn p12 .lss q9 q11 .b, .mv p2 q7 .s, .mv p3 q12 .b] (.s .ret))))
def x51 : XFn := ⟨[.s], false, [(.tmp p2), (.tmp p3)], c51_e⟩
def e51_0 (k t0 h) := kN k [(p0, (vS t0))] h
def S51_0 (D : CallD) (m : Nat) (t0 : LN) (h : HP) : Res2 :=
 cal D 74 [(vS t0), (vS ([48, 49, 50, 51, 52, 53, 54, 55, 56, 57] : LN))] h fun t6 h1 =>
 asS t6 fun t6a =>
 let t9 := Int.ofNat (lenL t6a)
 let t11 := Int.ofNat (lenL t0)
 let t12 := ltQ t9 t11
 some (.ret (.tup [(vS t6a), (vB t12)]) h1, .no)
def S51 : SFn := fun D m args h u => nou u <| popS args fun t0 args => endA args (S51_0 D m t0 h)
theorem T51_0 (hE : FX x51 D m E) : S51_0 D m = e51_0 (E c51_e []) := by unfold S51_0; rw [hE c51_e]; kernel_rfl
theorem X51 : XTie S51 x51 := X_of fun D m E hE args h u => by unfold S51; rw [T51_0 hE]; kernel_rfl
/- 52 -/
def c52_e : XC := (.sO [.mv p4 (.c (.str [])) .s, .mv p5 (cb false) .b] (.sO [.mv p6 q0 .s, .mv p7 q1 .s, .cl p8 75 [q6, q7] .v, .P p9 (.ext q8 0) .s, .P p10 (.ext q8 1) .b, .mv p4 q9 .s, .mv p5 q10 .b] (.s .ret)))
def x52 : XFn := ⟨[.s, .s], false, [(.tmp p4), (.tmp p5)], c52_e⟩
def e52_0 (k t0 t1 h) := kN k [(p0, (vS t0)), (p1, (vS t1))] h
def S52_0 (D : CallD) (m : Nat) (t0 t1 : LN) (h : HP) : Res2 :=
 cal D 75 [(vS t0), (vS t1)] h fun t8 h1 =>
 extC t8 0 fun vt9 => asS vt9 fun t9 =>
 extC t8 1 fun vt10 => asB vt10 fun t10 =>
 some (.ret (.tup [(vS t9), (vB t10)]) h1, .no)
def S52 : SFn := fun D m args h u => nou u <| popS args fun t0 args => popS args fun t1 args => endA args (S52_0 D m t0 t1 h)
theorem T52_0 (hE : FX x52 D m E) : S52_0 D m = e52_0 (E c52_e []) := by unfold S52_0; rw [hE c52_e]; kernel_rfl
theorem X52 : XTie S52 x52 := X_of fun D m E hE args h u => by unfold S52; rw [T52_0 hE]; kernel_rfl
/- 53 -/
def c53_e : XC := (.sO [.mv p4 (.c (.flt .f64 0)) .v, .mv p5 (.c .nili) .v] (.sO [.mv p9 q0 .s, .mv p10 q1 tI, .cl p11 76 [q9, q10] .v, .mv p8 q11 .v, .P p12 (.ext q8 0) .v, .P p13 (.ext q8 1) .v, .mv p6 q12 .v, .mv p7 q13 .v] (.seq (.seq (.oX [.mv p14 q7 .v, .P p15 (.eqn .ifc true q14 (.c .nili)) .b]) (.cond q15 (.seq (.oX [.mv p16 q6 .v, .mv p17 q0 .s, .mv p18 q1 tI, .mv p19 q7 .v, .cl p20 77 [(.c (.str [80, 97, 114, 115, 101, 70, 108, 111, 97, 116])), q17, (ci 0), q18, q19] .v, .mv p4 q16 .v, .mv p5 q20 .v]) .ret) .skip)) (.sO [.mv p21 q6 .v, .mv p4 q21 .v, .mv p5 (.c .nili) .v] (.s .ret)))))
def x53 : XFn := ⟨[.s, tI], false, [(.tmp p4), (.tmp p5)], c53_e⟩
def e53_0 (k t0 t1 h) := kN k [(p0, (vS t0)), (p1, (vI t1))] h
def S53_0 (D : CallD) (m : Nat) (t0 : LN) (t1 : Int) (h : HP) : Res2 :=
 cal D 76 [(vS t0), (vI t1)] h fun t11 h1 =>
 extC t11 0 fun t12 =>
 extC t11 1 fun t13 =>
 obB (evP (.eqn .ifc true (.c t13) (.c (.nili : AV))) .leaf) fun t15 =>
 br t15 (
 cal D 77 [(vS ([80, 97, 114, 115, 101, 70, 108, 111, 97, 116] : LN)), (vS t0), (vI (Int.ofNat 0)), (vI t1), t13] h1 fun t20 h2 =>
 some (.ret (.tup [t12, t20]) h2, .no)) (
 some (.ret (.tup [t12, (.nili : AV)]) h1, .no))
def S53 : SFn := fun D m args h u => nou u <| popS args fun t0 args => popI .i64 args fun t1 args => endA args (S53_0 D m t0 t1 h)
theorem T53_0 (hE : FX x53 D m E) : S53_0 D m = e53_0 (E c53_e []) := by unfold S53_0; rw [hE c53_e]; kernel_rfl
theorem X53 : XTie S53 x53 := X_of fun D m E hE args h u => by unfold S53; rw [T53_0 hE]; kernel_rfl
/- 55 -/
def v55_0 : List Pos := [p5]
def c55_0 : XC := (.sO [.mv p41 q5 .v, .cl p42 80 [q41] .v, .mv p4 q42 .v] (.s .ret))
def v55_1 : List Pos := [p0, p1, p5, p6, p7]
def c55_1b : XC := (.seq (.seq (.oX [.mv p9 q7 tI, .mv p10 q0 .v, .P p11 (.lenl q10) tI, .bn p12 .lss q9 q11 .b, .mv p13 q12 .b, .ge p13 (XL.of [.G p13 false p14 (.mov q7) tI, .G p13 false p15 (.mov q1) .v, .G p13 false p16 (.lenl q15) tI, .G p13 false p17 (.bin .lss q14 q16) .b, .P p18 (.pick q13 (cb true) q17) .b]) p18 .b, .mv p19 q18 .b, .ge p19 (XL.of [.G p19 false p20 (.mov q6) tI, .G p19 false p21 (.bin .gtr q20 (ci 0)) .b, .P p22 (.pick q19 (cb true) q21) .b]) p22 .b]) (.cond q22 .skip (.exit 0))) (.seq (.block 1 (.seq (.oX [.mv p25 q0 .v, .mv p26 q7 tI, .cl p27 79 [q25, q26] tI, .mv p28 q1 .v, .mv p29 q7 tI, .cl p30 79 [q28, q29] tI, .bn p31 .add q27 q30 tI, .mv p32 q6 tI, .bn p33 .add q31 q32 tI, .mv p8 q33 tI]) (.seq (.oX [.mv p34 q5 .v, .mv p35 q8 tI, .bn p36 .rem q35 (ci 65536) tI, .al p37 (.bsl [(kI 0)] 1 [⟨0, 1, q36⟩]), .o ⟨(some p38), (.e (.app 1 8 q34 q37)), none, []⟩ .v, .mv p5 q38 .v]) (.oX [.mv p39 q8 tI, .bn p40 .quo q39 (ci 65536) tI, .mv p6 q40 tI])))) (.s (.oX [.mv p23 q7 tI, .bn p24 .add q23 (ci 1) tI, .mv p7 q24 tI]))))
def c55_e : XC := (.sO [.mv p4 (.c .nils) .v] (.sO [.mv p5 (.c .nils) .v] (.sO [.mv p6 (ci 0) tI] (.sj v55_0 (.sO [.mv p7 (ci 0) tI] (.block 0 (.loop v55_1 c55_1b))) c55_0))))
def x55 : XFn := ⟨[.v, .v], false, [(.tmp p4)], c55_e⟩
def e55_0 (k t5 h) := kN k [(p5, t5)] h
def S55_0 (D : CallD) (m : Nat) (t5 : AV) (h : HP) : Res2 :=
 cal D 80 [t5] h fun t42 h3 =>
 some (.ret t42 h3, .no)
def e55_1 (k t0 t1 t5 t6 t7 h) := kN k [(p0, t0), (p1, t1), (p5, t5), (p6, (vI t6)), (p7, (vI t7))] h
def S55_1b (D : CallD) (m : Nat) (g1 : AV → AV → AV → Int → Int → HP → Res2) (t0 t1 t5 : AV) (t6 t7 : Int) (h : HP) : Res2 :=
 lenC t0 fun vt11 => asI .i64 vt11 fun t11 =>
 let t12 := ltQ t7 t11
 obB (brV t12 (
 some (vB true)) (
 lenCV t1 fun vt16 => asIV .i64 vt16 fun t16 =>
 let t17 := ltQ t7 t16
 some (vB t17))) fun t18 =>
 obB (brV t18 (
 some (vB true)) (
 let t21 := ltQ (Int.ofNat 0) t6
 some (vB t21))) fun t22 =>
 br t22 (
 cal D 79 [t0, (vI t7)] h fun t27 h4 =>
 asI .i64 t27 fun t27a =>
 cal D 79 [t1, (vI t7)] h4 fun t30 h5 =>
 asI .i64 t30 fun t30a =>
 let t31 := wrQ .i64 (addQ t27a t30a)
 let t33 := wrQ .i64 (addQ t31 t6)
 let t36 := Int.tmod t33 (Int.ofNat 65536)
 let t37 := AV.slice (HP.nxQ h5) 0 1 (.exact 1)
 let h6 := HP.newQ h5 (.cells true [(vI t36)])
 eff (.app 1 8 (.c t5) (.c t37)) h6 fun t38 h7 =>
 let t40 := wrapF .i64 (Int.tdiv t33 (Int.ofNat 65536))
 let t24 := wrQ .i64 (addQ t7 (Int.ofNat 1))
 g1 t0 t1 t38 t40 t24 h7) (
 S55_0 D m t5 h)
def S55_1 (D : CallD) (m : Nat) : AV → AV → AV → Int → Int → HP → Res2 := nrec (fun _ _ _ _ _ _ => none) (fun _ g => S55_1b D m g) m
def e55_2 (k t0 t1 h) := kN k [(p0, t0), (p1, t1)] h
def S55_2 (D : CallD) (m : Nat) (t0 t1 : AV) (h : HP) : Res2 :=
 S55_1 D m t0 t1 (.nils : AV) (Int.ofNat 0) (Int.ofNat 0) h
def S55 : SFn := fun D m args h u => nou u <| popV args fun t0 args => popV args fun t1 args => endA args (S55_2 D m t0 t1 h)
theorem T55_0 (hE : FX x55 D m E) : S55_0 D m = e55_0 (E c55_0 []) := by unfold S55_0; rw [hE c55_0]; kernel_rfl
theorem T55_1b (hE : FX x55 D m E) (G1) : S55_1b D m (e55_1 G1) = e55_1 (E c55_1b [.lp v55_1 G1, .blk 0, .sj v55_0 c55_0]) := by unfold S55_1b; rw [T55_0 hE, hE c55_1b]; kernel_rfl
theorem T55_1 (hE : FX x55 D m E) : S55_1 D m = e55_1 (nrec (fun _ => none) (fun _ G1 st => E c55_1b [.lp v55_1 G1, .blk 0, .sj v55_0 c55_0] st) m) :=
  nrec_emb e55_1 (fun _ _ _ _ _ _ => none) (fun g => S55_1b D m g) (fun G1 st => E c55_1b [.lp v55_1 G1, .blk 0, .sj v55_0 c55_0] st) rfl (fun g => T55_1b hE g) m
theorem T55_2 (hE : FX x55 D m E) : S55_2 D m = e55_2 (E c55_e []) := by unfold S55_2; rw [T55_1 hE, hE c55_e]; kernel_rfl
theorem X55 : XTie S55 x55 := X_of fun D m E hE args h u => by unfold S55; rw [T55_2 hE]; kernel_rfl
/- 56 -/
def v56_0 : List Pos := [p5]
def c56_0 : XC := (.sO [.mv p33 q5 .v, .cl p34 80 [q33] .v, .mv p4 q34 .v] (.s .ret))
def v56_1 : List Pos := [p0, p1, p5, p6, p7]
def c56_1b : XC := (.seq (.seq (.oX [.mv p9 q7 tI, .mv p10 q0 .v, .P p11 (.lenl q10) tI, .bn p12 .lss q9 q11 .b, .mv p13 q12 .b, .ge p13 (XL.of [.G p13 false p14 (.mov q6) tI, .G p13 false p15 (.bin .gtr q14 (ci 0)) .b, .P p16 (.pick q13 (cb true) q15) .b]) p16 .b]) (.cond q16 .skip (.exit 0))) (.seq (.block 1 (.seq (.oX [.mv p19 q0 .v, .mv p20 q7 tI, .cl p21 79 [q19, q20] tI, .mv p22 q1 tI, .bn p23 .mul q21 q22 tI, .mv p24 q6 tI, .bn p25 .add q23 q24 tI, .mv p8 q25 tI]) (.seq (.oX [.mv p26 q5 .v, .mv p27 q8 tI, .bn p28 .rem q27 (ci 65536) tI, .al p29 (.bsl [(kI 0)] 1 [⟨0, 1, q28⟩]), .o ⟨(some p30), (.e (.app 1 8 q26 q29)), none, []⟩ .v, .mv p5 q30 .v]) (.oX [.mv p31 q8 tI, .bn p32 .quo q31 (ci 65536) tI, .mv p6 q32 tI])))) (.s (.oX [.mv p17 q7 tI, .bn p18 .add q17 (ci 1) tI, .mv p7 q18 tI]))))
def c56_e : XC := (.sO [.mv p4 (.c .nils) .v] (.sO [.mv p5 (.c .nils) .v] (.sO [.mv p6 (ci 0) tI] (.sj v56_0 (.sO [.mv p7 (ci 0) tI] (.block 0 (.loop v56_1 c56_1b))) c56_0))))
def x56 : XFn := ⟨[.v, tI], false, [(.tmp p4)], c56_e⟩
def e56_0 (k t5 h) := kN k [(p5, t5)] h
def S56_0 (D : CallD) (m : Nat) (t5 : AV) (h : HP) : Res2 :=
 cal D 80 [t5] h fun t34 h3 =>
 some (.ret t34 h3, .no)
def e56_1 (k t0 t1 t5 t6 t7 h) := kN k [(p0, t0), (p1, (vI t1)), (p5, t5), (p6, (vI t6)), (p7, (vI t7))] h
def S56_1b (D : CallD) (m : Nat) (g1 : AV → Int → AV → Int → Int → HP → Res2) (t0 : AV) (t1 : Int) (t5 : AV) (t6 t7 : Int) (h : HP) : Res2 :=
 lenC t0 fun vt11 => asI .i64 vt11 fun t11 =>
 let t12 := ltQ t7 t11
 obB (brV t12 (
 some (vB true)) (
 let t15 := ltQ (Int.ofNat 0) t6
 some (vB t15))) fun t16 =>
 br t16 (
 cal D 79 [t0, (vI t7)] h fun t21 h4 =>
 asI .i64 t21 fun t21a =>
 let t23 := wrQ .i64 (t21a * t1)
 let t25 := wrQ .i64 (addQ t23 t6)
 let t28 := Int.tmod t25 (Int.ofNat 65536)
 let t29 := AV.slice (HP.nxQ h4) 0 1 (.exact 1)
 let h5 := HP.newQ h4 (.cells true [(vI t28)])
 eff (.app 1 8 (.c t5) (.c t29)) h5 fun t30 h6 =>
 let t32 := wrapF .i64 (Int.tdiv t25 (Int.ofNat 65536))
 let t18 := wrQ .i64 (addQ t7 (Int.ofNat 1))
 g1 t0 t1 t30 t32 t18 h6) (
 S56_0 D m t5 h)
def S56_1 (D : CallD) (m : Nat) : AV → Int → AV → Int → Int → HP → Res2 := nrec (fun _ _ _ _ _ _ => none) (fun _ g => S56_1b D m g) m
def e56_2 (k t0 t1 h) := kN k [(p0, t0), (p1, (vI t1))] h
def S56_2 (D : CallD) (m : Nat) (t0 : AV) (t1 : Int) (h : HP) : Res2 :=
 S56_1 D m t0 t1 (.nils : AV) (Int.ofNat 0) (Int.ofNat 0) h
def S56 : SFn := fun D m args h u => nou u <| popV args fun t0 args => popI .i64 args fun t1 args => endA args (S56_2 D m t0 t1 h)
theorem T56_0 (hE : FX x56 D m E) : S56_0 D m = e56_0 (E c56_0 []) := by unfold S56_0; rw [hE c56_0]; kernel_rfl
theorem T56_1b (hE : FX x56 D m E) (G1) : S56_1b D m (e56_1 G1) = e56_1 (E c56_1b [.lp v56_1 G1, .blk 0, .sj v56_0 c56_0]) := by unfold S56_1b; rw [T56_0 hE, hE c56_1b]; kernel_rfl
theorem T56_1 (hE : FX x56 D m E) : S56_1 D m = e56_1 (nrec (fun _ => none) (fun _ G1 st => E c56_1b [.lp v56_1 G1, .blk 0, .sj v56_0 c56_0] st) m) :=
  nrec_emb e56_1 (fun _ _ _ _ _ _ => none) (fun g => S56_1b D m g) (fun G1 st => E c56_1b [.lp v56_1 G1, .blk 0, .sj v56_0 c56_0] st) rfl (fun g => T56_1b hE g) m
theorem T56_2 (hE : FX x56 D m E) : S56_2 D m = e56_2 (E c56_e []) := by unfold S56_2; rw [T56_1 hE, hE c56_e]; kernel_rfl
theorem X56 : XTie S56 x56 := X_of fun D m E hE args h u => by unfold S56; rw [T56_2 hE]; kernel_rfl
/- 60 -/
def v60_2 : List Pos := [p5]
def c60_2 : XC := (.sO [.mv p47 q5 .v, .mv p4 q47 .v] (.s .ret))
def v60_3 : List Pos := [p5, p9, p35, p36]
def c60_3b : XC := (.sO [.bn p37 .lss q36 q35 .b] (.seq (.cond q37 .skip (.exit 4)) (.seq (.block 5 (.seq (.oX [.mv p38 q36 tI, .mv p10 q38 tI]) (.oX [.mv p39 q5 .v, .mv p40 q9 .v, .mv p41 q10 tI, .P p42 (.iaddr (.sl 1) q40 q41) .v, .ld p43 q42 tI, .al p44 (.bsl [(kI 0)] 1 [⟨0, 1, q43⟩]), .o ⟨(some p45), (.e (.app 1 8 q39 q44)), none, []⟩ .v, .mv p5 q45 .v]))) (.s (.oX [.bn p46 .add q36 (ci 1) tI, .mv p36 q46 tI])))))
def v60_1 : List Pos := [p0, p5, p7]
def c60_1 : XC := (.sO [.mv p31 q0 .v, .mv p32 q7 tI, .cl p33 56 [q31, q32] .v, .mv p9 q33 .v] (.sj v60_2 (.sO [.mv p34 q9 .v, .P p35 (.lenl q34) tI, .mv p36 (ci 0) tI] (.block 4 (.loop v60_3 c60_3b))) c60_2))
def v60_4 : List Pos := [p0, p1, p5, p7, p8]
def c60_4b : XC := (.seq (.seq (.oX [.mv p23 q8 tI, .mv p24 q1 tI, .bn p25 .rem q24 (ci 16) tI, .bn p26 .lss q23 q25 .b]) (.cond q26 .skip (.exit 2))) (.seq (.block 3 (.oX [.mv p29 q7 tI, .bn p30 .mul q29 (ci 2) tI, .mv p7 q30 tI])) (.s (.oX [.mv p27 q8 tI, .bn p28 .add q27 (ci 1) tI, .mv p8 q28 tI]))))
def v60_0 : List Pos := [p0, p1, p5]
def c60_0 : XC := (.sO [.mv p7 (ci 1) tI] (.sj v60_1 (.sO [.mv p8 (ci 0) tI] (.block 2 (.loop v60_4 c60_4b))) c60_1))
def v60_5 : List Pos := [p0, p1, p5, p6]
def c60_5b : XC := (.seq (.seq (.oX [.mv p14 q6 tI, .mv p15 q1 tI, .bn p16 .quo q15 (ci 16) tI, .bn p17 .lss q14 q16 .b]) (.cond q17 .skip (.exit 0))) (.seq (.block 1 (.oX [.mv p20 q5 .v, .al p21 (.bsl [(kI 0)] 1 [⟨0, 1, (ci 0)⟩]), .o ⟨(some p22), (.e (.app 1 8 q20 q21)), none, []⟩ .v, .mv p5 q22 .v])) (.s (.oX [.mv p18 q6 tI, .bn p19 .add q18 (ci 1) tI, .mv p6 q19 tI]))))
def c60_e : XC := (.sO [.mv p4 (.c .nils) .v] (.seq (.seq (.oX [.mv p11 q0 .v, .P p12 (.lenl q11) tI, .bn p13 .eql q12 (ci 0) .b]) (.cond q13 (.seq (.oX [.mv p4 (.c .nils) .v]) .ret) .skip)) (.sO [.mv p5 (.c .nils) .v] (.sj v60_0 (.sO [.mv p6 (ci 0) tI] (.block 0 (.loop v60_5 c60_5b))) c60_0))))
def x60 : XFn := ⟨[.v, tI], false, [(.tmp p4)], c60_e⟩
def e60_2 (k t5 h) := kN k [(p5, t5)] h
def S60_2 (D : CallD) (m : Nat) (t5 : AV) (h : HP) : Res2 :=
 some (.ret t5 h, .no)
def e60_3 (k t5 t9 t35 t36 h) := kN k [(p5, t5), (p9, t9), (p35, (vI t35)), (p36, (vI t36))] h
def S60_3b (D : CallD) (m : Nat) (g3 : AV → AV → Int → Int → HP → Res2) (t5 t9 : AV) (t35 t36 : Int) (h : HP) : Res2 :=
 let t37 := ltQ t36 t35
 br t37 (
 iasC 1 t9 (vI t36) fun t42 =>
 ldI t42 h fun t43 =>
 let t44 := AV.slice (HP.nxQ h) 0 1 (.exact 1)
 let h8 := HP.newQ h (.cells true [(vI t43)])
 eff (.app 1 8 (.c t5) (.c t44)) h8 fun t45 h9 =>
 let t46 := wrQ .i64 (addQ t36 (Int.ofNat 1))
 g3 t45 t9 t35 t46 h9) (
 S60_2 D m t5 h)
def S60_3 (D : CallD) (m : Nat) : AV → AV → Int → Int → HP → Res2 := nrec (fun _ _ _ _ _ => none) (fun _ g => S60_3b D m g) m
def e60_1 (k t0 t5 t7 h) := kN k [(p0, t0), (p5, t5), (p7, (vI t7))] h
def S60_1 (D : CallD) (m : Nat) (t0 t5 : AV) (t7 : Int) (h : HP) : Res2 :=
 cal D 56 [t0, (vI t7)] h fun t33 h7 =>
 lenC t33 fun vt35 => asI .i64 vt35 fun t35 =>
 S60_3 D m t5 t33 t35 (Int.ofNat 0) h7
def e60_4 (k t0 t1 t5 t7 t8 h) := kN k [(p0, t0), (p1, (vI t1)), (p5, t5), (p7, (vI t7)), (p8, (vI t8))] h
def S60_4b (D : CallD) (m : Nat) (g4 : AV → Int → AV → Int → Int → HP → Res2) (t0 : AV) (t1 : Int) (t5 : AV) (t7 t8 : Int) (h : HP) : Res2 :=
 let t25 := Int.tmod t1 (Int.ofNat 16)
 let t26 := ltQ t8 t25
 br t26 (
 let t30 := wrQ .i64 (t7 * (Int.ofNat 2))
 let t28 := wrQ .i64 (addQ t8 (Int.ofNat 1))
 g4 t0 t1 t5 t30 t28 h) (
 S60_1 D m t0 t5 t7 h)
def S60_4 (D : CallD) (m : Nat) : AV → Int → AV → Int → Int → HP → Res2 := nrec (fun _ _ _ _ _ _ => none) (fun _ g => S60_4b D m g) m
def e60_0 (k t0 t1 t5 h) := kN k [(p0, t0), (p1, (vI t1)), (p5, t5)] h
def S60_0 (D : CallD) (m : Nat) (t0 : AV) (t1 : Int) (t5 : AV) (h : HP) : Res2 :=
 S60_4 D m t0 t1 t5 (Int.ofNat 1) (Int.ofNat 0) h
def e60_5 (k t0 t1 t5 t6 h) := kN k [(p0, t0), (p1, (vI t1)), (p5, t5), (p6, (vI t6))] h
def S60_5b (D : CallD) (m : Nat) (g5 : AV → Int → AV → Int → HP → Res2) (t0 : AV) (t1 : Int) (t5 : AV) (t6 : Int) (h : HP) : Res2 :=
 let t16 := wrapF .i64 (Int.tdiv t1 (Int.ofNat 16))
 let t17 := ltQ t6 t16
 br t17 (
 let t21 := AV.slice (HP.nxQ h) 0 1 (.exact 1)
 let h10 := HP.newQ h (.cells true [(vI (Int.ofNat 0))])
 eff (.app 1 8 (.c t5) (.c t21)) h10 fun t22 h11 =>
 let t19 := wrQ .i64 (addQ t6 (Int.ofNat 1))
 g5 t0 t1 t22 t19 h11) (
 S60_0 D m t0 t1 t5 h)
def S60_5 (D : CallD) (m : Nat) : AV → Int → AV → Int → HP → Res2 := nrec (fun _ _ _ _ _ => none) (fun _ g => S60_5b D m g) m
def e60_6 (k t0 t1 h) := kN k [(p0, t0), (p1, (vI t1))] h
def S60_6 (D : CallD) (m : Nat) (t0 : AV) (t1 : Int) (h : HP) : Res2 :=
 lenC t0 fun vt12 => asI .i64 vt12 fun t12 =>
 let t13 := eqQ t12 (Int.ofNat 0)
 br t13 (
 some (.ret (.nils : AV) h, .no)) (
 S60_5 D m t0 t1 (.nils : AV) (Int.ofNat 0) h)
def S60 : SFn := fun D m args h u => nou u <| popV args fun t0 args => popI .i64 args fun t1 args => endA args (S60_6 D m t0 t1 h)
theorem T60_2 (hE : FX x60 D m E) : S60_2 D m = e60_2 (E c60_2 []) := by unfold S60_2; rw [hE c60_2]; kernel_rfl
theorem T60_3b (hE : FX x60 D m E) (G3) : S60_3b D m (e60_3 G3) = e60_3 (E c60_3b [.lp v60_3 G3, .blk 4, .sj v60_2 c60_2]) := by unfold S60_3b; rw [T60_2 hE, hE c60_3b]; kernel_rfl
theorem T60_3 (hE : FX x60 D m E) : S60_3 D m = e60_3 (nrec (fun _ => none) (fun _ G3 st => E c60_3b [.lp v60_3 G3, .blk 4, .sj v60_2 c60_2] st) m) :=
  nrec_emb e60_3 (fun _ _ _ _ _ => none) (fun g => S60_3b D m g) (fun G3 st => E c60_3b [.lp v60_3 G3, .blk 4, .sj v60_2 c60_2] st) rfl (fun g => T60_3b hE g) m
theorem T60_1 (hE : FX x60 D m E) : S60_1 D m = e60_1 (E c60_1 []) := by unfold S60_1; rw [T60_3 hE, hE c60_1]; kernel_rfl
theorem T60_4b (hE : FX x60 D m E) (G4) : S60_4b D m (e60_4 G4) = e60_4 (E c60_4b [.lp v60_4 G4, .blk 2, .sj v60_1 c60_1]) := by unfold S60_4b; rw [T60_1 hE, hE c60_4b]; kernel_rfl
theorem T60_4 (hE : FX x60 D m E) : S60_4 D m = e60_4 (nrec (fun _ => none) (fun _ G4 st => E c60_4b [.lp v60_4 G4, .blk 2, .sj v60_1 c60_1] st) m) :=
  nrec_emb e60_4 (fun _ _ _ _ _ _ => none) (fun g => S60_4b D m g) (fun G4 st => E c60_4b [.lp v60_4 G4, .blk 2, .sj v60_1 c60_1] st) rfl (fun g => T60_4b hE g) m
theorem T60_0 (hE : FX x60 D m E) : S60_0 D m = e60_0 (E c60_0 []) := by unfold S60_0; rw [T60_4 hE, hE c60_0]; kernel_rfl
theorem T60_5b (hE : FX x60 D m E) (G5) : S60_5b D m (e60_5 G5) = e60_5 (E c60_5b [.lp v60_5 G5, .blk 0, .sj v60_0 c60_0]) := by unfold S60_5b; rw [T60_0 hE, hE c60_5b]; kernel_rfl
theorem T60_5 (hE : FX x60 D m E) : S60_5 D m = e60_5 (nrec (fun _ => none) (fun _ G5 st => E c60_5b [.lp v60_5 G5, .blk 0, .sj v60_0 c60_0] st) m) :=
  nrec_emb e60_5 (fun _ _ _ _ _ => none) (fun g => S60_5b D m g) (fun G5 st => E c60_5b [.lp v60_5 G5, .blk 0, .sj v60_0 c60_0] st) rfl (fun g => T60_5b hE g) m
theorem T60_6 (hE : FX x60 D m E) : S60_6 D m = e60_6 (E c60_e []) := by unfold S60_6; rw [T60_5 hE, hE c60_e]; kernel_rfl
theorem X60 : XTie S60 x60 := X_of fun D m E hE args h u => by unfold S60; rw [T60_6 hE]; kernel_rfl
/- 61 -/
def v61_1 : List Pos := []
def c61_1 : XC := (.sO [.mv p4 (ci 0) tI] (.s .ret))
def v61_2 : List Pos := [p0, p1, p6]
def c61_2b : XC := (.seq (.seq (.oX [.mv p19 q6 tI, .bn p20 .geq q19 (ci 0) .b]) (.cond q20 .skip (.exit 0))) (.seq (.block 1 (.seq (.oX [.mv p23 q0 .v, .mv p24 q6 tI, .cl p25 79 [q23, q24] tI, .mv p26 q1 .v, .mv p27 q6 tI, .cl p28 79 [q26, q27] tI, .mv p7 q25 tI, .mv p8 q28 tI]) (.seq (.seq (.oX [.mv p29 q7 tI, .mv p30 q8 tI, .bn p31 .lss q29 q30 .b]) (.cond q31 (.seq (.oX [.mv p4 (.c (.int .i64 (.negSucc 0))) tI]) .ret) .skip)) (.seq (.oX [.mv p32 q7 tI, .mv p33 q8 tI, .bn p34 .gtr q32 q33 .b]) (.cond q34 (.seq (.oX [.mv p4 (ci 1) tI]) .ret) .skip))))) (.s (.oX [.mv p21 q6 tI, .bn p22 .sub q21 (ci 1) tI, .mv p6 q22 tI]))))
def v61_0 : List Pos := [p0, p1, p5]
def c61_0 : XC := (.sj v61_1 (.sO [.mv p17 q5 tI, .bn p18 .sub q17 (ci 1) tI, .mv p6 q18 tI] (.block 0 (.loop v61_2 c61_2b))) c61_1)
def c61_e : XC := (.sO [.mv p4 (ci 0) tI] (.sO [.mv p9 q0 .v, .P p10 (.lenl q9) tI, .mv p5 q10 tI] (.sj v61_0 (.sO [.mv p11 q1 .v, .P p12 (.lenl q11) tI, .mv p13 q5 tI, .bn p14 .gtr q12 q13 .b] (.cond q14 (.s (.oX [.mv p15 q1 .v, .P p16 (.lenl q15) tI, .mv p5 q16 tI])) (.s .skip))) c61_0)))
def x61 : XFn := ⟨[.v, .v], false, [(.tmp p4)], c61_e⟩
def e61_1 (k h) := kN k [] h
def S61_1 (D : CallD) (m : Nat) (h : HP) : Res2 :=
 some (.ret (vI (Int.ofNat 0)) h, .no)
def e61_2 (k t0 t1 t6 h) := kN k [(p0, t0), (p1, t1), (p6, (vI t6))] h
def S61_2b (D : CallD) (m : Nat) (g2 : AV → AV → Int → HP → Res2) (t0 t1 : AV) (t6 : Int) (h : HP) : Res2 :=
 let t20 := leQ (Int.ofNat 0) t6
 br t20 (
 cal D 79 [t0, (vI t6)] h fun t25 h4 =>
 asI .i64 t25 fun t25a =>
 cal D 79 [t1, (vI t6)] h4 fun t28 h5 =>
 asI .i64 t28 fun t28a =>
 let t31 := ltQ t25a t28a
 br t31 (
 some (.ret (vI (Int.negSucc 0)) h5, .no)) (
 let t34 := ltQ t28a t25a
 br t34 (
 some (.ret (vI (Int.ofNat 1)) h5, .no)) (
 let t22 := wrQ .i64 (t6 - (Int.ofNat 1))
 g2 t0 t1 t22 h5))) (
 S61_1 D m h)
def S61_2 (D : CallD) (m : Nat) : AV → AV → Int → HP → Res2 := nrec (fun _ _ _ _ => none) (fun _ g => S61_2b D m g) m
def e61_0 (k t0 t1 t5 h) := kN k [(p0, t0), (p1, t1), (p5, (vI t5))] h
def S61_0 (D : CallD) (m : Nat) (t0 t1 : AV) (t5 : Int) (h : HP) : Res2 :=
 let t18 := wrQ .i64 (t5 - (Int.ofNat 1))
 S61_2 D m t0 t1 t18 h
def e61_3 (k t0 t1 h) := kN k [(p0, t0), (p1, t1)] h
def S61_3 (D : CallD) (m : Nat) (t0 t1 : AV) (h : HP) : Res2 :=
 lenC t0 fun vt10 => asI .i64 vt10 fun t10 =>
 lenC t1 fun vt12 => asI .i64 vt12 fun t12 =>
 let t14 := ltQ t10 t12
 br t14 (
 lenC t1 fun vt16 => asI .i64 vt16 fun t16 =>
 S61_0 D m t0 t1 t16 h) (
 S61_0 D m t0 t1 t10 h)
def S61 : SFn := fun D m args h u => nou u <| popV args fun t0 args => popV args fun t1 args => endA args (S61_3 D m t0 t1 h)
theorem T61_1 (hE : FX x61 D m E) : S61_1 D m = e61_1 (E c61_1 []) := by unfold S61_1; rw [hE c61_1]; kernel_rfl
theorem T61_2b (hE : FX x61 D m E) (G2) : S61_2b D m (e61_2 G2) = e61_2 (E c61_2b [.lp v61_2 G2, .blk 0, .sj v61_1 c61_1]) := by unfold S61_2b; rw [T61_1 hE, hE c61_2b]; kernel_rfl
theorem T61_2 (hE : FX x61 D m E) : S61_2 D m = e61_2 (nrec (fun _ => none) (fun _ G2 st => E c61_2b [.lp v61_2 G2, .blk 0, .sj v61_1 c61_1] st) m) :=
  nrec_emb e61_2 (fun _ _ _ _ => none) (fun g => S61_2b D m g) (fun G2 st => E c61_2b [.lp v61_2 G2, .blk 0, .sj v61_1 c61_1] st) rfl (fun g => T61_2b hE g) m
theorem T61_0 (hE : FX x61 D m E) : S61_0 D m = e61_0 (E c61_0 []) := by unfold S61_0; rw [T61_2 hE, hE c61_0]; kernel_rfl
theorem T61_3 (hE : FX x61 D m E) : S61_3 D m = e61_3 (E c61_e []) := by unfold S61_3; rw [T61_0 hE, hE c61_e]; kernel_rfl
theorem X61 : XTie S61 x61 := X_of fun D m E hE args h u => by unfold S61; rw [T61_3 hE]; kernel_rfl
/- 62 -/
def v62_0 : List Pos := [p5]
def c62_0 : XC := (.sO [.mv p33 q5 .v, .cl p34 80 [q33] .v, .mv p4 q34 .v] (.s .ret))
def v62_2 : List Pos := [p0, p1, p5, p6, p10, p11]
def c62_2 : XC := (.s (.oX [.bn p32 .add q11 (ci 1) tI, .mv p11 q32 tI]))
def v62_3 : List Pos := [p0, p1, p5, p6, p8, p10, p11]
def c62_3 : XC := (.s (.oX [.mv p28 q5 .v, .mv p29 q8 tI, .al p30 (.bsl [(kI 0)] 1 [⟨0, 1, q29⟩]), .o ⟨(some p31), (.e (.app 1 8 q28 q30)), none, []⟩ .v, .mv p5 q31 .v]))
def v62_1 : List Pos := [p0, p1, p5, p6, p10, p11]
def c62_1b : XC := (.sO [.bn p12 .lss q11 q10 .b] (.seq (.cond q12 .skip (.exit 0)) (.sj v62_2 (.block 1 (.sO [.mv p13 q11 tI, .mv p7 q13 tI] (.seq (.ops true (XL.of [.mv p14 q0 .v, .mv p15 q7 tI, .P p16 (.iaddr (.sl 1) q14 q15) .v, .ld p17 q16 tI, .mv p18 q1 .v, .mv p19 q7 tI, .mv p22 q6 tI, .o ⟨(some p20), (.call (.fn 79) [q18, q19]), none, [⟨none, .cell q16, p17⟩]⟩ tI, .bn p21 .sub q17 q20 tI, .bn p23 .sub q21 q22 tI, .mv p8 q23 tI])) (.sO [.mv p6 (ci 0) tI] (.sj v62_3 (.sO [.mv p24 q8 tI, .bn p25 .lss q24 (ci 0) .b] (.cond q25 (.sO [.mv p26 q8 tI, .bn p27 .add q26 (ci 65536) tI, .mv p8 q27 tI] (.s (.oX [.mv p6 (ci 1) tI]))) (.s .skip))) c62_3))))) c62_2)))
def c62_e : XC := (.sO [.mv p4 (.c .nils) .v] (.sO [.mv p5 (.c .nils) .v] (.sO [.mv p6 (ci 0) tI] (.sj v62_0 (.sO [.mv p9 q0 .v, .P p10 (.lenl q9) tI, .mv p11 (ci 0) tI] (.block 0 (.loop v62_1 c62_1b))) c62_0))))
def x62 : XFn := ⟨[.v, .v], false, [(.tmp p4)], c62_e⟩
def e62_0 (k t5 h) := kN k [(p5, t5)] h
def S62_0 (D : CallD) (m : Nat) (t5 : AV) (h : HP) : Res2 :=
 cal D 80 [t5] h fun t34 h5 =>
 some (.ret t34 h5, .no)
def e62_2 (k t0 t1 t5 t6 t10 t11 h) := kN k [(p0, t0), (p1, t1), (p5, t5), (p6, (vI t6)), (p10, (vI t10)), (p11, (vI t11))] h
def S62_2 (D : CallD) (m : Nat) (g1 : AV → AV → AV → Int → Int → Int → HP → Res2) (t0 t1 t5 : AV) (t6 t10 t11 : Int) (h : HP) : Res2 :=
 let t32 := wrQ .i64 (addQ t11 (Int.ofNat 1))
 g1 t0 t1 t5 t6 t10 t32 h
def e62_3 (k t0 t1 t5 t6 t8 t10 t11 h) := kN k [(p0, t0), (p1, t1), (p5, t5), (p6, (vI t6)), (p8, (vI t8)), (p10, (vI t10)), (p11, (vI t11))] h
def S62_3 (D : CallD) (m : Nat) (g1 : AV → AV → AV → Int → Int → Int → HP → Res2) (t0 t1 t5 : AV) (t6 t8 t10 t11 : Int) (h : HP) : Res2 :=
 let t30 := AV.slice (HP.nxQ h) 0 1 (.exact 1)
 let h7 := HP.newQ h (.cells true [(vI t8)])
 eff (.app 1 8 (.c t5) (.c t30)) h7 fun t31 h8 =>
 S62_2 D m g1 t0 t1 t31 t6 t10 t11 h8
def e62_1 (k t0 t1 t5 t6 t10 t11 h) := kN k [(p0, t0), (p1, t1), (p5, t5), (p6, (vI t6)), (p10, (vI t10)), (p11, (vI t11))] h
def S62_1b (D : CallD) (m : Nat) (g1 : AV → AV → AV → Int → Int → Int → HP → Res2) (t0 t1 t5 : AV) (t6 t10 t11 : Int) (h : HP) : Res2 :=
 let t12 := ltQ t11 t10
 br t12 (
 iasC 1 t0 (vI t11) fun t16 =>
 ldI t16 h fun t17 =>
 cal D 79 [t1, (vI t11)] h fun t20 h6 =>
 br (again [⟨none, .cell q16, p17⟩] (mkT [(p17, (vI t17)), (p16, t16)]) h6) (
 asI .i64 t20 fun t20a =>
 let t21 := wrQ .i64 (t17 - t20a)
 let t23 := wrQ .i64 (t21 - t6)
 let t25 := ltQ t23 (Int.ofNat 0)
 br t25 (
 let t27 := wrQ .i64 (addQ t23 (Int.ofNat 65536))
 S62_3 D m g1 t0 t1 t5 (Int.ofNat 1) t27 t10 t11 h6) (
 S62_3 D m g1 t0 t1 t5 (Int.ofNat 0) t23 t10 t11 h6)) none) (
 S62_0 D m t5 h)
def S62_1 (D : CallD) (m : Nat) : AV → AV → AV → Int → Int → Int → HP → Res2 := nrec (fun _ _ _ _ _ _ _ => none) (fun _ g => S62_1b D m g) m
def e62_4 (k t0 t1 h) := kN k [(p0, t0), (p1, t1)] h
def S62_4 (D : CallD) (m : Nat) (t0 t1 : AV) (h : HP) : Res2 :=
 lenC t0 fun vt10 => asI .i64 vt10 fun t10 =>
 S62_1 D m t0 t1 (.nils : AV) (Int.ofNat 0) t10 (Int.ofNat 0) h
def S62 : SFn := fun D m args h u => nou u <| popV args fun t0 args => popV args fun t1 args => endA args (S62_4 D m t0 t1 h)
theorem T62_0 (hE : FX x62 D m E) : S62_0 D m = e62_0 (E c62_0 []) := by unfold S62_0; rw [hE c62_0]; kernel_rfl
theorem T62_2 (hE : FX x62 D m E) (G1) : S62_2 D m (e62_1 G1) = e62_2 (E c62_2 [.lp v62_1 G1, .blk 0, .sj v62_0 c62_0]) := by unfold S62_2; rw [hE c62_2]; kernel_rfl
theorem T62_3 (hE : FX x62 D m E) (G1) : S62_3 D m (e62_1 G1) = e62_3 (E c62_3 [.blk 1, .sj v62_2 c62_2, .lp v62_1 G1, .blk 0, .sj v62_0 c62_0]) := by unfold S62_3; rw [T62_2 hE G1, hE c62_3]; kernel_rfl
theorem T62_1b (hE : FX x62 D m E) (G1) : S62_1b D m (e62_1 G1) = e62_1 (E c62_1b [.lp v62_1 G1, .blk 0, .sj v62_0 c62_0]) := by unfold S62_1b; rw [T62_3 hE G1, T62_0 hE, hE c62_1b]; kernel_rfl
theorem T62_1 (hE : FX x62 D m E) : S62_1 D m = e62_1 (nrec (fun _ => none) (fun _ G1 st => E c62_1b [.lp v62_1 G1, .blk 0, .sj v62_0 c62_0] st) m) :=
  nrec_emb e62_1 (fun _ _ _ _ _ _ _ => none) (fun g => S62_1b D m g) (fun G1 st => E c62_1b [.lp v62_1 G1, .blk 0, .sj v62_0 c62_0] st) rfl (fun g => T62_1b hE g) m
theorem T62_4 (hE : FX x62 D m E) : S62_4 D m = e62_4 (E c62_e []) := by unfold S62_4; rw [T62_1 hE, hE c62_e]; kernel_rfl
theorem X62 : XTie S62 x62 := X_of fun D m E hE args h u => by unfold S62; rw [T62_4 hE]; kernel_rfl
/- 63 -/
def v63_0 : List Pos := [p3]
def c63_0 : XC := (.sO [.mv p24 q3 tI, .mv p2 q24 tI] (.s .ret))
def v63_1 : List Pos := [p3, p4]
def c63_1b : XC := (.seq (.seq (.oX [.mv p18 q4 tI, .bn p19 .gtr q18 (ci 0) .b]) (.cond q19 .skip (.exit 0))) (.seq (.block 1 (.oX [.mv p22 q3 tI, .bn p23 .add q22 (ci 1) tI, .mv p3 q23 tI])) (.s (.oX [.mv p20 q4 tI, .bn p21 .quo q20 (ci 2) tI, .mv p4 q21 tI]))))
def c63_e : XC := (.sO [.mv p2 (ci 0) tI] (.seq (.seq (.oX [.mv p5 q0 .v, .P p6 (.lenl q5) tI, .bn p7 .eql q6 (ci 0) .b]) (.cond q7 (.seq (.oX [.mv p2 (ci 0) tI]) .ret) .skip)) (.sO [.mv p8 q0 .v, .P p9 (.lenl q8) tI, .bn p10 .sub q9 (ci 1) tI, .bn p11 .mul (ci 16) q10 tI, .mv p3 q11 tI] (.sj v63_0 (.sO [.mv p12 q0 .v, .mv p13 q0 .v, .P p14 (.lenl q13) tI, .bn p15 .sub q14 (ci 1) tI, .P p16 (.iaddr (.sl 1) q12 q15) .v, .ld p17 q16 tI, .mv p4 q17 tI] (.block 0 (.loop v63_1 c63_1b))) c63_0))))
def x63 : XFn := ⟨[.v], false, [(.tmp p2)], c63_e⟩
def e63_0 (k t3 h) := kN k [(p3, (vI t3))] h
def S63_0 (D : CallD) (m : Nat) (t3 : Int) (h : HP) : Res2 :=
 some (.ret (vI t3) h, .no)
def e63_1 (k t3 t4 h) := kN k [(p3, (vI t3)), (p4, (vI t4))] h
def S63_1b (D : CallD) (m : Nat) (g1 : Int → Int → HP → Res2) (t3 t4 : Int) (h : HP) : Res2 :=
 let t19 := ltQ (Int.ofNat 0) t4
 br t19 (
 let t23 := wrQ .i64 (addQ t3 (Int.ofNat 1))
 let t21 := wrapF .i64 (Int.tdiv t4 (Int.ofNat 2))
 g1 t23 t21 h) (
 S63_0 D m t3 h)
def S63_1 (D : CallD) (m : Nat) : Int → Int → HP → Res2 := nrec (fun _ _ _ => none) (fun _ g => S63_1b D m g) m
def e63_2 (k t0 h) := kN k [(p0, t0)] h
def S63_2 (D : CallD) (m : Nat) (t0 : AV) (h : HP) : Res2 :=
 lenC t0 fun vt6 => asI .i64 vt6 fun t6 =>
 let t7 := eqQ t6 (Int.ofNat 0)
 br t7 (
 some (.ret (vI (Int.ofNat 0)) h, .no)) (
 lenC t0 fun vt9 => asI .i64 vt9 fun t9 =>
 let t10 := wrQ .i64 (t9 - (Int.ofNat 1))
 let t11 := wrQ .i64 ((Int.ofNat 16) * t10)
 lenC t0 fun vt14 => asI .i64 vt14 fun t14 =>
 let t15 := wrQ .i64 (t14 - (Int.ofNat 1))
 iasC 1 t0 (vI t15) fun t16 =>
 ldI t16 h fun t17 =>
 S63_1 D m t11 t17 h)
def S63 : SFn := fun D m args h u => nou u <| popV args fun t0 args => endA args (S63_2 D m t0 h)
theorem T63_0 (hE : FX x63 D m E) : S63_0 D m = e63_0 (E c63_0 []) := by unfold S63_0; rw [hE c63_0]; kernel_rfl
theorem T63_1b (hE : FX x63 D m E) (G1) : S63_1b D m (e63_1 G1) = e63_1 (E c63_1b [.lp v63_1 G1, .blk 0, .sj v63_0 c63_0]) := by unfold S63_1b; rw [T63_0 hE, hE c63_1b]; kernel_rfl
theorem T63_1 (hE : FX x63 D m E) : S63_1 D m = e63_1 (nrec (fun _ => none) (fun _ G1 st => E c63_1b [.lp v63_1 G1, .blk 0, .sj v63_0 c63_0] st) m) :=
  nrec_emb e63_1 (fun _ _ _ => none) (fun g => S63_1b D m g) (fun G1 st => E c63_1b [.lp v63_1 G1, .blk 0, .sj v63_0 c63_0] st) rfl (fun g => T63_1b hE g) m
theorem T63_2 (hE : FX x63 D m E) : S63_2 D m = e63_2 (E c63_e []) := by unfold S63_2; rw [T63_1 hE, hE c63_e]; kernel_rfl
theorem X63 : XTie S63 x63 := X_of fun D m E hE args h u => by unfold S63; rw [T63_2 hE]; kernel_rfl
/- 64 -/
def v64_0 : List Pos := [p0, p6]
def c64_0 : XC := (.sO [.mv p27 q6 tI, .mv p28 q0 .v, .mv p4 q27 tI, .mv p5 q28 .v] (.s .ret))
def v64_2 : List Pos := [p0, p6, p7, p8]
def c64_2 : XC := (.sO [.mv p23 q8 .v, .cl p24 82 [q23] .v, .mv p8 q24 .v] (.s (.oX [.mv p25 q7 tI, .bn p26 .quo q25 (ci 2) tI, .mv p7 q26 tI])))
def v64_1 : List Pos := [p0, p6, p7, p8]
def c64_1b : XC := (.seq (.seq (.oX [.mv p11 q7 tI, .bn p12 .gtr q11 (ci 0) .b]) (.cond q12 .skip (.exit 0))) (.block 1 (.sj v64_2 (.sO [.mv p13 q0 .v, .mv p14 q8 .v, .cl p15 61 [q13, q14] tI, .bn p16 .geq q15 (ci 0) .b] (.cond q16 (.sO [.mv p17 q0 .v, .mv p18 q8 .v, .cl p19 62 [q17, q18] .v, .mv p0 q19 .v] (.s (.oX [.mv p20 q6 tI, .mv p21 q7 tI, .bn p22 .add q20 q21 tI, .mv p6 q22 tI]))) (.s .skip))) c64_2)))
def c64_e : XC := (.sO [.mv p4 (ci 0) tI, .mv p5 (.c .nils) .v] (.sO [.mv p6 (ci 0) tI, .mv p7 (ci 72057594037927936) tI] (.sO [.mv p9 q1 .v, .cl p10 60 [q9, (ci 56)] .v, .mv p8 q10 .v] (.sj v64_0 (.block 0 (.loop v64_1 c64_1b)) c64_0))))
def x64 : XFn := ⟨[.v, .v], false, [(.tmp p4), (.tmp p5)], c64_e⟩
def e64_0 (k t0 t6 h) := kN k [(p0, t0), (p6, (vI t6))] h
def S64_0 (D : CallD) (m : Nat) (t0 : AV) (t6 : Int) (h : HP) : Res2 :=
 some (.ret (.tup [(vI t6), t0]) h, .no)
def e64_2 (k t0 t6 t7 t8 h) := kN k [(p0, t0), (p6, (vI t6)), (p7, (vI t7)), (p8, t8)] h
def S64_2 (D : CallD) (m : Nat) (g1 : AV → Int → Int → AV → HP → Res2) (t0 : AV) (t6 t7 : Int) (t8 : AV) (h : HP) : Res2 :=
 cal D 82 [t8] h fun t24 h5 =>
 let t26 := wrapF .i64 (Int.tdiv t7 (Int.ofNat 2))
 g1 t0 t6 t26 t24 h5
def e64_1 (k t0 t6 t7 t8 h) := kN k [(p0, t0), (p6, (vI t6)), (p7, (vI t7)), (p8, t8)] h
def S64_1b (D : CallD) (m : Nat) (g1 : AV → Int → Int → AV → HP → Res2) (t0 : AV) (t6 t7 : Int) (t8 : AV) (h : HP) : Res2 :=
 let t12 := ltQ (Int.ofNat 0) t7
 br t12 (
 cal D 61 [t0, t8] h fun t15 h6 =>
 asI .i64 t15 fun t15a =>
 let t16 := leQ (Int.ofNat 0) t15a
 br t16 (
 cal D 62 [t0, t8] h6 fun t19 h7 =>
 let t22 := wrQ .i64 (addQ t6 t7)
 S64_2 D m g1 t19 t22 t7 t8 h7) (
 S64_2 D m g1 t0 t6 t7 t8 h6)) (
 S64_0 D m t0 t6 h)
def S64_1 (D : CallD) (m : Nat) : AV → Int → Int → AV → HP → Res2 := nrec (fun _ _ _ _ _ => none) (fun _ g => S64_1b D m g) m
def e64_3 (k t0 t1 h) := kN k [(p0, t0), (p1, t1)] h
def S64_3 (D : CallD) (m : Nat) (t0 t1 : AV) (h : HP) : Res2 :=
 cal D 60 [t1, (vI (Int.ofNat 56))] h fun t10 h4 =>
 S64_1 D m t0 (Int.ofNat 0) (Int.ofNat 72057594037927936) t10 h4
def S64 : SFn := fun D m args h u => nou u <| popV args fun t0 args => popV args fun t1 args => endA args (S64_3 D m t0 t1 h)
theorem T64_0 (hE : FX x64 D m E) : S64_0 D m = e64_0 (E c64_0 []) := by unfold S64_0; rw [hE c64_0]; kernel_rfl
theorem T64_2 (hE : FX x64 D m E) (G1) : S64_2 D m (e64_1 G1) = e64_2 (E c64_2 [.blk 1, .lp v64_1 G1, .blk 0, .sj v64_0 c64_0]) := by unfold S64_2; rw [hE c64_2]; kernel_rfl
theorem T64_1b (hE : FX x64 D m E) (G1) : S64_1b D m (e64_1 G1) = e64_1 (E c64_1b [.lp v64_1 G1, .blk 0, .sj v64_0 c64_0]) := by unfold S64_1b; rw [T64_2 hE G1, T64_0 hE, hE c64_1b]; kernel_rfl
theorem T64_1 (hE : FX x64 D m E) : S64_1 D m = e64_1 (nrec (fun _ => none) (fun _ G1 st => E c64_1b [.lp v64_1 G1, .blk 0, .sj v64_0 c64_0] st) m) :=
  nrec_emb e64_1 (fun _ _ _ _ _ => none) (fun g => S64_1b D m g) (fun G1 st => E c64_1b [.lp v64_1 G1, .blk 0, .sj v64_0 c64_0] st) rfl (fun g => T64_1b hE g) m
theorem T64_3 (hE : FX x64 D m E) : S64_3 D m = e64_3 (E c64_e []) := by unfold S64_3; rw [T64_1 hE, hE c64_e]; kernel_rfl
theorem X64 : XTie S64 x64 := X_of fun D m E hE args h u => by unfold S64; rw [T64_3 hE]; kernel_rfl
/- 74 -/
def c74_e : XC := (.sO [.mv p4 (.c (.str [])) .s] (.seq (.seq (.oX [.mv p7 q0 .s, .bn p8 .eql q7 (.c (.str [])) .b, .mv p9 q8 .b, .ge p9 (XL.of [.G p9 false p10 (.mov q1) .s, .G p9 false p11 (.bin .eql q10 (.c (.str []))) .b, .P p12 (.pick q9 (cb true) q11) .b]) p12 .b]) (.cond q12 (.seq (.oX [.mv p13 q0 .s, .mv p4 q13 .s]) .ret) .skip)) (.seq (.seq (.oX [.mv p14 q1 .s, .P p15 (.lens q14) tI, .bn p16 .eql q15 (ci 1) .b, .mv p17 q16 .b, .ge p17 (XL.of [.G p17 true p18 (.mov q1) .s, .G p17 true p19 (.idxs q18 (ci 0)) tC, .G p17 true p20 (.bin .lss q19 (.c (.int .u8 (.ofNat 128)))) .b, .P p21 (.pick q17 q20 (cb false)) .b]) p21 .b]) (.cond q21 (.seq (.oX [.mv p22 q0 .s, .mv p23 q1 .s, .P p24 (.idxs q23 (ci 0)) tC, .cl p25 93 [q22, q24] .s, .mv p4 q25 .s]) .ret) .skip)) (.seq (.seq (.oX [.mv p27 q1 .s, .cl p28 94 [q27] .v, .mv p26 q28 .v, .P p29 (.ext q26 0) .v, .P p30 (.ext q26 1) .b, .al p5 (.new [(.bool false), (.bool false), (.bool false), (.bool false), (.bool false), (.bool false), (.bool false), (.bool false), (.bool false), (.bool false), (.bool false), (.bool false), (.bool false), (.bool false), (.bool false), (.bool false), (.bool false), (.bool false), (.bool false), (.bool false), (.bool false), (.bool false), (.bool false), (.bool false), (.bool false), (.bool false), (.bool false), (.bool false), (.bool false), (.bool false), (.bool false), (.bool false), (.bool false), (.bool false), (.bool false), (.bool false), (.bool false), (.bool false), (.bool false), (.bool false), (.bool false), (.bool false), (.bool false), (.bool false), (.bool false), (.bool false), (.bool false), (.bool false), (.bool false), (.bool false), (.bool false), (.bool false), (.bool false), (.bool false), (.bool false), (.bool false), (.bool false), (.bool false), (.bool false), (.bool false), (.bool false), (.bool false), (.bool false), (.bool false), (.bool false), (.bool false), (.bool false), (.bool false), (.bool false), (.bool false), (.bool false), (.bool false), (.bool false), (.bool false), (.bool false), (.bool false), (.bool false), (.bool false), (.bool false), (.bool false), (.bool false), (.bool false), (.bool false), (.bool false), (.bool false), (.bool false), (.bool false), (.bool false), (.bool false), (.bool false), (.bool false), (.bool false), (.bool false), (.bool false), (.bool false), (.bool false), (.bool false), (.bool false), (.bool false), (.bool false), (.bool false), (.bool false), (.bool false), (.bool false), (.bool false), (.bool false), (.bool false), (.bool false), (.bool false), (.bool false), (.bool false), (.bool false), (.bool false), (.bool false), (.bool false), (.bool false), (.bool false), (.bool false), (.bool false), (.bool false), (.bool false), (.bool false), (.bool false), (.bool false), (.bool false), (.bool false), (.bool false), (.bool false), (.bool false), (.bool false), (.bool false), (.bool false), (.bool false), (.bool false), (.bool false), (.bool false), (.bool false), (.bool false), (.bool false), (.bool false), (.bool false), (.bool false), (.bool false), (.bool false), (.bool false), (.bool false), (.bool false), (.bool false), (.bool false), (.bool false), (.bool false), (.bool false), (.bool false), (.bool false), (.bool false), (.bool false), (.bool false), (.bool false), (.bool false), (.bool false), (.bool false), (.bool false), (.bool false), (.bool false), (.bool false), (.bool false), (.bool false), (.bool false), (.bool false), (.bool false), (.bool false), (.bool false), (.bool false), (.bool false), (.bool false), (.bool false), (.bool false), (.bool false), (.bool false), (.bool false), (.bool false), (.bool false), (.bool false), (.bool false), (.bool false), (.bool false), (.bool false), (.bool false), (.bool false), (.bool false), (.bool false), (.bool false), (.bool false), (.bool false), (.bool false), (.bool false), (.bool false), (.bool false), (.bool false), (.bool false), (.bool false), (.bool false), (.bool false), (.bool false), (.bool false), (.bool false), (.bool false), (.bool false), (.bool false), (.bool false), (.bool false), (.bool false), (.bool false), (.bool false), (.bool false), (.bool false), (.bool false), (.bool false), (.bool false), (.bool false), (.bool false), (.bool false), (.bool false), (.bool false), (.bool false), (.bool false), (.bool false), (.bool false), (.bool false), (.bool false), (.bool false), (.bool false), (.bool false), (.bool false), (.bool false), (.bool false), (.bool false), (.bool false), (.bool false), (.bool false), (.bool false), (.bool false), (.bool false), (.bool false), (.bool false), (.bool false), (.bool false), (.bool false), (.bool false), (.bool false), (.bool false), (.bool false), (.bool false), (.bool false), (.bool false), (.bool false)]), .ss 256 q5 q29, .mv p6 q30 .b]) (.seq (.oX [.mv p31 q6 .b]) (.cond q31 (.seq (.oX [.mv p32 q0 .s, .cl p33 95 [q32, q5] .s, .mv p4 q33 .s]) .ret) .skip))) (.sO [.mv p34 q0 .s, .mv p35 q1 .s, .cl p36 96 [q34, q35] .s, .mv p4 q36 .s] (.s .ret))))))
def x74 : XFn := ⟨[.s, .s], false, [(.tmp p4)], c74_e⟩
def e74_0 (k t0 t1 h) := kN k [(p0, (vS t0)), (p1, (vS t1))] h
def S74_0 (D : CallD) (m : Nat) (t0 t1 : LN) (h : HP) : Res2 :=
 let t8 := eqL t0 ([] : LN)
 obB (brV t8 (
 some (vB true)) (
 let t11 := eqL t1 ([] : LN)
 some (vB t11))) fun t12 =>
 br t12 (
 some (.ret (vS t0) h, .no)) (
 let t15 := Int.ofNat (lenL t1)
 let t16 := eqQ t15 (Int.ofNat 1)
 obB (brV t16 (
 ixCV (vS t1) (vI (Int.ofNat 0)) fun vt19 => asIV .u8 vt19 fun t19 =>
 let t20 := ltQ t19 (Int.ofNat 128)
 some (vB t20)) (
 some (vB false))) fun t21 =>
 br t21 (
 ixC (vS t1) (vI (Int.ofNat 0)) fun vt24 => asI .u8 vt24 fun t24 =>
 cal D 93 [(vS t0), (vC t24)] h fun t25 h1 =>
 asS t25 fun t25a =>
 some (.ret (vS t25a) h1, .no)) (
 cal D 94 [(vS t1)] h fun t28 h2 =>
 extC t28 0 fun t29 =>
 extC t28 1 fun vt30 => asB vt30 fun t30 =>
 let t5 := AV.ptr (HP.nxQ h2) 0
 let h3 := HP.newQ h2 (.cells true [(.bool false), (.bool false), (.bool false), (.bool false), (.bool false), (.bool false), (.bool false), (.bool false), (.bool false), (.bool false), (.bool false), (.bool false), (.bool false), (.bool false), (.bool false), (.bool false), (.bool false), (.bool false), (.bool false), (.bool false), (.bool false), (.bool false), (.bool false), (.bool false), (.bool false), (.bool false), (.bool false), (.bool false), (.bool false), (.bool false), (.bool false), (.bool false), (.bool false), (.bool false), (.bool false), (.bool false), (.bool false), (.bool false), (.bool false), (.bool false), (.bool false), (.bool false), (.bool false), (.bool false), (.bool false), (.bool false), (.bool false), (.bool false), (.bool false), (.bool false), (.bool false), (.bool false), (.bool false), (.bool false), (.bool false), (.bool false), (.bool false), (.bool false), (.bool false), (.bool false), (.bool false), (.bool false), (.bool false), (.bool false), (.bool false), (.bool false), (.bool false), (.bool false), (.bool false), (.bool false), (.bool false), (.bool false), (.bool false), (.bool false), (.bool false), (.bool false), (.bool false), (.bool false), (.bool false), (.bool false), (.bool false), (.bool false), (.bool false), (.bool false), (.bool false), (.bool false), (.bool false), (.bool false), (.bool false), (.bool false), (.bool false), (.bool false), (.bool false), (.bool false), (.bool false), (.bool false), (.bool false), (.bool false), (.bool false), (.bool false), (.bool false), (.bool false), (.bool false), (.bool false), (.bool false), (.bool false), (.bool false), (.bool false), (.bool false), (.bool false), (.bool false), (.bool false), (.bool false), (.bool false), (.bool false), (.bool false), (.bool false), (.bool false), (.bool false), (.bool false), (.bool false), (.bool false), (.bool false), (.bool false), (.bool false), (.bool false), (.bool false), (.bool false), (.bool false), (.bool false), (.bool false), (.bool false), (.bool false), (.bool false), (.bool false), (.bool false), (.bool false), (.bool false), (.bool false), (.bool false), (.bool false), (.bool false), (.bool false), (.bool false), (.bool false), (.bool false), (.bool false), (.bool false), (.bool false), (.bool false), (.bool false), (.bool false), (.bool false), (.bool false), (.bool false), (.bool false), (.bool false), (.bool false), (.bool false), (.bool false), (.bool false), (.bool false), (.bool false), (.bool false), (.bool false), (.bool false), (.bool false), (.bool false), (.bool false), (.bool false), (.bool false), (.bool false), (.bool false), (.bool false), (.bool false), (.bool false), (.bool false), (.bool false), (.bool false), (.bool false), (.bool false), (.bool false), (.bool false), (.bool false), (.bool false), (.bool false), (.bool false), (.bool false), (.bool false), (.bool false), (.bool false), (.bool false), (.bool false), (.bool false), (.bool false), (.bool false), (.bool false), (.bool false), (.bool false), (.bool false), (.bool false), (.bool false), (.bool false), (.bool false), (.bool false), (.bool false), (.bool false), (.bool false), (.bool false), (.bool false), (.bool false), (.bool false), (.bool false), (.bool false), (.bool false), (.bool false), (.bool false), (.bool false), (.bool false), (.bool false), (.bool false), (.bool false), (.bool false), (.bool false), (.bool false), (.bool false), (.bool false), (.bool false), (.bool false), (.bool false), (.bool false), (.bool false), (.bool false), (.bool false), (.bool false), (.bool false), (.bool false), (.bool false), (.bool false), (.bool false), (.bool false), (.bool false), (.bool false), (.bool false), (.bool false), (.bool false), (.bool false), (.bool false), (.bool false), (.bool false), (.bool false), (.bool false), (.bool false), (.bool false), (.bool false), (.bool false)])
 stsC 256 t5 t29 h3 fun h4 =>
 br t30 (
 cal D 95 [(vS t0), t5] h4 fun t33 h5 =>
 asS t33 fun t33a =>
 some (.ret (vS t33a) h5, .no)) (
 cal D 96 [(vS t0), (vS t1)] h4 fun t36 h6 =>
 asS t36 fun t36a =>
 some (.ret (vS t36a) h6, .no))))
def S74 : SFn := fun D m args h u => nou u <| popS args fun t0 args => popS args fun t1 args => endA args (S74_0 D m t0 t1 h)
theorem T74_0 (hE : FX x74 D m E) : S74_0 D m = e74_0 (E c74_e []) := by unfold S74_0; rw [hE c74_e]; kernel_rfl
theorem X74 : XTie S74 x74 := X_of fun D m E hE args h u => by unfold S74; rw [T74_0 hE]; kernel_rfl
/- 75 -/
def c75_e : XC := (.sO [.mv p4 (.c (.str [])) .s, .mv p5 (cb false) .b] (.seq (.seq (.oX [.mv p6 q0 .s, .mv p7 q1 .s, .cl p8 90 [q6, q7] .b, .P p9 (.un .not q8) .b]) (.cond q9 (.seq (.oX [.mv p10 q0 .s, .mv p4 q10 .s, .mv p5 (cb false) .b]) .ret) .skip)) (.sO [.mv p11 q0 .s, .mv p12 q1 .s, .P p13 (.lens q12) tI, .P p14 (.slice .str q11 (some q13) none none) .s, .mv p4 q14 .s, .mv p5 (cb true) .b] (.s .ret))))
def x75 : XFn := ⟨[.s, .s], false, [(.tmp p4), (.tmp p5)], c75_e⟩
def e75_0 (k t0 t1 h) := kN k [(p0, (vS t0)), (p1, (vS t1))] h
def S75_0 (D : CallD) (m : Nat) (t0 t1 : LN) (h : HP) : Res2 :=
 cal D 90 [(vS t0), (vS t1)] h fun t8 h1 =>
 asB t8 fun t8a =>
 let t9 := !t8a
 br t9 (
 some (.ret (.tup [(vS t0), (vB false)]) h1, .no)) (
 let t13 := Int.ofNat (lenL t1)
 slC (vS t0) (some (vI t13)) none fun vt14 => asS vt14 fun t14 =>
 some (.ret (.tup [(vS t14), (vB true)]) h1, .no))
def S75 : SFn := fun D m args h u => nou u <| popS args fun t0 args => popS args fun t1 args => endA args (S75_0 D m t0 t1 h)
theorem T75_0 (hE : FX x75 D m E) : S75_0 D m = e75_0 (E c75_e []) := by unfold S75_0; rw [hE c75_e]; kernel_rfl
theorem X75 : XTie S75 x75 := X_of fun D m E hE args h u => by unfold S75; rw [T75_0 hE]; kernel_rfl
/- 76 -/
def c76_e : XC := (.sO [.mv p4 (.c (.flt .f64 0)) .v, .mv p5 (.c .nili) .v] (.sO [.mv p10 q0 .s, .mv p11 q1 tI, .cl p12 97 [q10, q11] .v, .mv p9 q12 .v, .P p13 (.ext q9 0) .v, .P p14 (.ext q9 1) tI, .P p15 (.ext q9 2) .v, .mv p6 q13 .v, .mv p7 q14 tI, .mv p8 q15 .v] (.seq (.seq (.oX [.mv p16 q7 tI, .mv p17 q0 .s, .P p18 (.lens q17) tI, .bn p19 .neq q16 q18 .b]) (.cond q19 (.seq (.oX [.P p20 (.mkif 121 (ci 2)) .v, .mv p4 (.c (.flt .f64 0)) .v, .mv p5 q20 .v]) .ret) .skip)) (.sO [.mv p21 q6 .v, .mv p22 q8 .v, .mv p4 q21 .v, .mv p5 q22 .v] (.s .ret)))))
def x76 : XFn := ⟨[.s, tI], false, [(.tmp p4), (.tmp p5)], c76_e⟩
def e76_0 (k t0 t1 h) := kN k [(p0, (vS t0)), (p1, (vI t1))] h
def S76_0 (D : CallD) (m : Nat) (t0 : LN) (t1 : Int) (h : HP) : Res2 :=
 cal D 97 [(vS t0), (vI t1)] h fun t12 h1 =>
 extC t12 0 fun t13 =>
 extC t12 1 fun vt14 => asI .i64 vt14 fun t14 =>
 extC t12 2 fun t15 =>
 let t18 := Int.ofNat (lenL t0)
 let t19 := notQ (eqQ t14 t18)
 br t19 (
 let t20 := (AV.iface 121 (vI (Int.ofNat 2)))
 some (.ret (.tup [((.flt .f64 0) : AV), t20]) h1, .no)) (
 some (.ret (.tup [t13, t15]) h1, .no))
def S76 : SFn := fun D m args h u => nou u <| popS args fun t0 args => popI .i64 args fun t1 args => endA args (S76_0 D m t0 t1 h)
theorem T76_0 (hE : FX x76 D m E) : S76_0 D m = e76_0 (E c76_e []) := by unfold S76_0; rw [hE c76_e]; kernel_rfl
theorem X76 : XTie S76 x76 := X_of fun D m E hE args h u => by unfold S76; rw [T76_0 hE]; kernel_rfl
/- 79 -/
def c79_e : XC := (.sO [.mv p4 (ci 0) tI] (.seq (.seq (.oX [.mv p5 q1 tI, .mv p6 q0 .v, .P p7 (.lenl q6) tI, .bn p8 .lss q5 q7 .b]) (.cond q8 (.seq (.oX [.mv p9 q0 .v, .mv p10 q1 tI, .P p11 (.iaddr (.sl 1) q9 q10) .v, .ld p12 q11 tI, .mv p4 q12 tI]) .ret) .skip)) (.sO [.mv p4 (ci 0) tI] (.s .ret))))
def x79 : XFn := ⟨[.v, tI], false, [(.tmp p4)], c79_e⟩
def e79_0 (k t0 t1 h) := kN k [(p0, t0), (p1, (vI t1))] h
def S79_0 (D : CallD) (m : Nat) (t0 : AV) (t1 : Int) (h : HP) : Res2 :=
 lenC t0 fun vt7 => asI .i64 vt7 fun t7 =>
 let t8 := ltQ t1 t7
 br t8 (
 iasC 1 t0 (vI t1) fun t11 =>
 ldI t11 h fun t12 =>
 some (.ret (vI t12) h, .no)) (
 some (.ret (vI (Int.ofNat 0)) h, .no))
def S79 : SFn := fun D m args h u => nou u <| popV args fun t0 args => popI .i64 args fun t1 args => endA args (S79_0 D m t0 t1 h)
theorem T79_0 (hE : FX x79 D m E) : S79_0 D m = e79_0 (E c79_e []) := by unfold S79_0; rw [hE c79_e]; kernel_rfl
theorem X79 : XTie S79 x79 := X_of fun D m E hE args h u => by unfold S79; rw [T79_0 hE]; kernel_rfl
/- 80 -/
def v80_0 : List Pos := [p0, p3]
def c80_0 : XC := (.sO [.mv p18 q0 .v, .mv p19 q3 tI, .P p20 (.slice (.sl 1) q18 none (some q19) none) .v, .mv p2 q20 .v] (.s .ret))
def v80_1 : List Pos := [p0, p3]
def c80_1b : XC := (.seq (.seq (.oX [.mv p6 q3 tI, .bn p7 .gtr q6 (ci 0) .b, .mv p8 q7 .b, .ge p8 (XL.of [.G p8 true p9 (.mov q0) .v, .G p8 true p10 (.mov q3) tI, .G p8 true p11 (.bin .sub q10 (ci 1)) tI, .G p8 true p12 (.iaddr (.sl 1) q9 q11) .v, .o ⟨(some p13), (.l (.cell q12)), (some (p8, true)), []⟩ tI, .G p8 true p14 (.bin .eql q13 (ci 0)) .b, .P p15 (.pick q8 q14 (cb false)) .b]) p15 .b]) (.cond q15 .skip (.exit 0))) (.block 1 (.s (.oX [.mv p16 q3 tI, .bn p17 .sub q16 (ci 1) tI, .mv p3 q17 tI]))))
def c80_e : XC := (.sO [.mv p2 (.c .nils) .v] (.sO [.mv p4 q0 .v, .P p5 (.lenl q4) tI, .mv p3 q5 tI] (.sj v80_0 (.block 0 (.loop v80_1 c80_1b)) c80_0)))
def x80 : XFn := ⟨[.v], false, [(.tmp p2)], c80_e⟩
def e80_0 (k t0 t3 h) := kN k [(p0, t0), (p3, (vI t3))] h
def S80_0 (D : CallD) (m : Nat) (t0 : AV) (t3 : Int) (h : HP) : Res2 :=
 obQ (evP (.slice (.sl 1) (.c t0) none (some (.c (vI t3))) none) .leaf) fun t20 =>
 some (.ret t20 h, .no)
def e80_1 (k t0 t3 h) := kN k [(p0, t0), (p3, (vI t3))] h
def S80_1b (D : CallD) (m : Nat) (g1 : AV → Int → HP → Res2) (t0 : AV) (t3 : Int) (h : HP) : Res2 :=
 let t7 := ltQ (Int.ofNat 0) t3
 obB (brV t7 (
 let t11 := wrQ .i64 (t3 - (Int.ofNat 1))
 iasCV 1 t0 (vI t11) fun t12 =>
 ldIV t12 h fun t13 =>
 let t14 := eqQ t13 (Int.ofNat 0)
 some (vB t14)) (
 some (vB false))) fun t15 =>
 br t15 (
 let t17 := wrQ .i64 (t3 - (Int.ofNat 1))
 g1 t0 t17 h) (
 S80_0 D m t0 t3 h)
def S80_1 (D : CallD) (m : Nat) : AV → Int → HP → Res2 := nrec (fun _ _ _ => none) (fun _ g => S80_1b D m g) m
def e80_2 (k t0 h) := kN k [(p0, t0)] h
def S80_2 (D : CallD) (m : Nat) (t0 : AV) (h : HP) : Res2 :=
 lenC t0 fun vt5 => asI .i64 vt5 fun t5 =>
 S80_1 D m t0 t5 h
def S80 : SFn := fun D m args h u => nou u <| popV args fun t0 args => endA args (S80_2 D m t0 h)
theorem T80_0 (hE : FX x80 D m E) : S80_0 D m = e80_0 (E c80_0 []) := by unfold S80_0; rw [hE c80_0]; kernel_rfl
theorem T80_1b (hE : FX x80 D m E) (G1) : S80_1b D m (e80_1 G1) = e80_1 (E c80_1b [.lp v80_1 G1, .blk 0, .sj v80_0 c80_0]) := by unfold S80_1b; rw [T80_0 hE, hE c80_1b]; kernel_rfl
theorem T80_1 (hE : FX x80 D m E) : S80_1 D m = e80_1 (nrec (fun _ => none) (fun _ G1 st => E c80_1b [.lp v80_1 G1, .blk 0, .sj v80_0 c80_0] st) m) :=
  nrec_emb e80_1 (fun _ _ _ => none) (fun g => S80_1b D m g) (fun G1 st => E c80_1b [.lp v80_1 G1, .blk 0, .sj v80_0 c80_0] st) rfl (fun g => T80_1b hE g) m
theorem T80_2 (hE : FX x80 D m E) : S80_2 D m = e80_2 (E c80_e []) := by unfold S80_2; rw [T80_1 hE, hE c80_e]; kernel_rfl
theorem X80 : XTie S80 x80 := X_of fun D m E hE args h u => by unfold S80; rw [T80_2 hE]; kernel_rfl
/- 82 -/
def v82_0 : List Pos := [p3]
def c82_0 : XC := (.sO [.mv p26 q3 .v, .cl p27 80 [q26] .v, .mv p2 q27 .v] (.s .ret))
def v82_1 : List Pos := [p0, p3, p6, p7]
def c82_1b : XC := (.sO [.bn p8 .lss q7 q6 .b] (.seq (.cond q8 .skip (.exit 0)) (.seq (.block 1 (.seq (.oX [.mv p9 q7 tI, .mv p4 q9 tI]) (.ops true (XL.of [.mv p10 q3 .v, .mv p11 q0 .v, .mv p12 q4 tI, .P p13 (.iaddr (.sl 1) q11 q12) .v, .ld p14 q13 tI, .bn p15 .quo q14 (ci 2) tI, .mv p16 q0 .v, .mv p17 q4 tI, .bn p18 .add q17 (ci 1) tI, .o ⟨(some p19), (.call (.fn 79) [q16, q18]), none, [⟨none, .cell q13, p14⟩]⟩ tI, .bn p20 .rem q19 (ci 2) tI, .bn p21 .mul q20 (ci 32768) tI, .bn p22 .add q15 q21 tI, .al p23 (.bsl [(kI 0)] 1 [⟨0, 1, q22⟩]), .o ⟨(some p24), (.e (.app 1 8 q10 q23)), none, []⟩ .v, .mv p3 q24 .v])))) (.s (.oX [.bn p25 .add q7 (ci 1) tI, .mv p7 q25 tI])))))
def c82_e : XC := (.sO [.mv p2 (.c .nils) .v] (.sO [.mv p3 (.c .nils) .v] (.sj v82_0 (.sO [.mv p5 q0 .v, .P p6 (.lenl q5) tI, .mv p7 (ci 0) tI] (.block 0 (.loop v82_1 c82_1b))) c82_0)))
def x82 : XFn := ⟨[.v], false, [(.tmp p2)], c82_e⟩
def e82_0 (k t3 h) := kN k [(p3, t3)] h
def S82_0 (D : CallD) (m : Nat) (t3 : AV) (h : HP) : Res2 :=
 cal D 80 [t3] h fun t27 h3 =>
 some (.ret t27 h3, .no)
def e82_1 (k t0 t3 t6 t7 h) := kN k [(p0, t0), (p3, t3), (p6, (vI t6)), (p7, (vI t7))] h
def S82_1b (D : CallD) (m : Nat) (g1 : AV → AV → Int → Int → HP → Res2) (t0 t3 : AV) (t6 t7 : Int) (h : HP) : Res2 :=
 let t8 := ltQ t7 t6
 br t8 (
 iasC 1 t0 (vI t7) fun t13 =>
 ldI t13 h fun t14 =>
 let t15 := wrapF .i64 (Int.tdiv t14 (Int.ofNat 2))
 let t18 := wrQ .i64 (addQ t7 (Int.ofNat 1))
 cal D 79 [t0, (vI t18)] h fun t19 h4 =>
 br (again [⟨none, .cell q13, p14⟩] (mkT [(p14, (vI t14)), (p13, t13)]) h4) (
 asI .i64 t19 fun t19a =>
 let t20 := Int.tmod t19a (Int.ofNat 2)
 let t21 := wrQ .i64 (t20 * (Int.ofNat 32768))
 let t22 := wrQ .i64 (addQ t15 t21)
 let t23 := AV.slice (HP.nxQ h4) 0 1 (.exact 1)
 let h5 := HP.newQ h4 (.cells true [(vI t22)])
 eff (.app 1 8 (.c t3) (.c t23)) h5 fun t24 h6 =>
 let t25 := wrQ .i64 (addQ t7 (Int.ofNat 1))
 g1 t0 t24 t6 t25 h6) none) (
 S82_0 D m t3 h)
def S82_1 (D : CallD) (m : Nat) : AV → AV → Int → Int → HP → Res2 := nrec (fun _ _ _ _ _ => none) (fun _ g => S82_1b D m g) m
def e82_2 (k t0 h) := kN k [(p0, t0)] h
def S82_2 (D : CallD) (m : Nat) (t0 : AV) (h : HP) : Res2 :=
 lenC t0 fun vt6 => asI .i64 vt6 fun t6 =>
 S82_1 D m t0 (.nils : AV) t6 (Int.ofNat 0) h
def S82 : SFn := fun D m args h u => nou u <| popV args fun t0 args => endA args (S82_2 D m t0 h)
theorem T82_0 (hE : FX x82 D m E) : S82_0 D m = e82_0 (E c82_0 []) := by unfold S82_0; rw [hE c82_0]; kernel_rfl
theorem T82_1b (hE : FX x82 D m E) (G1) : S82_1b D m (e82_1 G1) = e82_1 (E c82_1b [.lp v82_1 G1, .blk 0, .sj v82_0 c82_0]) := by unfold S82_1b; rw [T82_0 hE, hE c82_1b]; kernel_rfl
theorem T82_1 (hE : FX x82 D m E) : S82_1 D m = e82_1 (nrec (fun _ => none) (fun _ G1 st => E c82_1b [.lp v82_1 G1, .blk 0, .sj v82_0 c82_0] st) m) :=
  nrec_emb e82_1 (fun _ _ _ _ _ => none) (fun g => S82_1b D m g) (fun G1 st => E c82_1b [.lp v82_1 G1, .blk 0, .sj v82_0 c82_0] st) rfl (fun g => T82_1b hE g) m
theorem T82_2 (hE : FX x82 D m E) : S82_2 D m = e82_2 (E c82_e []) := by unfold S82_2; rw [T82_1 hE, hE c82_e]; kernel_rfl
theorem X82 : XTie S82 x82 := X_of fun D m E hE args h u => by unfold S82; rw [T82_2 hE]; kernel_rfl
/- 90 -/
def c90_e : XC := (.sO [.mv p4 (cb false) .b] (.sO [.mv p5 q0 .s, .P p6 (.lens q5) tI, .mv p7 q1 .s, .P p8 (.lens q7) tI, .bn p9 .geq q6 q8 .b, .mv p10 q9 .b, .ge p10 (XL.of [.G p10 true p11 (.mov q0) .s, .G p10 true p12 (.mov q1) .s, .G p10 true p13 (.lens q12) tI, .G p10 true p14 (.slice .str q11 none (some q13) none) .s, .G p10 true p15 (.mov q1) .s, .G p10 true p16 (.bin .eql q14 q15) .b, .P p17 (.pick q10 q16 (cb false)) .b]) p17 .b, .mv p4 q17 .b] (.s .ret)))
def x90 : XFn := ⟨[.s, .s], false, [(.tmp p4)], c90_e⟩
def e90_0 (k t0 t1 h) := kN k [(p0, (vS t0)), (p1, (vS t1))] h
def S90_0 (D : CallD) (m : Nat) (t0 t1 : LN) (h : HP) : Res2 :=
 let t6 := Int.ofNat (lenL t0)
 let t8 := Int.ofNat (lenL t1)
 let t9 := leQ t8 t6
 obB (brV t9 (
 let t13 := Int.ofNat (lenL t1)
 slCV (vS t0) none (some (vI t13)) fun vt14 => asSV vt14 fun t14 =>
 let t16 := eqL t14 t1
 some (vB t16)) (
 some (vB false))) fun t17 =>
 some (.ret (vB t17) h, .no)
def S90 : SFn := fun D m args h u => nou u <| popS args fun t0 args => popS args fun t1 args => endA args (S90_0 D m t0 t1 h)
theorem T90_0 (hE : FX x90 D m E) : S90_0 D m = e90_0 (E c90_e []) := by unfold S90_0; rw [hE c90_e]; kernel_rfl
theorem X90 : XTie S90 x90 := X_of fun D m E hE args h u => by unfold S90; rw [T90_0 hE]; kernel_rfl
/- 94 -/
def v94_0 : List Pos := [p2]
def c94_0 : XC := (.sO [.L p20 (.cells 256 q2) .v, .ss 256 q2 q20, .mv p3 (cb true) .b] (.s .ret))
def v94_1 : List Pos := [p0, p2, p4]
def c94_1b : XC := (.seq (.seq (.oX [.mv p6 q4 tI, .mv p7 q0 .s, .P p8 (.lens q7) tI, .bn p9 .lss q6 q8 .b]) (.cond q9 .skip (.exit 0))) (.seq (.block 1 (.seq (.oX [.mv p12 q0 .s, .mv p13 q4 tI, .P p14 (.idxs q12 q13) tC, .mv p5 q14 tC]) (.seq (.seq (.oX [.mv p15 q5 tC, .bn p16 .geq q15 (.c (.int .u8 (.ofNat 128))) .b]) (.cond q16 (.seq (.oX [.L p17 (.cells 256 q2) .v, .ss 256 q2 q17, .mv p3 (cb false) .b]) .ret) .skip)) (.oX [.mv p18 q5 tC, .P p19 (.iaddr (.arr 256 1) q2 q18) .v, .st q19 (cb true)])))) (.s (.oX [.mv p10 q4 tI, .bn p11 .add q10 (ci 1) tI, .mv p4 q11 tI]))))
def c94_e : XC := (.sO [.al p2 (.new [(.bool false), (.bool false), (.bool false), (.bool false), (.bool false), (.bool false), (.bool false), (.bool false), (.bool false), (.bool false), (.bool false), (.bool false), (.bool false), (.bool false), (.bool false), (.bool false), (.bool false), (.bool false), (.bool false), (.bool false), (.bool false), (.bool false), (.bool false), (.bool false), (.bool false), (.bool false), (.bool false), (.bool false), (.bool false), (.bool false), (.bool false), (.bool false), (.bool false), (.bool false), (.bool false), (.bool false), (.bool false), (.bool false), (.bool false), (.bool false), (.bool false), (.bool false), (.bool false), (.bool false), (.bool false), (.bool false), (.bool false), (.bool false), (.bool false), (.bool false), (.bool false), (.bool false), (.bool false), (.bool false), (.bool false), (.bool false), (.bool false), (.bool false), (.bool false), (.bool false), (.bool false), (.bool false), (.bool false), (.bool false), (.bool false), (.bool false), (.bool false), (.bool false), (.bool false), (.bool false), (.bool false), (.bool false), (.bool false), (.bool false), (.bool false), (.bool false), (.bool false), (.bool false), (.bool false), (.bool false), (.bool false), (.bool false), (.bool false), (.bool false), (.bool false), (.bool false), (.bool false), (.bool false), (.bool false), (.bool false), (.bool false), (.bool false), (.bool false), (.bool false), (.bool false), (.bool false), (.bool false), (.bool false), (.bool false), (.bool false), (.bool false), (.bool false), (.bool false), (.bool false), (.bool false), (.bool false), (.bool false), (.bool false), (.bool false), (.bool false), (.bool false), (.bool false), (.bool false), (.bool false), (.bool false), (.bool false), (.bool false), (.bool false), (.bool false), (.bool false), (.bool false), (.bool false), (.bool false), (.bool false), (.bool false), (.bool false), (.bool false), (.bool false), (.bool false), (.bool false), (.bool false), (.bool false), (.bool false), (.bool false), (.bool false), (.bool false), (.bool false), (.bool false), (.bool false), (.bool false), (.bool false), (.bool false), (.bool false), (.bool false), (.bool false), (.bool false), (.bool false), (.bool false), (.bool false), (.bool false), (.bool false), (.bool false), (.bool false), (.bool false), (.bool false), (.bool false), (.bool false), (.bool false), (.bool false), (.bool false), (.bool false), (.bool false), (.bool false), (.bool false), (.bool false), (.bool false), (.bool false), (.bool false), (.bool false), (.bool false), (.bool false), (.bool false), (.bool false), (.bool false), (.bool false), (.bool false), (.bool false), (.bool false), (.bool false), (.bool false), (.bool false), (.bool false), (.bool false), (.bool false), (.bool false), (.bool false), (.bool false), (.bool false), (.bool false), (.bool false), (.bool false), (.bool false), (.bool false), (.bool false), (.bool false), (.bool false), (.bool false), (.bool false), (.bool false), (.bool false), (.bool false), (.bool false), (.bool false), (.bool false), (.bool false), (.bool false), (.bool false), (.bool false), (.bool false), (.bool false), (.bool false), (.bool false), (.bool false), (.bool false), (.bool false), (.bool false), (.bool false), (.bool false), (.bool false), (.bool false), (.bool false), (.bool false), (.bool false), (.bool false), (.bool false), (.bool false), (.bool false), (.bool false), (.bool false), (.bool false), (.bool false), (.bool false), (.bool false), (.bool false), (.bool false), (.bool false), (.bool false), (.bool false), (.bool false), (.bool false), (.bool false), (.bool false), (.bool false), (.bool false), (.bool false), (.bool false), (.bool false), (.bool false), (.bool false), (.bool false), (.bool false), (.bool false), (.bool false), (.bool false), (.bool false), (.bool false)]), .mv p3 (cb false) .b] (.sj v94_0 (.sO [.mv p4 (ci 0) tI] (.block 0 (.loop v94_1 c94_1b))) c94_0))
def x94 : XFn := ⟨[.s], false, [(.cells 256 p2), (.tmp p3)], c94_e⟩
def e94_0 (k t2 h) := kN k [(p2, t2)] h
def S94_0 (D : CallD) (m : Nat) (t2 : AV) (h : HP) : Res2 :=
 cellsC 256 t2 h fun t20 =>
 stsC 256 t2 t20 h fun h4 =>
 cellsC 256 t2 h4 fun t2a =>
 some (.ret (.tup [t2a, (vB true)]) h4, .no)
def e94_1 (k t0 t2 t4 h) := kN k [(p0, (vS t0)), (p2, t2), (p4, (vI t4))] h
def S94_1b (D : CallD) (m : Nat) (g1 : LN → AV → Int → HP → Res2) (t0 : LN) (t2 : AV) (t4 : Int) (h : HP) : Res2 :=
 let t8 := Int.ofNat (lenL t0)
 let t9 := ltQ t4 t8
 br t9 (
 ixC (vS t0) (vI t4) fun vt14 => asI .u8 vt14 fun t14 =>
 let t16 := leQ (Int.ofNat 128) t14
 br t16 (
 cellsC 256 t2 h fun t17 =>
 stsC 256 t2 t17 h fun h5 =>
 cellsC 256 t2 h5 fun t2a =>
 some (.ret (.tup [t2a, (vB false)]) h5, .no)) (
 iarC 256 1 t2 (vC t14) fun t19 =>
 stoC t19 (vB true) h fun h6 =>
 let t11 := wrQ .i64 (addQ t4 (Int.ofNat 1))
 g1 t0 t2 t11 h6)) (
 S94_0 D m t2 h)
def S94_1 (D : CallD) (m : Nat) : LN → AV → Int → HP → Res2 := nrec (fun _ _ _ _ => none) (fun _ g => S94_1b D m g) m
def e94_2 (k t0 h) := kN k [(p0, (vS t0))] h
def S94_2 (D : CallD) (m : Nat) (t0 : LN) (h : HP) : Res2 :=
 let t2 := AV.ptr (HP.nxQ h) 0
 let h3 := HP.newQ h (.cells true [(.bool false), (.bool false), (.bool false), (.bool false), (.bool false), (.bool false), (.bool false), (.bool false), (.bool false), (.bool false), (.bool false), (.bool false), (.bool false), (.bool false), (.bool false), (.bool false), (.bool false), (.bool false), (.bool false), (.bool false), (.bool false), (.bool false), (.bool false), (.bool false), (.bool false), (.bool false), (.bool false), (.bool false), (.bool false), (.bool false), (.bool false), (.bool false), (.bool false), (.bool false), (.bool false), (.bool false), (.bool false), (.bool false), (.bool false), (.bool false), (.bool false), (.bool false), (.bool false), (.bool false), (.bool false), (.bool false), (.bool false), (.bool false), (.bool false), (.bool false), (.bool false), (.bool false), (.bool false), (.bool false), (.bool false), (.bool false), (.bool false), (.bool false), (.bool false), (.bool false), (.bool false), (.bool false), (.bool false), (.bool false), (.bool false), (.bool false), (.bool false), (.bool false), (.bool false), (.bool false), (.bool false), (.bool false), (.bool false), (.bool false), (.bool false), (.bool false), (.bool false), (.bool false), (.bool false), (.bool false), (.bool false), (.bool false), (.bool false), (.bool false), (.bool false), (.bool false), (.bool false), (.bool false), (.bool false), (.bool false), (.bool false), (.bool false), (.bool false), (.bool false), (.bool false), (.bool false), (.bool false), (.bool false), (.bool false), (.bool false), (.bool false), (.bool false), (.bool false), (.bool false), (.bool false), (.bool false), (.bool false), (.bool false), (.bool false), (.bool false), (.bool false), (.bool false), (.bool false), (.bool false), (.bool false), (.bool false), (.bool false), (.bool false), (.bool false), (.bool false), (.bool false), (.bool false), (.bool false), (.bool false), (.bool false), (.bool false), (.bool false), (.bool false), (.bool false), (.bool false), (.bool false), (.bool false), (.bool false), (.bool false), (.bool false), (.bool false), (.bool false), (.bool false), (.bool false), (.bool false), (.bool false), (.bool false), (.bool false), (.bool false), (.bool false), (.bool false), (.bool false), (.bool false), (.bool false), (.bool false), (.bool false), (.bool false), (.bool false), (.bool false), (.bool false), (.bool false), (.bool false), (.bool false), (.bool false), (.bool false), (.bool false), (.bool false), (.bool false), (.bool false), (.bool false), (.bool false), (.bool false), (.bool false), (.bool false), (.bool false), (.bool false), (.bool false), (.bool false), (.bool false), (.bool false), (.bool false), (.bool false), (.bool false), (.bool false), (.bool false), (.bool false), (.bool false), (.bool false), (.bool false), (.bool false), (.bool false), (.bool false), (.bool false), (.bool false), (.bool false), (.bool false), (.bool false), (.bool false), (.bool false), (.bool false), (.bool false), (.bool false), (.bool false), (.bool false), (.bool false), (.bool false), (.bool false), (.bool false), (.bool false), (.bool false), (.bool false), (.bool false), (.bool false), (.bool false), (.bool false), (.bool false), (.bool false), (.bool false), (.bool false), (.bool false), (.bool false), (.bool false), (.bool false), (.bool false), (.bool false), (.bool false), (.bool false), (.bool false), (.bool false), (.bool false), (.bool false), (.bool false), (.bool false), (.bool false), (.bool false), (.bool false), (.bool false), (.bool false), (.bool false), (.bool false), (.bool false), (.bool false), (.bool false), (.bool false), (.bool false), (.bool false), (.bool false), (.bool false), (.bool false), (.bool false), (.bool false), (.bool false), (.bool false), (.bool false), (.bool false), (.bool false), (.bool false), (.bool false), (.bool false), (.bool false), (.bool false)])
 S94_1 D m t0 t2 (Int.ofNat 0) h3
def S94 : SFn := fun D m args h u => nou u <| popS args fun t0 args => endA args (S94_2 D m t0 h)
theorem T94_0 (hE : FX x94 D m E) : S94_0 D m = e94_0 (E c94_0 []) := by unfold S94_0; rw [hE c94_0]; kernel_rfl
theorem T94_1b (hE : FX x94 D m E) (G1) : S94_1b D m (e94_1 G1) = e94_1 (E c94_1b [.lp v94_1 G1, .blk 0, .sj v94_0 c94_0]) := by unfold S94_1b; rw [T94_0 hE, hE c94_1b]; kernel_rfl
theorem T94_1 (hE : FX x94 D m E) : S94_1 D m = e94_1 (nrec (fun _ => none) (fun _ G1 st => E c94_1b [.lp v94_1 G1, .blk 0, .sj v94_0 c94_0] st) m) :=
  nrec_emb e94_1 (fun _ _ _ _ => none) (fun g => S94_1b D m g) (fun G1 st => E c94_1b [.lp v94_1 G1, .blk 0, .sj v94_0 c94_0] st) rfl (fun g => T94_1b hE g) m
theorem T94_2 (hE : FX x94 D m E) : S94_2 D m = e94_2 (E c94_e []) := by unfold S94_2; rw [T94_1 hE, hE c94_e]; kernel_rfl
theorem X94 : XTie S94 x94 := X_of fun D m E hE args h u => by unfold S94; rw [T94_2 hE]; kernel_rfl
/- 95 -/
def v95_0 : List Pos := [p0]
def c95_0 : XC := (.sO [.mv p15 q0 .s, .mv p4 q15 .s] (.s .ret))
def v95_1 : List Pos := [p0, p1]
def c95_1b : XC := (.seq (.seq (.oX [.mv p5 q0 .s, .P p6 (.lens q5) tI, .bn p7 .gtr q6 (ci 0) .b]) (.cond q7 .skip (.exit 0))) (.block 1 (.seq (.seq (.oX [.mv p8 q1 .v, .mv p9 q0 .s, .P p10 (.idxs q9 (ci 0)) tC, .cl p11 111 [q8, q10] .b, .P p12 (.un .not q11) .b]) (.cond q12 (.exit 0) .skip)) (.s (.oX [.mv p13 q0 .s, .P p14 (.slice .str q13 (some (ci 1)) none none) .s, .mv p0 q14 .s])))))
def c95_e : XC := (.sO [.mv p4 (.c (.str [])) .s] (.sj v95_0 (.block 0 (.loop v95_1 c95_1b)) c95_0))
def x95 : XFn := ⟨[.s, .v], false, [(.tmp p4)], c95_e⟩
def e95_0 (k t0 h) := kN k [(p0, (vS t0))] h
def S95_0 (D : CallD) (m : Nat) (t0 : LN) (h : HP) : Res2 :=
 some (.ret (vS t0) h, .no)
def e95_1 (k t0 t1 h) := kN k [(p0, (vS t0)), (p1, t1)] h
def S95_1b (D : CallD) (m : Nat) (g1 : LN → AV → HP → Res2) (t0 : LN) (t1 : AV) (h : HP) : Res2 :=
 let t6 := Int.ofNat (lenL t0)
 let t7 := ltQ (Int.ofNat 0) t6
 br t7 (
 ixC (vS t0) (vI (Int.ofNat 0)) fun vt10 => asI .u8 vt10 fun t10 =>
 cal D 111 [t1, (vC t10)] h fun t11 h3 =>
 asB t11 fun t11a =>
 let t12 := !t11a
 br t12 (
 S95_0 D m t0 h3) (
 slC (vS t0) (some (vI (Int.ofNat 1))) none fun vt14 => asS vt14 fun t14 =>
 g1 t14 t1 h3)) (
 S95_0 D m t0 h)
def S95_1 (D : CallD) (m : Nat) : LN → AV → HP → Res2 := nrec (fun _ _ _ => none) (fun _ g => S95_1b D m g) m
def e95_2 (k t0 t1 h) := kN k [(p0, (vS t0)), (p1, t1)] h
def S95_2 (D : CallD) (m : Nat) (t0 : LN) (t1 : AV) (h : HP) : Res2 :=
 S95_1 D m t0 t1 h
def S95 : SFn := fun D m args h u => nou u <| popS args fun t0 args => popV args fun t1 args => endA args (S95_2 D m t0 t1 h)
theorem T95_0 (hE : FX x95 D m E) : S95_0 D m = e95_0 (E c95_0 []) := by unfold S95_0; rw [hE c95_0]; kernel_rfl
theorem T95_1b (hE : FX x95 D m E) (G1) : S95_1b D m (e95_1 G1) = e95_1 (E c95_1b [.lp v95_1 G1, .blk 0, .sj v95_0 c95_0]) := by unfold S95_1b; rw [T95_0 hE, hE c95_1b]; kernel_rfl
theorem T95_1 (hE : FX x95 D m E) : S95_1 D m = e95_1 (nrec (fun _ => none) (fun _ G1 st => E c95_1b [.lp v95_1 G1, .blk 0, .sj v95_0 c95_0] st) m) :=
  nrec_emb e95_1 (fun _ _ _ => none) (fun g => S95_1b D m g) (fun G1 st => E c95_1b [.lp v95_1 G1, .blk 0, .sj v95_0 c95_0] st) rfl (fun g => T95_1b hE g) m
theorem T95_2 (hE : FX x95 D m E) : S95_2 D m = e95_2 (E c95_e []) := by unfold S95_2; rw [T95_1 hE, hE c95_e]; kernel_rfl
theorem X95 : XTie S95 x95 := X_of fun D m E hE args h u => by unfold S95; rw [T95_2 hE]; kernel_rfl
/- 97 -/
def c97_e : XC := (.sO [.mv p4 (.c (.flt .f64 0)) .v, .mv p5 (ci 0) tI, .mv p6 (.c .nili) .v] (.seq (.seq (.oX [.mv p10 q1 tI, .bn p11 .eql q10 (ci 32) .b]) (.cond q11 (.seq (.oX [.mv p13 q0 .s, .cl p14 114 [q13] .v, .mv p12 q14 .v, .P p15 (.ext q12 0) .v, .P p16 (.ext q12 1) tI, .P p17 (.ext q12 2) .v, .mv p7 q15 .v, .mv p8 q16 tI, .mv p9 q17 .v]) (.seq (.oX [.mv p18 q7 .v, .o ⟨(some p19), .bad, none, []⟩ .v, .mv p20 q8 tI, .mv p21 q9 .v, .mv p4 q19 .v, .mv p5 q20 tI, .mv p6 q21 .v]) .ret)) .skip)) (.sO [.mv p22 q0 .s, .cl p23 115 [q22] .v, .P p24 (.ext q23 0) .v, .P p25 (.ext q23 1) tI, .P p26 (.ext q23 2) .v, .mv p4 q24 .v, .mv p5 q25 tI, .mv p6 q26 .v] (.s .ret))))
def x97 : XFn := ⟨[.s, tI], false, [(.tmp p4), (.tmp p5), (.tmp p6)], c97_e⟩
def e97_0 (k t0 t1 h) := kN k [(p0, (vS t0)), (p1, (vI t1))] h
def S97_0 (D : CallD) (m : Nat) (t0 : LN) (t1 : Int) (h : HP) : Res2 :=
 let t11 := eqQ t1 (Int.ofNat 32)
 br t11 (
 cal D 114 [(vS t0)] h fun t14 h1 =>
 extC t14 0 fun t15 =>
 extC t14 1 fun vt16 => asI .i64 vt16 fun t16 =>
 extC t14 2 fun t17 =>
 none) (
 cal D 115 [(vS t0)] h fun t23 h2 =>
 extC t23 0 fun t24 =>
 extC t23 1 fun vt25 => asI .i64 vt25 fun t25 =>
 extC t23 2 fun t26 =>
 some (.ret (.tup [t24, (vI t25), t26]) h2, .no))
def S97 : SFn := fun D m args h u => nou u <| popS args fun t0 args => popI .i64 args fun t1 args => endA args (S97_0 D m t0 t1 h)
theorem T97_0 (hE : FX x97 D m E) : S97_0 D m = e97_0 (E c97_e []) := by unfold S97_0; rw [hE c97_e]; kernel_rfl
theorem X97 : XTie S97 x97 := X_of fun D m E hE args h u => by unfold S97; rw [T97_0 hE]; kernel_rfl
/- 102 -/
def c102_e : XC := (.sO [.mv p2 (.c (.int .u8 (.ofNat 0))) tC] (.sO [.mv p3 q0 tC, .bn p4 .or q3 (.c (.int .u8 (.ofNat 32))) tC, .mv p2 q4 tC] (.s .ret)))
def x102 : XFn := ⟨[tC], false, [(.tmp p2)], c102_e⟩
def e102_0 (k t0 h) := kN k [(p0, (vC t0))] h
def S102_0 (D : CallD) (m : Nat) (t0 : Int) (h : HP) : Res2 :=
 obI .u8 (intBin .or .u8 t0 (Int.ofNat 32)) fun t4 =>
 some (.ret (vC t4) h, .no)
def S102 : SFn := fun D m args h u => nou u <| popI .u8 args fun t0 args => endA args (S102_0 D m t0 h)
theorem T102_0 (hE : FX x102 D m E) : S102_0 D m = e102_0 (E c102_e []) := by unfold S102_0; rw [hE c102_e]; kernel_rfl
theorem X102 : XTie S102 x102 := X_of fun D m E hE args h u => by unfold S102; rw [T102_0 hE]; kernel_rfl
/- 111 -/
def c111_e : XC := (.sO [.mv p4 (cb false) .b] (.sO [.mv p5 q0 .v, .mv p6 q1 tC, .P p7 (.nilck q5) .v, .P p8 (.iaddr (.arr 256 1) q7 q6) .v, .ld p9 q8 .b, .mv p4 q9 .b] (.s .ret)))
def x111 : XFn := ⟨[.v, tC], false, [(.tmp p4)], c111_e⟩
def e111_0 (k t0 t1 h) := kN k [(p0, t0), (p1, (vC t1))] h
def S111_0 (D : CallD) (m : Nat) (t0 : AV) (t1 : Int) (h : HP) : Res2 :=
 nilckC t0 fun t7 =>
 iarC 256 1 t7 (vC t1) fun t8 =>
 ldB t8 h fun t9 =>
 some (.ret (vB t9) h, .no)
def S111 : SFn := fun D m args h u => nou u <| popV args fun t0 args => popI .u8 args fun t1 args => endA args (S111_0 D m t0 t1 h)
theorem T111_0 (hE : FX x111 D m E) : S111_0 D m = e111_0 (E c111_e []) := by unfold S111_0; rw [hE c111_e]; kernel_rfl
theorem X111 : XTie S111 x111 := X_of fun D m E hE args h u => by unfold S111; rw [T111_0 hE]; kernel_rfl
/- 115 -/
def v115_1 : List Pos := [p2, p3, p4]
def c115_1 : XC := (.sO [.mv p140 q2 .v, .mv p141 q3 tI, .mv p142 q4 .v, .mv p2 q140 .v, .mv p3 q141 tI, .mv p4 q142 .v] (.s .ret))
def v115_0 : List Pos := [p0, p3, p4]
def c115_0 : XC := (.sO [.al p23 (.new [(.int .u8 (.ofNat 0)), (.int .u8 (.ofNat 0)), (.int .u8 (.ofNat 0)), (.int .u8 (.ofNat 0)), (.int .u8 (.ofNat 0)), (.int .u8 (.ofNat 0)), (.int .u8 (.ofNat 0)), (.int .u8 (.ofNat 0)), (.int .u8 (.ofNat 0)), (.int .u8 (.ofNat 0)), (.int .u8 (.ofNat 0)), (.int .u8 (.ofNat 0)), (.int .u8 (.ofNat 0)), (.int .u8 (.ofNat 0)), (.int .u8 (.ofNat 0)), (.int .u8 (.ofNat 0)), (.int .u8 (.ofNat 0)), (.int .u8 (.ofNat 0)), (.int .u8 (.ofNat 0)), (.int .u8 (.ofNat 0)), (.int .u8 (.ofNat 0)), (.int .u8 (.ofNat 0)), (.int .u8 (.ofNat 0)), (.int .u8 (.ofNat 0)), (.int .u8 (.ofNat 0)), (.int .u8 (.ofNat 0)), (.int .u8 (.ofNat 0)), (.int .u8 (.ofNat 0)), (.int .u8 (.ofNat 0)), (.int .u8 (.ofNat 0)), (.int .u8 (.ofNat 0)), (.int .u8 (.ofNat 0)), (.int .u8 (.ofNat 0)), (.int .u8 (.ofNat 0)), (.int .u8 (.ofNat 0)), (.int .u8 (.ofNat 0)), (.int .u8 (.ofNat 0)), (.int .u8 (.ofNat 0)), (.int .u8 (.ofNat 0)), (.int .u8 (.ofNat 0)), (.int .u8 (.ofNat 0)), (.int .u8 (.ofNat 0)), (.int .u8 (.ofNat 0)), (.int .u8 (.ofNat 0)), (.int .u8 (.ofNat 0)), (.int .u8 (.ofNat 0)), (.int .u8 (.ofNat 0)), (.int .u8 (.ofNat 0)), (.int .u8 (.ofNat 0)), (.int .u8 (.ofNat 0)), (.int .u8 (.ofNat 0)), (.int .u8 (.ofNat 0)), (.int .u8 (.ofNat 0)), (.int .u8 (.ofNat 0)), (.int .u8 (.ofNat 0)), (.int .u8 (.ofNat 0)), (.int .u8 (.ofNat 0)), (.int .u8 (.ofNat 0)), (.int .u8 (.ofNat 0)), (.int .u8 (.ofNat 0)), (.int .u8 (.ofNat 0)), (.int .u8 (.ofNat 0)), (.int .u8 (.ofNat 0)), (.int .u8 (.ofNat 0)), (.int .u8 (.ofNat 0)), (.int .u8 (.ofNat 0)), (.int .u8 (.ofNat 0)), (.int .u8 (.ofNat 0)), (.int .u8 (.ofNat 0)), (.int .u8 (.ofNat 0)), (.int .u8 (.ofNat 0)), (.int .u8 (.ofNat 0)), (.int .u8 (.ofNat 0)), (.int .u8 (.ofNat 0)), (.int .u8 (.ofNat 0)), (.int .u8 (.ofNat 0)), (.int .u8 (.ofNat 0)), (.int .u8 (.ofNat 0)), (.int .u8 (.ofNat 0)), (.int .u8 (.ofNat 0)), (.int .u8 (.ofNat 0)), (.int .u8 (.ofNat 0)), (.int .u8 (.ofNat 0)), (.int .u8 (.ofNat 0)), (.int .u8 (.ofNat 0)), (.int .u8 (.ofNat 0)), (.int .u8 (.ofNat 0)), (.int .u8 (.ofNat 0)), (.int .u8 (.ofNat 0)), (.int .u8 (.ofNat 0)), (.int .u8 (.ofNat 0)), (.int .u8 (.ofNat 0)), (.int .u8 (.ofNat 0)), (.int .u8 (.ofNat 0)), (.int .u8 (.ofNat 0)), (.int .u8 (.ofNat 0)), (.int .u8 (.ofNat 0)), (.int .u8 (.ofNat 0)), (.int .u8 (.ofNat 0)), (.int .u8 (.ofNat 0)), (.int .u8 (.ofNat 0)), (.int .u8 (.ofNat 0)), (.int .u8 (.ofNat 0)), (.int .u8 (.ofNat 0)), (.int .u8 (.ofNat 0)), (.int .u8 (.ofNat 0)), (.int .u8 (.ofNat 0)), (.int .u8 (.ofNat 0)), (.int .u8 (.ofNat 0)), (.int .u8 (.ofNat 0)), (.int .u8 (.ofNat 0)), (.int .u8 (.ofNat 0)), (.int .u8 (.ofNat 0)), (.int .u8 (.ofNat 0)), (.int .u8 (.ofNat 0)), (.int .u8 (.ofNat 0)), (.int .u8 (.ofNat 0)), (.int .u8 (.ofNat 0)), (.int .u8 (.ofNat 0)), (.int .u8 (.ofNat 0)), (.int .u8 (.ofNat 0)), (.int .u8 (.ofNat 0)), (.int .u8 (.ofNat 0)), (.int .u8 (.ofNat 0)), (.int .u8 (.ofNat 0)), (.int .u8 (.ofNat 0)), (.int .u8 (.ofNat 0)), (.int .u8 (.ofNat 0)), (.int .u8 (.ofNat 0)), (.int .u8 (.ofNat 0)), (.int .u8 (.ofNat 0)), (.int .u8 (.ofNat 0)), (.int .u8 (.ofNat 0)), (.int .u8 (.ofNat 0)), (.int .u8 (.ofNat 0)), (.int .u8 (.ofNat 0)), (.int .u8 (.ofNat 0)), (.int .u8 (.ofNat 0)), (.int .u8 (.ofNat 0)), (.int .u8 (.ofNat 0)), (.int .u8 (.ofNat 0)), (.int .u8 (.ofNat 0)), (.int .u8 (.ofNat 0)), (.int .u8 (.ofNat 0)), (.int .u8 (.ofNat 0)), (.int .u8 (.ofNat 0)), (.int .u8 (.ofNat 0)), (.int .u8 (.ofNat 0)), (.int .u8 (.ofNat 0)), (.int .u8 (.ofNat 0)), (.int .u8 (.ofNat 0)), (.int .u8 (.ofNat 0)), (.int .u8 (.ofNat 0)), (.int .u8 (.ofNat 0)), (.int .u8 (.ofNat 0)), (.int .u8 (.ofNat 0)), (.int .u8 (.ofNat 0)), (.int .u8 (.ofNat 0)), (.int .u8 (.ofNat 0)), (.int .u8 (.ofNat 0)), (.int .u8 (.ofNat 0)), (.int .u8 (.ofNat 0)), (.int .u8 (.ofNat 0)), (.int .u8 (.ofNat 0)), (.int .u8 (.ofNat 0)), (.int .u8 (.ofNat 0)), (.int .u8 (.ofNat 0)), (.int .u8 (.ofNat 0)), (.int .u8 (.ofNat 0)), (.int .u8 (.ofNat 0)), (.int .u8 (.ofNat 0)), (.int .u8 (.ofNat 0)), (.int .u8 (.ofNat 0)), (.int .u8 (.ofNat 0)), (.int .u8 (.ofNat 0)), (.int .u8 (.ofNat 0)), (.int .u8 (.ofNat 0)), (.int .u8 (.ofNat 0)), (.int .u8 (.ofNat 0)), (.int .u8 (.ofNat 0)), (.int .u8 (.ofNat 0)), (.int .u8 (.ofNat 0)), (.int .u8 (.ofNat 0)), (.int .u8 (.ofNat 0)), (.int .u8 (.ofNat 0)), (.int .u8 (.ofNat 0)), (.int .u8 (.ofNat 0)), (.int .u8 (.ofNat 0)), (.int .u8 (.ofNat 0)), (.int .u8 (.ofNat 0)), (.int .u8 (.ofNat 0)), (.int .u8 (.ofNat 0)), (.int .u8 (.ofNat 0)), (.int .u8 (.ofNat 0)), (.int .u8 (.ofNat 0)), (.int .u8 (.ofNat 0)), (.int .u8 (.ofNat 0)), (.int .u8 (.ofNat 0)), (.int .u8 (.ofNat 0)), (.int .u8 (.ofNat 0)), (.int .u8 (.ofNat 0)), (.int .u8 (.ofNat 0)), (.int .u8 (.ofNat 0)), (.int .u8 (.ofNat 0)), (.int .u8 (.ofNat 0)), (.int .u8 (.ofNat 0)), (.int .u8 (.ofNat 0)), (.int .u8 (.ofNat 0)), (.int .u8 (.ofNat 0)), (.int .u8 (.ofNat 0)), (.int .u8 (.ofNat 0)), (.int .u8 (.ofNat 0)), (.int .u8 (.ofNat 0)), (.int .u8 (.ofNat 0)), (.int .u8 (.ofNat 0)), (.int .u8 (.ofNat 0)), (.int .u8 (.ofNat 0)), (.int .u8 (.ofNat 0)), (.int .u8 (.ofNat 0)), (.int .u8 (.ofNat 0)), (.int .u8 (.ofNat 0)), (.int .u8 (.ofNat 0)), (.int .u8 (.ofNat 0)), (.int .u8 (.ofNat 0)), (.int .u8 (.ofNat 0)), (.int .u8 (.ofNat 0)), (.int .u8 (.ofNat 0)), (.int .u8 (.ofNat 0)), (.int .u8 (.ofNat 0)), (.int .u8 (.ofNat 0)), (.int .u8 (.ofNat 0)), (.int .u8 (.ofNat 0)), (.int .u8 (.ofNat 0)), (.int .u8 (.ofNat 0)), (.int .u8 (.ofNat 0)), (.int .u8 (.ofNat 0)), (.int .u8 (.ofNat 0)), (.int .u8 (.ofNat 0)), (.int .u8 (.ofNat 0)), (.int .u8 (.ofNat 0)), (.int .u8 (.ofNat 0)), (.int .u8 (.ofNat 0)), (.int .u8 (.ofNat 0)), (.int .u8 (.ofNat 0)), (.int .u8 (.ofNat 0)), (.int .u8 (.ofNat 0)), (.int .u8 (.ofNat 0)), (.int .u8 (.ofNat 0)), (.int .u8 (.ofNat 0)), (.int .u8 (.ofNat 0)), (.int .u8 (.ofNat 0)), (.int .u8 (.ofNat 0)), (.int .u8 (.ofNat 0)), (.int .u8 (.ofNat 0)), (.int .u8 (.ofNat 0)), (.int .u8 (.ofNat 0)), (.int .u8 (.ofNat 0)), (.int .u8 (.ofNat 0)), (.int .u8 (.ofNat 0)), (.int .u8 (.ofNat 0)), (.int .u8 (.ofNat 0)), (.int .u8 (.ofNat 0)), (.int .u8 (.ofNat 0)), (.int .u8 (.ofNat 0)), (.int .u8 (.ofNat 0)), (.int .u8 (.ofNat 0)), (.int .u8 (.ofNat 0)), (.int .u8 (.ofNat 0)), (.int .u8 (.ofNat 0)), (.int .u8 (.ofNat 0)), (.int .u8 (.ofNat 0)), (.int .u8 (.ofNat 0)), (.int .u8 (.ofNat 0)), (.int .u8 (.ofNat 0)), (.int .u8 (.ofNat 0)), (.int .u8 (.ofNat 0)), (.int .u8 (.ofNat 0)), (.int .u8 (.ofNat 0)), (.int .u8 (.ofNat 0)), (.int .u8 (.ofNat 0)), (.int .u8 (.ofNat 0)), (.int .u8 (.ofNat 0)), (.int .u8 (.ofNat 0)), (.int .u8 (.ofNat 0)), (.int .u8 (.ofNat 0)), (.int .u8 (.ofNat 0)), (.int .u8 (.ofNat 0)), (.int .u8 (.ofNat 0)), (.int .u8 (.ofNat 0)), (.int .u8 (.ofNat 0)), (.int .u8 (.ofNat 0)), (.int .u8 (.ofNat 0)), (.int .u8 (.ofNat 0)), (.int .u8 (.ofNat 0)), (.int .u8 (.ofNat 0)), (.int .u8 (.ofNat 0)), (.int .u8 (.ofNat 0)), (.int .u8 (.ofNat 0)), (.int .u8 (.ofNat 0)), (.int .u8 (.ofNat 0)), (.int .u8 (.ofNat 0)), (.int .u8 (.ofNat 0)), (.int .u8 (.ofNat 0)), (.int .u8 (.ofNat 0)), (.int .u8 (.ofNat 0)), (.int .u8 (.ofNat 0)), (.int .u8 (.ofNat 0)), (.int .u8 (.ofNat 0)), (.int .u8 (.ofNat 0)), (.int .u8 (.ofNat 0)), (.int .u8 (.ofNat 0)), (.int .u8 (.ofNat 0)), (.int .u8 (.ofNat 0)), (.int .u8 (.ofNat 0)), (.int .u8 (.ofNat 0)), (.int .u8 (.ofNat 0)), (.int .u8 (.ofNat 0)), (.int .u8 (.ofNat 0)), (.int .u8 (.ofNat 0)), (.int .u8 (.ofNat 0)), (.int .u8 (.ofNat 0)), (.int .u8 (.ofNat 0)), (.int .u8 (.ofNat 0)), (.int .u8 (.ofNat 0)), (.int .u8 (.ofNat 0)), (.int .u8 (.ofNat 0)), (.int .u8 (.ofNat 0)), (.int .u8 (.ofNat 0)), (.int .u8 (.ofNat 0)), (.int .u8 (.ofNat 0)), (.int .u8 (.ofNat 0)), (.int .u8 (.ofNat 0)), (.int .u8 (.ofNat 0)), (.int .u8 (.ofNat 0)), (.int .u8 (.ofNat 0)), (.int .u8 (.ofNat 0)), (.int .u8 (.ofNat 0)), (.int .u8 (.ofNat 0)), (.int .u8 (.ofNat 0)), (.int .u8 (.ofNat 0)), (.int .u8 (.ofNat 0)), (.int .u8 (.ofNat 0)), (.int .u8 (.ofNat 0)), (.int .u8 (.ofNat 0)), (.int .u8 (.ofNat 0)), (.int .u8 (.ofNat 0)), (.int .u8 (.ofNat 0)), (.int .u8 (.ofNat 0)), (.int .u8 (.ofNat 0)), (.int .u8 (.ofNat 0)), (.int .u8 (.ofNat 0)), (.int .u8 (.ofNat 0)), (.int .u8 (.ofNat 0)), (.int .u8 (.ofNat 0)), (.int .u8 (.ofNat 0)), (.int .u8 (.ofNat 0)), (.int .u8 (.ofNat 0)), (.int .u8 (.ofNat 0)), (.int .u8 (.ofNat 0)), (.int .u8 (.ofNat 0)), (.int .u8 (.ofNat 0)), (.int .u8 (.ofNat 0)), (.int .u8 (.ofNat 0)), (.int .u8 (.ofNat 0)), (.int .u8 (.ofNat 0)), (.int .u8 (.ofNat 0)), (.int .u8 (.ofNat 0)), (.int .u8 (.ofNat 0)), (.int .u8 (.ofNat 0)), (.int .u8 (.ofNat 0)), (.int .u8 (.ofNat 0)), (.int .u8 (.ofNat 0)), (.int .u8 (.ofNat 0)), (.int .u8 (.ofNat 0)), (.int .u8 (.ofNat 0)), (.int .u8 (.ofNat 0)), (.int .u8 (.ofNat 0)), (.int .u8 (.ofNat 0)), (.int .u8 (.ofNat 0)), (.int .u8 (.ofNat 0)), (.int .u8 (.ofNat 0)), (.int .u8 (.ofNat 0)), (.int .u8 (.ofNat 0)), (.int .u8 (.ofNat 0)), (.int .u8 (.ofNat 0)), (.int .u8 (.ofNat 0)), (.int .u8 (.ofNat 0)), (.int .u8 (.ofNat 0)), (.int .u8 (.ofNat 0)), (.int .u8 (.ofNat 0)), (.int .u8 (.ofNat 0)), (.int .u8 (.ofNat 0)), (.int .u8 (.ofNat 0)), (.int .u8 (.ofNat 0)), (.int .u8 (.ofNat 0)), (.int .u8 (.ofNat 0)), (.int .u8 (.ofNat 0)), (.int .u8 (.ofNat 0)), (.int .u8 (.ofNat 0)), (.int .u8 (.ofNat 0)), (.int .u8 (.ofNat 0)), (.int .u8 (.ofNat 0)), (.int .u8 (.ofNat 0)), (.int .u8 (.ofNat 0)), (.int .u8 (.ofNat 0)), (.int .u8 (.ofNat 0)), (.int .u8 (.ofNat 0)), (.int .u8 (.ofNat 0)), (.int .u8 (.ofNat 0)), (.int .u8 (.ofNat 0)), (.int .u8 (.ofNat 0)), (.int .u8 (.ofNat 0)), (.int .u8 (.ofNat 0)), (.int .u8 (.ofNat 0)), (.int .u8 (.ofNat 0)), (.int .u8 (.ofNat 0)), (.int .u8 (.ofNat 0)), (.int .u8 (.ofNat 0)), (.int .u8 (.ofNat 0)), (.int .u8 (.ofNat 0)), (.int .u8 (.ofNat 0)), (.int .u8 (.ofNat 0)), (.int .u8 (.ofNat 0)), (.int .u8 (.ofNat 0)), (.int .u8 (.ofNat 0)), (.int .u8 (.ofNat 0)), (.int .u8 (.ofNat 0)), (.int .u8 (.ofNat 0)), (.int .u8 (.ofNat 0)), (.int .u8 (.ofNat 0)), (.int .u8 (.ofNat 0)), (.int .u8 (.ofNat 0)), (.int .u8 (.ofNat 0)), (.int .u8 (.ofNat 0)), (.int .u8 (.ofNat 0)), (.int .u8 (.ofNat 0)), (.int .u8 (.ofNat 0)), (.int .u8 (.ofNat 0)), (.int .u8 (.ofNat 0)), (.int .u8 (.ofNat 0)), (.int .u8 (.ofNat 0)), (.int .u8 (.ofNat 0)), (.int .u8 (.ofNat 0)), (.int .u8 (.ofNat 0)), (.int .u8 (.ofNat 0)), (.int .u8 (.ofNat 0)), (.int .u8 (.ofNat 0)), (.int .u8 (.ofNat 0)), (.int .u8 (.ofNat 0)), (.int .u8 (.ofNat 0)), (.int .u8 (.ofNat 0)), (.int .u8 (.ofNat 0)), (.int .u8 (.ofNat 0)), (.int .u8 (.ofNat 0)), (.int .u8 (.ofNat 0)), (.int .u8 (.ofNat 0)), (.int .u8 (.ofNat 0)), (.int .u8 (.ofNat 0)), (.int .u8 (.ofNat 0)), (.int .u8 (.ofNat 0)), (.int .u8 (.ofNat 0)), (.int .u8 (.ofNat 0)), (.int .u8 (.ofNat 0)), (.int .u8 (.ofNat 0)), (.int .u8 (.ofNat 0)), (.int .u8 (.ofNat 0)), (.int .u8 (.ofNat 0)), (.int .u8 (.ofNat 0)), (.int .u8 (.ofNat 0)), (.int .u8 (.ofNat 0)), (.int .u8 (.ofNat 0)), (.int .u8 (.ofNat 0)), (.int .u8 (.ofNat 0)), (.int .u8 (.ofNat 0)), (.int .u8 (.ofNat 0)), (.int .u8 (.ofNat 0)), (.int .u8 (.ofNat 0)), (.int .u8 (.ofNat 0)), (.int .u8 (.ofNat 0)), (.int .u8 (.ofNat 0)), (.int .u8 (.ofNat 0)), (.int .u8 (.ofNat 0)), (.int .u8 (.ofNat 0)), (.int .u8 (.ofNat 0)), (.int .u8 (.ofNat 0)), (.int .u8 (.ofNat 0)), (.int .u8 (.ofNat 0)), (.int .u8 (.ofNat 0)), (.int .u8 (.ofNat 0)), (.int .u8 (.ofNat 0)), (.int .u8 (.ofNat 0)), (.int .u8 (.ofNat 0)), (.int .u8 (.ofNat 0)), (.int .u8 (.ofNat 0)), (.int .u8 (.ofNat 0)), (.int .u8 (.ofNat 0)), (.int .u8 (.ofNat 0)), (.int .u8 (.ofNat 0)), (.int .u8 (.ofNat 0)), (.int .u8 (.ofNat 0)), (.int .u8 (.ofNat 0)), (.int .u8 (.ofNat 0)), (.int .u8 (.ofNat 0)), (.int .u8 (.ofNat 0)), (.int .u8 (.ofNat 0)), (.int .u8 (.ofNat 0)), (.int .u8 (.ofNat 0)), (.int .u8 (.ofNat 0)), (.int .u8 (.ofNat 0)), (.int .u8 (.ofNat 0)), (.int .u8 (.ofNat 0)), (.int .u8 (.ofNat 0)), (.int .u8 (.ofNat 0)), (.int .u8 (.ofNat 0)), (.int .u8 (.ofNat 0)), (.int .u8 (.ofNat 0)), (.int .u8 (.ofNat 0)), (.int .u8 (.ofNat 0)), (.int .u8 (.ofNat 0)), (.int .u8 (.ofNat 0)), (.int .u8 (.ofNat 0)), (.int .u8 (.ofNat 0)), (.int .u8 (.ofNat 0)), (.int .u8 (.ofNat 0)), (.int .u8 (.ofNat 0)), (.int .u8 (.ofNat 0)), (.int .u8 (.ofNat 0)), (.int .u8 (.ofNat 0)), (.int .u8 (.ofNat 0)), (.int .u8 (.ofNat 0)), (.int .u8 (.ofNat 0)), (.int .u8 (.ofNat 0)), (.int .u8 (.ofNat 0)), (.int .u8 (.ofNat 0)), (.int .u8 (.ofNat 0)), (.int .u8 (.ofNat 0)), (.int .u8 (.ofNat 0)), (.int .u8 (.ofNat 0)), (.int .u8 (.ofNat 0)), (.int .u8 (.ofNat 0)), (.int .u8 (.ofNat 0)), (.int .u8 (.ofNat 0)), (.int .u8 (.ofNat 0)), (.int .u8 (.ofNat 0)), (.int .u8 (.ofNat 0)), (.int .u8 (.ofNat 0)), (.int .u8 (.ofNat 0)), (.int .u8 (.ofNat 0)), (.int .u8 (.ofNat 0)), (.int .u8 (.ofNat 0)), (.int .u8 (.ofNat 0)), (.int .u8 (.ofNat 0)), (.int .u8 (.ofNat 0)), (.int .u8 (.ofNat 0)), (.int .u8 (.ofNat 0)), (.int .u8 (.ofNat 0)), (.int .u8 (.ofNat 0)), (.int .u8 (.ofNat 0)), (.int .u8 (.ofNat 0)), (.int .u8 (.ofNat 0)), (.int .u8 (.ofNat 0)), (.int .u8 (.ofNat 0)), (.int .u8 (.ofNat 0)), (.int .u8 (.ofNat 0)), (.int .u8 (.ofNat 0)), (.int .u8 (.ofNat 0)), (.int .u8 (.ofNat 0)), (.int .u8 (.ofNat 0)), (.int .u8 (.ofNat 0)), (.int .u8 (.ofNat 0)), (.int .u8 (.ofNat 0)), (.int .u8 (.ofNat 0)), (.int .u8 (.ofNat 0)), (.int .u8 (.ofNat 0)), (.int .u8 (.ofNat 0)), (.int .u8 (.ofNat 0)), (.int .u8 (.ofNat 0)), (.int .u8 (.ofNat 0)), (.int .u8 (.ofNat 0)), (.int .u8 (.ofNat 0)), (.int .u8 (.ofNat 0)), (.int .u8 (.ofNat 0)), (.int .u8 (.ofNat 0)), (.int .u8 (.ofNat 0)), (.int .u8 (.ofNat 0)), (.int .u8 (.ofNat 0)), (.int .u8 (.ofNat 0)), (.int .u8 (.ofNat 0)), (.int .u8 (.ofNat 0)), (.int .u8 (.ofNat 0)), (.int .u8 (.ofNat 0)), (.int .u8 (.ofNat 0)), (.int .u8 (.ofNat 0)), (.int .u8 (.ofNat 0)), (.int .u8 (.ofNat 0)), (.int .u8 (.ofNat 0)), (.int .u8 (.ofNat 0)), (.int .u8 (.ofNat 0)), (.int .u8 (.ofNat 0)), (.int .u8 (.ofNat 0)), (.int .u8 (.ofNat 0)), (.int .u8 (.ofNat 0)), (.int .u8 (.ofNat 0)), (.int .u8 (.ofNat 0)), (.int .u8 (.ofNat 0)), (.int .u8 (.ofNat 0)), (.int .u8 (.ofNat 0)), (.int .u8 (.ofNat 0)), (.int .u8 (.ofNat 0)), (.int .u8 (.ofNat 0)), (.int .u8 (.ofNat 0)), (.int .u8 (.ofNat 0)), (.int .u8 (.ofNat 0)), (.int .u8 (.ofNat 0)), (.int .u8 (.ofNat 0)), (.int .u8 (.ofNat 0)), (.int .u8 (.ofNat 0)), (.int .u8 (.ofNat 0)), (.int .u8 (.ofNat 0)), (.int .u8 (.ofNat 0)), (.int .u8 (.ofNat 0)), (.int .u8 (.ofNat 0)), (.int .u8 (.ofNat 0)), (.int .u8 (.ofNat 0)), (.int .u8 (.ofNat 0)), (.int .u8 (.ofNat 0)), (.int .u8 (.ofNat 0)), (.int .u8 (.ofNat 0)), (.int .u8 (.ofNat 0)), (.int .u8 (.ofNat 0)), (.int .u8 (.ofNat 0)), (.int .u8 (.ofNat 0)), (.int .u8 (.ofNat 0)), (.int .u8 (.ofNat 0)), (.int .u8 (.ofNat 0)), (.int .u8 (.ofNat 0)), (.int .u8 (.ofNat 0)), (.int .u8 (.ofNat 0)), (.int .u8 (.ofNat 0)), (.int .u8 (.ofNat 0)), (.int .u8 (.ofNat 0)), (.int .u8 (.ofNat 0)), (.int .u8 (.ofNat 0)), (.int .u8 (.ofNat 0)), (.int .u8 (.ofNat 0)), (.int .u8 (.ofNat 0)), (.int .u8 (.ofNat 0)), (.int .u8 (.ofNat 0)), (.int .u8 (.ofNat 0)), (.int .u8 (.ofNat 0)), (.int .u8 (.ofNat 0)), (.int .u8 (.ofNat 0)), (.int .u8 (.ofNat 0)), (.int .u8 (.ofNat 0)), (.int .u8 (.ofNat 0)), (.int .u8 (.ofNat 0)), (.int .u8 (.ofNat 0)), (.int .u8 (.ofNat 0)), (.int .u8 (.ofNat 0)), (.int .u8 (.ofNat 0)), (.int .u8 (.ofNat 0)), (.int .u8 (.ofNat 0)), (.int .u8 (.ofNat 0)), (.int .u8 (.ofNat 0)), (.int .u8 (.ofNat 0)), (.int .u8 (.ofNat 0)), (.int .u8 (.ofNat 0)), (.int .u8 (.ofNat 0)), (.int .u8 (.ofNat 0)), (.int .u8 (.ofNat 0)), (.int .u8 (.ofNat 0)), (.int .u8 (.ofNat 0)), (.int .u8 (.ofNat 0)), (.int .u8 (.ofNat 0)), (.int .u8 (.ofNat 0)), (.int .u8 (.ofNat 0)), (.int .u8 (.ofNat 0)), (.int .u8 (.ofNat 0)), (.int .u8 (.ofNat 0)), (.int .u8 (.ofNat 0)), (.int .u8 (.ofNat 0)), (.int .u8 (.ofNat 0)), (.int .u8 (.ofNat 0)), (.int .u8 (.ofNat 0)), (.int .u8 (.ofNat 0)), (.int .u8 (.ofNat 0)), (.int .u8 (.ofNat 0)), (.int .u8 (.ofNat 0)), (.int .u8 (.ofNat 0)), (.int .u8 (.ofNat 0)), (.int .u8 (.ofNat 0)), (.int .u8 (.ofNat 0)), (.int .u8 (.ofNat 0)), (.int .u8 (.ofNat 0)), (.int .u8 (.ofNat 0)), (.int .u8 (.ofNat 0)), (.int .u8 (.ofNat 0)), (.int .u8 (.ofNat 0)), (.int .u8 (.ofNat 0)), (.int .u8 (.ofNat 0)), (.int .u8 (.ofNat 0)), (.int .u8 (.ofNat 0)), (.int .u8 (.ofNat 0)), (.int .u8 (.ofNat 0)), (.int .u8 (.ofNat 0)), (.int .u8 (.ofNat 0)), (.int .u8 (.ofNat 0)), (.int .u8 (.ofNat 0)), (.int .u8 (.ofNat 0)), (.int .u8 (.ofNat 0)), (.int .u8 (.ofNat 0)), (.int .u8 (.ofNat 0)), (.int .u8 (.ofNat 0)), (.int .u8 (.ofNat 0)), (.int .u8 (.ofNat 0)), (.int .u8 (.ofNat 0)), (.int .u8 (.ofNat 0)), (.int .u8 (.ofNat 0)), (.int .u8 (.ofNat 0)), (.int .u8 (.ofNat 0)), (.int .u8 (.ofNat 0)), (.int .u8 (.ofNat 0)), (.int .u8 (.ofNat 0)), (.int .u8 (.ofNat 0)), (.int .u8 (.ofNat 0)), (.int .u8 (.ofNat 0)), (.int .u8 (.ofNat 0)), (.int .u8 (.ofNat 0)), (.int .u8 (.ofNat 0)), (.int .u8 (.ofNat 0)), (.int .u8 (.ofNat 0)), (.int .u8 (.ofNat 0)), (.int .u8 (.ofNat 0)), (.int .u8 (.ofNat 0)), (.int .u8 (.ofNat 0)), (.int .u8 (.ofNat 0)), (.int .u8 (.ofNat 0)), (.int .u8 (.ofNat 0)), (.int .u8 (.ofNat 0)), (.int .u8 (.ofNat 0)), (.int .u8 (.ofNat 0)), (.int .u8 (.ofNat 0)), (.int .u8 (.ofNat 0)), (.int .u8 (.ofNat 0)), (.int .u8 (.ofNat 0)), (.int .u8 (.ofNat 0)), (.int .u8 (.ofNat 0)), (.int .u8 (.ofNat 0)), (.int .u8 (.ofNat 0)), (.int .u8 (.ofNat 0)), (.int .u8 (.ofNat 0)), (.int .u8 (.ofNat 0)), (.int .u8 (.ofNat 0)), (.int .u8 (.ofNat 0)), (.int .u8 (.ofNat 0)), (.int .u8 (.ofNat 0)), (.int .u8 (.ofNat 0)), (.int .u8 (.ofNat 0)), (.int .u8 (.ofNat 0)), (.int .u8 (.ofNat 0)), (.int .u8 (.ofNat 0)), (.int .u8 (.ofNat 0)), (.int .u8 (.ofNat 0)), (.int .u8 (.ofNat 0)), (.int .u8 (.ofNat 0)), (.int .u8 (.ofNat 0)), (.int .u8 (.ofNat 0)), (.int .u8 (.ofNat 0)), (.int .u8 (.ofNat 0)), (.int .u8 (.ofNat 0)), (.int .u8 (.ofNat 0)), (.int .u8 (.ofNat 0)), (.int .u8 (.ofNat 0)), (.int .u8 (.ofNat 0)), (.int .u8 (.ofNat 0)), (.int .u8 (.ofNat 0)), (.int .u8 (.ofNat 0)), (.int .u8 (.ofNat 0)), (.int .u8 (.ofNat 0)), (.int .u8 (.ofNat 0)), (.int .u8 (.ofNat 0)), (.int .u8 (.ofNat 0)), (.int .u8 (.ofNat 0)), (.int .u8 (.ofNat 0)), (.int .u8 (.ofNat 0)), (.int .u8 (.ofNat 0)), (.int .u8 (.ofNat 0)), (.int .u8 (.ofNat 0)), (.int .u8 (.ofNat 0)), (.int .u8 (.ofNat 0)), (.int .u8 (.ofNat 0)), (.int .u8 (.ofNat 0)), (.int .u8 (.ofNat 0)), (.int .u8 (.ofNat 0)), (.int .u8 (.ofNat 0)), (.int .u8 (.ofNat 0)), (.int .u8 (.ofNat 0)), (.int .u8 (.ofNat 0)), (.int .u8 (.ofNat 0)), (.int .u8 (.ofNat 0)), (kI 0), (kI 0), (.bool false), (.bool false)])] (.seq (.seq (.oX [.mv p125 q0 .s, .mv p126 q3 tI, .P p127 (.slice .str q125 none (some q126) none) .s, .cl p128 130 [q23, q127] .b, .P p129 (.un .not q128) .b]) (.cond q129 (.seq (.oX [.mv p130 q3 tI, .P p131 (.mkif 121 (ci 2)) .v, .mv p2 (.c (.flt .f64 0)) .v, .mv p3 q130 tI, .mv p4 q131 .v]) .ret) .skip)) (.sO [.cl p133 131 [q23, (.c (.ptr p7 0))] .v, .mv p132 q133 .v, .P p134 (.ext q132 0) (.i .u64), .P p135 (.ext q132 1) .b, .mv p24 q134 (.i .u64), .mv p25 q135 .b] (.sO [.mv p136 q24 (.i .u64), .P p137 (.xt .ffrom [q136]) .v, .mv p2 q137 .v] (.sj v115_1 (.sO [.mv p138 q25 .b] (.cond q138 (.s (.oX [.P p139 (.mkif 121 (ci 1)) .v, .mv p4 q139 .v])) (.s .skip))) c115_1)))))
def v115_2 : List Pos := [p0, p3, p4, p8, p9, p11, p16]
def c115_2 : XC := (.sO [.mv p100 q8 (.i .u64), .mv p101 q9 tI, .mv p102 q16 (.i .u64), .cl p103 135 [q100, q101, q102] .v, .mv p99 q103 .v, .P p104 (.ext q99 0) .v, .P p105 (.ext q99 1) .v, .mv p19 q104 .v, .mv p20 q105 .v] (.seq (.seq (.oX [.mv p106 q11 .b, .P p107 (.un .not q106) .b]) (.cond q107 (.seq (.oX [.mv p108 q19 .v, .mv p109 q3 tI, .mv p110 q20 .v, .mv p2 q108 .v, .mv p3 q109 tI, .mv p4 q110 .v]) .ret) .skip)) (.sO [.mv p112 q8 (.i .u64), .bn p113 .add q112 (.c (.int .u64 (.ofNat 1))) (.i .u64), .mv p114 q9 tI, .mv p115 q16 (.i .u64), .cl p116 135 [q113, q114, q115] .v, .mv p111 q116 .v, .P p117 (.ext q111 0) .v, .P p118 (.ext q111 1) .v, .mv p21 q117 .v, .mv p22 q118 .v] (.sO [.mv p119 q19 .v, .mv p120 q21 .v, .bn p121 .eql q119 q120 .b] (.cond q121 (.sO [.mv p122 q19 .v, .mv p123 q3 tI, .mv p124 q20 .v, .mv p2 q122 .v, .mv p3 q123 tI, .mv p4 q124 .v] (.s .ret)) (.s .skip))))))
def c115_e : XC := (.sO [.mv p2 (.c (.flt .f64 0)) .v, .mv p3 (ci 0) tI, .mv p4 (.c .nili) .v] (.seq (.seq (.oX [.mv p27 q0 .s, .cl p28 123 [q27] .v, .mv p26 q28 .v, .P p29 (.ext q26 0) .v, .P p30 (.ext q26 1) tI, .P p31 (.ext q26 2) .b, .mv p5 q29 .v, .mv p6 q30 tI, .mv p7 q31 .b]) (.seq (.oX [.mv p32 q7 .b]) (.cond q32 (.seq (.oX [.mv p33 q5 .v, .mv p34 q6 tI, .mv p2 q33 .v, .mv p3 q34 tI, .mv p4 (.c .nili) .v]) .ret) .skip))) (.sO [.mv p36 q0 .s, .cl p37 124 [q36] .v, .mv p35 q37 .v, .P p38 (.ext q35 0) (.i .u64), .P p39 (.ext q35 1) tI, .P p40 (.ext q35 2) .b, .P p41 (.ext q35 3) .b, .P p42 (.ext q35 4) .b, .P p43 (.ext q35 5) tI, .P p44 (.ext q35 6) .b, .mv p8 q38 (.i .u64), .mv p9 q39 tI, .mv p10 q40 .b, .mv p11 q41 .b, .mv p12 q42 .b, .mv p3 q43 tI, .mv p13 q44 .b] (.seq (.seq (.oX [.mv p45 q13 .b, .P p46 (.un .not q45) .b]) (.cond q46 (.seq (.oX [.mv p47 q3 tI, .P p48 (.mkif 121 (ci 2)) .v, .mv p2 (.c (.flt .f64 0)) .v, .mv p3 q47 tI, .mv p4 q48 .v]) .ret) .skip)) (.seq (.seq (.oX [.mv p49 q12 .b]) (.cond q49 (.seq (.oX [.mv p51 q0 .s, .mv p52 q3 tI, .P p53 (.slice .str q51 none (some q52) none) .s, .mv p54 q8 (.i .u64), .mv p55 q9 tI, .mv p56 q10 .b, .mv p57 q11 .b, .cl p58 125 [q53, (.c (.ptr p7 0)), q54, q55, q56, q57] .v, .mv p50 q58 .v, .P p59 (.ext q50 0) .v, .P p60 (.ext q50 1) .v, .mv p14 q59 .v, .mv p15 q60 .v]) (.seq (.oX [.mv p61 q14 .v, .mv p62 q3 tI, .mv p63 q15 .v, .mv p2 q61 .v, .mv p3 q62 tI, .mv p4 q63 .v]) .ret)) .skip)) (.sj v115_0 (.sO [.ld p64 (.c (.ptr p6 0)) .b] (.cond q64 (.sO [.mv p65 q10 .b, .cl p66 132 [q65] (.i .u64), .bn p67 .shl q66 (.c (.int .u64 (.ofNat 63))) (.i .u64), .mv p16 q67 (.i .u64)] (.seq (.seq (.oX [.mv p68 q8 (.i .u64), .bn p69 .eql q68 (.c (.int .u64 (.ofNat 0))) .b]) (.cond q69 (.seq (.oX [.mv p70 q16 (.i .u64), .bn p71 .or q70 (.c (.int .u64 (.ofNat 0))) (.i .u64), .P p72 (.xt .ffrom [q71]) .v, .mv p73 q3 tI, .mv p2 q72 .v, .mv p3 q73 tI, .mv p4 (.c .nili) .v]) .ret) .skip)) (.seq (.seq (.oX [.mv p74 q9 tI, .bn p75 .gtr q74 (ci 310) .b]) (.cond q75 (.seq (.oX [.mv p76 q16 (.i .u64), .bn p77 .or q76 (.c (.int .u64 (.ofNat 9218868437227405312))) (.i .u64), .P p78 (.xt .ffrom [q77]) .v, .mv p79 q3 tI, .P p80 (.mkif 121 (ci 1)) .v, .mv p2 q78 .v, .mv p3 q79 tI, .mv p4 q80 .v]) .ret) .skip)) (.seq (.seq (.oX [.mv p81 q9 tI, .bn p82 .lss q81 (.c (.int .i64 (.negSucc 344))) .b]) (.cond q82 (.seq (.oX [.mv p83 q16 (.i .u64), .bn p84 .or q83 (.c (.int .u64 (.ofNat 0))) (.i .u64), .P p85 (.xt .ffrom [q84]) .v, .mv p86 q3 tI, .mv p2 q85 .v, .mv p3 q86 tI, .mv p4 (.c .nili) .v]) .ret) .skip)) (.sj v115_2 (.sO [.mv p87 q11 .b, .P p88 (.un .not q87) .b] (.cond q88 (.sO [.mv p90 q8 (.i .u64), .mv p91 q9 tI, .mv p92 q10 .b, .cl p93 134 [q90, q91, q92] .v, .mv p89 q93 .v, .P p94 (.ext q89 0) .v, .P p95 (.ext q89 1) .b, .mv p17 q94 .v, .mv p18 q95 .b] (.sO [.mv p96 q18 .b] (.cond q96 (.sO [.mv p97 q17 .v, .mv p98 q3 tI, .mv p2 q97 .v, .mv p3 q98 tI, .mv p4 (.c .nili) .v] (.s .ret)) (.s .skip)))) (.s .skip))) c115_2))))) (.s .skip))) c115_0))))))
def x115 : XFn := ⟨[.s], false, [(.tmp p2), (.tmp p3), (.tmp p4)], c115_e⟩
def e115_1 (k t2 t3 t4 h) := kN k [(p2, t2), (p3, (vI t3)), (p4, t4)] h
def S115_1 (D : CallD) (m : Nat) (t2 : AV) (t3 : Int) (t4 : AV) (h : HP) : Res2 :=
 some (.ret (.tup [t2, (vI t3), t4]) h, .no)
def e115_0 (k t0 t3 t4 h) := kN k [(p0, (vS t0)), (p3, (vI t3)), (p4, t4)] h
def S115_0 (D : CallD) (m : Nat) (t0 : LN) (t3 : Int) (t4 : AV) (h : HP) : Res2 :=
 let t23 := AV.ptr (HP.nxQ h) 0
 let h7 := HP.newQ h (.cells true [(.int .u8 (.ofNat 0)), (.int .u8 (.ofNat 0)), (.int .u8 (.ofNat 0)), (.int .u8 (.ofNat 0)), (.int .u8 (.ofNat 0)), (.int .u8 (.ofNat 0)), (.int .u8 (.ofNat 0)), (.int .u8 (.ofNat 0)), (.int .u8 (.ofNat 0)), (.int .u8 (.ofNat 0)), (.int .u8 (.ofNat 0)), (.int .u8 (.ofNat 0)), (.int .u8 (.ofNat 0)), (.int .u8 (.ofNat 0)), (.int .u8 (.ofNat 0)), (.int .u8 (.ofNat 0)), (.int .u8 (.ofNat 0)), (.int .u8 (.ofNat 0)), (.int .u8 (.ofNat 0)), (.int .u8 (.ofNat 0)), (.int .u8 (.ofNat 0)), (.int .u8 (.ofNat 0)), (.int .u8 (.ofNat 0)), (.int .u8 (.ofNat 0)), (.int .u8 (.ofNat 0)), (.int .u8 (.ofNat 0)), (.int .u8 (.ofNat 0)), (.int .u8 (.ofNat 0)), (.int .u8 (.ofNat 0)), (.int .u8 (.ofNat 0)), (.int .u8 (.ofNat 0)), (.int .u8 (.ofNat 0)), (.int .u8 (.ofNat 0)), (.int .u8 (.ofNat 0)), (.int .u8 (.ofNat 0)), (.int .u8 (.ofNat 0)), (.int .u8 (.ofNat 0)), (.int .u8 (.ofNat 0)), (.int .u8 (.ofNat 0)), (.int .u8 (.ofNat 0)), (.int .u8 (.ofNat 0)), (.int .u8 (.ofNat 0)), (.int .u8 (.ofNat 0)), (.int .u8 (.ofNat 0)), (.int .u8 (.ofNat 0)), (.int .u8 (.ofNat 0)), (.int .u8 (.ofNat 0)), (.int .u8 (.ofNat 0)), (.int .u8 (.ofNat 0)), (.int .u8 (.ofNat 0)), (.int .u8 (.ofNat 0)), (.int .u8 (.ofNat 0)), (.int .u8 (.ofNat 0)), (.int .u8 (.ofNat 0)), (.int .u8 (.ofNat 0)), (.int .u8 (.ofNat 0)), (.int .u8 (.ofNat 0)), (.int .u8 (.ofNat 0)), (.int .u8 (.ofNat 0)), (.int .u8 (.ofNat 0)), (.int .u8 (.ofNat 0)), (.int .u8 (.ofNat 0)), (.int .u8 (.ofNat 0)), (.int .u8 (.ofNat 0)), (.int .u8 (.ofNat 0)), (.int .u8 (.ofNat 0)), (.int .u8 (.ofNat 0)), (.int .u8 (.ofNat 0)), (.int .u8 (.ofNat 0)), (.int .u8 (.ofNat 0)), (.int .u8 (.ofNat 0)), (.int .u8 (.ofNat 0)), (.int .u8 (.ofNat 0)), (.int .u8 (.ofNat 0)), (.int .u8 (.ofNat 0)), (.int .u8 (.ofNat 0)), (.int .u8 (.ofNat 0)), (.int .u8 (.ofNat 0)), (.int .u8 (.ofNat 0)), (.int .u8 (.ofNat 0)), (.int .u8 (.ofNat 0)), (.int .u8 (.ofNat 0)), (.int .u8 (.ofNat 0)), (.int .u8 (.ofNat 0)), (.int .u8 (.ofNat 0)), (.int .u8 (.ofNat 0)), (.int .u8 (.ofNat 0)), (.int .u8 (.ofNat 0)), (.int .u8 (.ofNat 0)), (.int .u8 (.ofNat 0)), (.int .u8 (.ofNat 0)), (.int .u8 (.ofNat 0)), (.int .u8 (.ofNat 0)), (.int .u8 (.ofNat 0)), (.int .u8 (.ofNat 0)), (.int .u8 (.ofNat 0)), (.int .u8 (.ofNat 0)), (.int .u8 (.ofNat 0)), (.int .u8 (.ofNat 0)), (.int .u8 (.ofNat 0)), (.int .u8 (.ofNat 0)), (.int .u8 (.ofNat 0)), (.int .u8 (.ofNat 0)), (.int .u8 (.ofNat 0)), (.int .u8 (.ofNat 0)), (.int .u8 (.ofNat 0)), (.int .u8 (.ofNat 0)), (.int .u8 (.ofNat 0)), (.int .u8 (.ofNat 0)), (.int .u8 (.ofNat 0)), (.int .u8 (.ofNat 0)), (.int .u8 (.ofNat 0)), (.int .u8 (.ofNat 0)), (.int .u8 (.ofNat 0)), (.int .u8 (.ofNat 0)), (.int .u8 (.ofNat 0)), (.int .u8 (.ofNat 0)), (.int .u8 (.ofNat 0)), (.int .u8 (.ofNat 0)), (.int .u8 (.ofNat 0)), (.int .u8 (.ofNat 0)), (.int .u8 (.ofNat 0)), (.int .u8 (.ofNat 0)), (.int .u8 (.ofNat 0)), (.int .u8 (.ofNat 0)), (.int .u8 (.ofNat 0)), (.int .u8 (.ofNat 0)), (.int .u8 (.ofNat 0)), (.int .u8 (.ofNat 0)), (.int .u8 (.ofNat 0)), (.int .u8 (.ofNat 0)), (.int .u8 (.ofNat 0)), (.int .u8 (.ofNat 0)), (.int .u8 (.ofNat 0)), (.int .u8 (.ofNat 0)), (.int .u8 (.ofNat 0)), (.int .u8 (.ofNat 0)), (.int .u8 (.ofNat 0)), (.int .u8 (.ofNat 0)), (.int .u8 (.ofNat 0)), (.int .u8 (.ofNat 0)), (.int .u8 (.ofNat 0)), (.int .u8 (.ofNat 0)), (.int .u8 (.ofNat 0)), (.int .u8 (.ofNat 0)), (.int .u8 (.ofNat 0)), (.int .u8 (.ofNat 0)), (.int .u8 (.ofNat 0)), (.int .u8 (.ofNat 0)), (.int .u8 (.ofNat 0)), (.int .u8 (.ofNat 0)), (.int .u8 (.ofNat 0)), (.int .u8 (.ofNat 0)), (.int .u8 (.ofNat 0)), (.int .u8 (.ofNat 0)), (.int .u8 (.ofNat 0)), (.int .u8 (.ofNat 0)), (.int .u8 (.ofNat 0)), (.int .u8 (.ofNat 0)), (.int .u8 (.ofNat 0)), (.int .u8 (.ofNat 0)), (.int .u8 (.ofNat 0)), (.int .u8 (.ofNat 0)), (.int .u8 (.ofNat 0)), (.int .u8 (.ofNat 0)), (.int .u8 (.ofNat 0)), (.int .u8 (.ofNat 0)), (.int .u8 (.ofNat 0)), (.int .u8 (.ofNat 0)), (.int .u8 (.ofNat 0)), (.int .u8 (.ofNat 0)), (.int .u8 (.ofNat 0)), (.int .u8 (.ofNat 0)), (.int .u8 (.ofNat 0)), (.int .u8 (.ofNat 0)), (.int .u8 (.ofNat 0)), (.int .u8 (.ofNat 0)), (.int .u8 (.ofNat 0)), (.int .u8 (.ofNat 0)), (.int .u8 (.ofNat 0)), (.int .u8 (.ofNat 0)), (.int .u8 (.ofNat 0)), (.int .u8 (.ofNat 0)), (.int .u8 (.ofNat 0)), (.int .u8 (.ofNat 0)), (.int .u8 (.ofNat 0)), (.int .u8 (.ofNat 0)), (.int .u8 (.ofNat 0)), (.int .u8 (.ofNat 0)), (.int .u8 (.ofNat 0)), (.int .u8 (.ofNat 0)), (.int .u8 (.ofNat 0)), (.int .u8 (.ofNat 0)), (.int .u8 (.ofNat 0)), (.int .u8 (.ofNat 0)), (.int .u8 (.ofNat 0)), (.int .u8 (.ofNat 0)), (.int .u8 (.ofNat 0)), (.int .u8 (.ofNat 0)), (.int .u8 (.ofNat 0)), (.int .u8 (.ofNat 0)), (.int .u8 (.ofNat 0)), (.int .u8 (.ofNat 0)), (.int .u8 (.ofNat 0)), (.int .u8 (.ofNat 0)), (.int .u8 (.ofNat 0)), (.int .u8 (.ofNat 0)), (.int .u8 (.ofNat 0)), (.int .u8 (.ofNat 0)), (.int .u8 (.ofNat 0)), (.int .u8 (.ofNat 0)), (.int .u8 (.ofNat 0)), (.int .u8 (.ofNat 0)), (.int .u8 (.ofNat 0)), (.int .u8 (.ofNat 0)), (.int .u8 (.ofNat 0)), (.int .u8 (.ofNat 0)), (.int .u8 (.ofNat 0)), (.int .u8 (.ofNat 0)), (.int .u8 (.ofNat 0)), (.int .u8 (.ofNat 0)), (.int .u8 (.ofNat 0)), (.int .u8 (.ofNat 0)), (.int .u8 (.ofNat 0)), (.int .u8 (.ofNat 0)), (.int .u8 (.ofNat 0)), (.int .u8 (.ofNat 0)), (.int .u8 (.ofNat 0)), (.int .u8 (.ofNat 0)), (.int .u8 (.ofNat 0)), (.int .u8 (.ofNat 0)), (.int .u8 (.ofNat 0)), (.int .u8 (.ofNat 0)), (.int .u8 (.ofNat 0)), (.int .u8 (.ofNat 0)), (.int .u8 (.ofNat 0)), (.int .u8 (.ofNat 0)), (.int .u8 (.ofNat 0)), (.int .u8 (.ofNat 0)), (.int .u8 (.ofNat 0)), (.int .u8 (.ofNat 0)), (.int .u8 (.ofNat 0)), (.int .u8 (.ofNat 0)), (.int .u8 (.ofNat 0)), (.int .u8 (.ofNat 0)), (.int .u8 (.ofNat 0)), (.int .u8 (.ofNat 0)), (.int .u8 (.ofNat 0)), (.int .u8 (.ofNat 0)), (.int .u8 (.ofNat 0)), (.int .u8 (.ofNat 0)), (.int .u8 (.ofNat 0)), (.int .u8 (.ofNat 0)), (.int .u8 (.ofNat 0)), (.int .u8 (.ofNat 0)), (.int .u8 (.ofNat 0)), (.int .u8 (.ofNat 0)), (.int .u8 (.ofNat 0)), (.int .u8 (.ofNat 0)), (.int .u8 (.ofNat 0)), (.int .u8 (.ofNat 0)), (.int .u8 (.ofNat 0)), (.int .u8 (.ofNat 0)), (.int .u8 (.ofNat 0)), (.int .u8 (.ofNat 0)), (.int .u8 (.ofNat 0)), (.int .u8 (.ofNat 0)), (.int .u8 (.ofNat 0)), (.int .u8 (.ofNat 0)), (.int .u8 (.ofNat 0)), (.int .u8 (.ofNat 0)), (.int .u8 (.ofNat 0)), (.int .u8 (.ofNat 0)), (.int .u8 (.ofNat 0)), (.int .u8 (.ofNat 0)), (.int .u8 (.ofNat 0)), (.int .u8 (.ofNat 0)), (.int .u8 (.ofNat 0)), (.int .u8 (.ofNat 0)), (.int .u8 (.ofNat 0)), (.int .u8 (.ofNat 0)), (.int .u8 (.ofNat 0)), (.int .u8 (.ofNat 0)), (.int .u8 (.ofNat 0)), (.int .u8 (.ofNat 0)), (.int .u8 (.ofNat 0)), (.int .u8 (.ofNat 0)), (.int .u8 (.ofNat 0)), (.int .u8 (.ofNat 0)), (.int .u8 (.ofNat 0)), (.int .u8 (.ofNat 0)), (.int .u8 (.ofNat 0)), (.int .u8 (.ofNat 0)), (.int .u8 (.ofNat 0)), (.int .u8 (.ofNat 0)), (.int .u8 (.ofNat 0)), (.int .u8 (.ofNat 0)), (.int .u8 (.ofNat 0)), (.int .u8 (.ofNat 0)), (.int .u8 (.ofNat 0)), (.int .u8 (.ofNat 0)), (.int .u8 (.ofNat 0)), (.int .u8 (.ofNat 0)), (.int .u8 (.ofNat 0)), (.int .u8 (.ofNat 0)), (.int .u8 (.ofNat 0)), (.int .u8 (.ofNat 0)), (.int .u8 (.ofNat 0)), (.int .u8 (.ofNat 0)), (.int .u8 (.ofNat 0)), (.int .u8 (.ofNat 0)), (.int .u8 (.ofNat 0)), (.int .u8 (.ofNat 0)), (.int .u8 (.ofNat 0)), (.int .u8 (.ofNat 0)), (.int .u8 (.ofNat 0)), (.int .u8 (.ofNat 0)), (.int .u8 (.ofNat 0)), (.int .u8 (.ofNat 0)), (.int .u8 (.ofNat 0)), (.int .u8 (.ofNat 0)), (.int .u8 (.ofNat 0)), (.int .u8 (.ofNat 0)), (.int .u8 (.ofNat 0)), (.int .u8 (.ofNat 0)), (.int .u8 (.ofNat 0)), (.int .u8 (.ofNat 0)), (.int .u8 (.ofNat 0)), (.int .u8 (.ofNat 0)), (.int .u8 (.ofNat 0)), (.int .u8 (.ofNat 0)), (.int .u8 (.ofNat 0)), (.int .u8 (.ofNat 0)), (.int .u8 (.ofNat 0)), (.int .u8 (.ofNat 0)), (.int .u8 (.ofNat 0)), (.int .u8 (.ofNat 0)), (.int .u8 (.ofNat 0)), (.int .u8 (.ofNat 0)), (.int .u8 (.ofNat 0)), (.int .u8 (.ofNat 0)), (.int .u8 (.ofNat 0)), (.int .u8 (.ofNat 0)), (.int .u8 (.ofNat 0)), (.int .u8 (.ofNat 0)), (.int .u8 (.ofNat 0)), (.int .u8 (.ofNat 0)), (.int .u8 (.ofNat 0)), (.int .u8 (.ofNat 0)), (.int .u8 (.ofNat 0)), (.int .u8 (.ofNat 0)), (.int .u8 (.ofNat 0)), (.int .u8 (.ofNat 0)), (.int .u8 (.ofNat 0)), (.int .u8 (.ofNat 0)), (.int .u8 (.ofNat 0)), (.int .u8 (.ofNat 0)), (.int .u8 (.ofNat 0)), (.int .u8 (.ofNat 0)), (.int .u8 (.ofNat 0)), (.int .u8 (.ofNat 0)), (.int .u8 (.ofNat 0)), (.int .u8 (.ofNat 0)), (.int .u8 (.ofNat 0)), (.int .u8 (.ofNat 0)), (.int .u8 (.ofNat 0)), (.int .u8 (.ofNat 0)), (.int .u8 (.ofNat 0)), (.int .u8 (.ofNat 0)), (.int .u8 (.ofNat 0)), (.int .u8 (.ofNat 0)), (.int .u8 (.ofNat 0)), (.int .u8 (.ofNat 0)), (.int .u8 (.ofNat 0)), (.int .u8 (.ofNat 0)), (.int .u8 (.ofNat 0)), (.int .u8 (.ofNat 0)), (.int .u8 (.ofNat 0)), (.int .u8 (.ofNat 0)), (.int .u8 (.ofNat 0)), (.int .u8 (.ofNat 0)), (.int .u8 (.ofNat 0)), (.int .u8 (.ofNat 0)), (.int .u8 (.ofNat 0)), (.int .u8 (.ofNat 0)), (.int .u8 (.ofNat 0)), (.int .u8 (.ofNat 0)), (.int .u8 (.ofNat 0)), (.int .u8 (.ofNat 0)), (.int .u8 (.ofNat 0)), (.int .u8 (.ofNat 0)), (.int .u8 (.ofNat 0)), (.int .u8 (.ofNat 0)), (.int .u8 (.ofNat 0)), (.int .u8 (.ofNat 0)), (.int .u8 (.ofNat 0)), (.int .u8 (.ofNat 0)), (.int .u8 (.ofNat 0)), (.int .u8 (.ofNat 0)), (.int .u8 (.ofNat 0)), (.int .u8 (.ofNat 0)), (.int .u8 (.ofNat 0)), (.int .u8 (.ofNat 0)), (.int .u8 (.ofNat 0)), (.int .u8 (.ofNat 0)), (.int .u8 (.ofNat 0)), (.int .u8 (.ofNat 0)), (.int .u8 (.ofNat 0)), (.int .u8 (.ofNat 0)), (.int .u8 (.ofNat 0)), (.int .u8 (.ofNat 0)), (.int .u8 (.ofNat 0)), (.int .u8 (.ofNat 0)), (.int .u8 (.ofNat 0)), (.int .u8 (.ofNat 0)), (.int .u8 (.ofNat 0)), (.int .u8 (.ofNat 0)), (.int .u8 (.ofNat 0)), (.int .u8 (.ofNat 0)), (.int .u8 (.ofNat 0)), (.int .u8 (.ofNat 0)), (.int .u8 (.ofNat 0)), (.int .u8 (.ofNat 0)), (.int .u8 (.ofNat 0)), (.int .u8 (.ofNat 0)), (.int .u8 (.ofNat 0)), (.int .u8 (.ofNat 0)), (.int .u8 (.ofNat 0)), (.int .u8 (.ofNat 0)), (.int .u8 (.ofNat 0)), (.int .u8 (.ofNat 0)), (.int .u8 (.ofNat 0)), (.int .u8 (.ofNat 0)), (.int .u8 (.ofNat 0)), (.int .u8 (.ofNat 0)), (.int .u8 (.ofNat 0)), (.int .u8 (.ofNat 0)), (.int .u8 (.ofNat 0)), (.int .u8 (.ofNat 0)), (.int .u8 (.ofNat 0)), (.int .u8 (.ofNat 0)), (.int .u8 (.ofNat 0)), (.int .u8 (.ofNat 0)), (.int .u8 (.ofNat 0)), (.int .u8 (.ofNat 0)), (.int .u8 (.ofNat 0)), (.int .u8 (.ofNat 0)), (.int .u8 (.ofNat 0)), (.int .u8 (.ofNat 0)), (.int .u8 (.ofNat 0)), (.int .u8 (.ofNat 0)), (.int .u8 (.ofNat 0)), (.int .u8 (.ofNat 0)), (.int .u8 (.ofNat 0)), (.int .u8 (.ofNat 0)), (.int .u8 (.ofNat 0)), (.int .u8 (.ofNat 0)), (.int .u8 (.ofNat 0)), (.int .u8 (.ofNat 0)), (.int .u8 (.ofNat 0)), (.int .u8 (.ofNat 0)), (.int .u8 (.ofNat 0)), (.int .u8 (.ofNat 0)), (.int .u8 (.ofNat 0)), (.int .u8 (.ofNat 0)), (.int .u8 (.ofNat 0)), (.int .u8 (.ofNat 0)), (.int .u8 (.ofNat 0)), (.int .u8 (.ofNat 0)), (.int .u8 (.ofNat 0)), (.int .u8 (.ofNat 0)), (.int .u8 (.ofNat 0)), (.int .u8 (.ofNat 0)), (.int .u8 (.ofNat 0)), (.int .u8 (.ofNat 0)), (.int .u8 (.ofNat 0)), (.int .u8 (.ofNat 0)), (.int .u8 (.ofNat 0)), (.int .u8 (.ofNat 0)), (.int .u8 (.ofNat 0)), (.int .u8 (.ofNat 0)), (.int .u8 (.ofNat 0)), (.int .u8 (.ofNat 0)), (.int .u8 (.ofNat 0)), (.int .u8 (.ofNat 0)), (.int .u8 (.ofNat 0)), (.int .u8 (.ofNat 0)), (.int .u8 (.ofNat 0)), (.int .u8 (.ofNat 0)), (.int .u8 (.ofNat 0)), (.int .u8 (.ofNat 0)), (.int .u8 (.ofNat 0)), (.int .u8 (.ofNat 0)), (.int .u8 (.ofNat 0)), (.int .u8 (.ofNat 0)), (.int .u8 (.ofNat 0)), (.int .u8 (.ofNat 0)), (.int .u8 (.ofNat 0)), (.int .u8 (.ofNat 0)), (.int .u8 (.ofNat 0)), (.int .u8 (.ofNat 0)), (.int .u8 (.ofNat 0)), (.int .u8 (.ofNat 0)), (.int .u8 (.ofNat 0)), (.int .u8 (.ofNat 0)), (.int .u8 (.ofNat 0)), (.int .u8 (.ofNat 0)), (.int .u8 (.ofNat 0)), (.int .u8 (.ofNat 0)), (.int .u8 (.ofNat 0)), (.int .u8 (.ofNat 0)), (.int .u8 (.ofNat 0)), (.int .u8 (.ofNat 0)), (.int .u8 (.ofNat 0)), (.int .u8 (.ofNat 0)), (.int .u8 (.ofNat 0)), (.int .u8 (.ofNat 0)), (.int .u8 (.ofNat 0)), (.int .u8 (.ofNat 0)), (.int .u8 (.ofNat 0)), (.int .u8 (.ofNat 0)), (.int .u8 (.ofNat 0)), (.int .u8 (.ofNat 0)), (.int .u8 (.ofNat 0)), (.int .u8 (.ofNat 0)), (.int .u8 (.ofNat 0)), (.int .u8 (.ofNat 0)), (.int .u8 (.ofNat 0)), (.int .u8 (.ofNat 0)), (.int .u8 (.ofNat 0)), (.int .u8 (.ofNat 0)), (.int .u8 (.ofNat 0)), (.int .u8 (.ofNat 0)), (.int .u8 (.ofNat 0)), (.int .u8 (.ofNat 0)), (.int .u8 (.ofNat 0)), (.int .u8 (.ofNat 0)), (.int .u8 (.ofNat 0)), (.int .u8 (.ofNat 0)), (.int .u8 (.ofNat 0)), (.int .u8 (.ofNat 0)), (.int .u8 (.ofNat 0)), (.int .u8 (.ofNat 0)), (.int .u8 (.ofNat 0)), (.int .u8 (.ofNat 0)), (.int .u8 (.ofNat 0)), (.int .u8 (.ofNat 0)), (.int .u8 (.ofNat 0)), (.int .u8 (.ofNat 0)), (.int .u8 (.ofNat 0)), (.int .u8 (.ofNat 0)), (.int .u8 (.ofNat 0)), (.int .u8 (.ofNat 0)), (.int .u8 (.ofNat 0)), (.int .u8 (.ofNat 0)), (.int .u8 (.ofNat 0)), (.int .u8 (.ofNat 0)), (.int .u8 (.ofNat 0)), (.int .u8 (.ofNat 0)), (.int .u8 (.ofNat 0)), (.int .u8 (.ofNat 0)), (.int .u8 (.ofNat 0)), (.int .u8 (.ofNat 0)), (.int .u8 (.ofNat 0)), (.int .u8 (.ofNat 0)), (.int .u8 (.ofNat 0)), (.int .u8 (.ofNat 0)), (.int .u8 (.ofNat 0)), (.int .u8 (.ofNat 0)), (.int .u8 (.ofNat 0)), (.int .u8 (.ofNat 0)), (.int .u8 (.ofNat 0)), (.int .u8 (.ofNat 0)), (.int .u8 (.ofNat 0)), (.int .u8 (.ofNat 0)), (.int .u8 (.ofNat 0)), (.int .u8 (.ofNat 0)), (.int .u8 (.ofNat 0)), (.int .u8 (.ofNat 0)), (.int .u8 (.ofNat 0)), (.int .u8 (.ofNat 0)), (.int .u8 (.ofNat 0)), (.int .u8 (.ofNat 0)), (.int .u8 (.ofNat 0)), (.int .u8 (.ofNat 0)), (.int .u8 (.ofNat 0)), (.int .u8 (.ofNat 0)), (.int .u8 (.ofNat 0)), (.int .u8 (.ofNat 0)), (.int .u8 (.ofNat 0)), (.int .u8 (.ofNat 0)), (.int .u8 (.ofNat 0)), (.int .u8 (.ofNat 0)), (.int .u8 (.ofNat 0)), (.int .u8 (.ofNat 0)), (.int .u8 (.ofNat 0)), (.int .u8 (.ofNat 0)), (.int .u8 (.ofNat 0)), (.int .u8 (.ofNat 0)), (.int .u8 (.ofNat 0)), (.int .u8 (.ofNat 0)), (.int .u8 (.ofNat 0)), (.int .u8 (.ofNat 0)), (.int .u8 (.ofNat 0)), (.int .u8 (.ofNat 0)), (.int .u8 (.ofNat 0)), (.int .u8 (.ofNat 0)), (.int .u8 (.ofNat 0)), (.int .u8 (.ofNat 0)), (.int .u8 (.ofNat 0)), (.int .u8 (.ofNat 0)), (.int .u8 (.ofNat 0)), (.int .u8 (.ofNat 0)), (.int .u8 (.ofNat 0)), (.int .u8 (.ofNat 0)), (.int .u8 (.ofNat 0)), (.int .u8 (.ofNat 0)), (.int .u8 (.ofNat 0)), (.int .u8 (.ofNat 0)), (.int .u8 (.ofNat 0)), (.int .u8 (.ofNat 0)), (.int .u8 (.ofNat 0)), (.int .u8 (.ofNat 0)), (.int .u8 (.ofNat 0)), (.int .u8 (.ofNat 0)), (.int .u8 (.ofNat 0)), (.int .u8 (.ofNat 0)), (.int .u8 (.ofNat 0)), (.int .u8 (.ofNat 0)), (.int .u8 (.ofNat 0)), (.int .u8 (.ofNat 0)), (.int .u8 (.ofNat 0)), (.int .u8 (.ofNat 0)), (.int .u8 (.ofNat 0)), (.int .u8 (.ofNat 0)), (.int .u8 (.ofNat 0)), (.int .u8 (.ofNat 0)), (.int .u8 (.ofNat 0)), (.int .u8 (.ofNat 0)), (.int .u8 (.ofNat 0)), (.int .u8 (.ofNat 0)), (.int .u8 (.ofNat 0)), (.int .u8 (.ofNat 0)), (.int .u8 (.ofNat 0)), (.int .u8 (.ofNat 0)), (.int .u8 (.ofNat 0)), (.int .u8 (.ofNat 0)), (.int .u8 (.ofNat 0)), (.int .u8 (.ofNat 0)), (.int .u8 (.ofNat 0)), (.int .u8 (.ofNat 0)), (.int .u8 (.ofNat 0)), (.int .u8 (.ofNat 0)), (.int .u8 (.ofNat 0)), (.int .u8 (.ofNat 0)), (.int .u8 (.ofNat 0)), (.int .u8 (.ofNat 0)), (.int .u8 (.ofNat 0)), (.int .u8 (.ofNat 0)), (.int .u8 (.ofNat 0)), (.int .u8 (.ofNat 0)), (.int .u8 (.ofNat 0)), (.int .u8 (.ofNat 0)), (.int .u8 (.ofNat 0)), (.int .u8 (.ofNat 0)), (.int .u8 (.ofNat 0)), (.int .u8 (.ofNat 0)), (.int .u8 (.ofNat 0)), (.int .u8 (.ofNat 0)), (.int .u8 (.ofNat 0)), (.int .u8 (.ofNat 0)), (.int .u8 (.ofNat 0)), (.int .u8 (.ofNat 0)), (.int .u8 (.ofNat 0)), (.int .u8 (.ofNat 0)), (.int .u8 (.ofNat 0)), (.int .u8 (.ofNat 0)), (.int .u8 (.ofNat 0)), (.int .u8 (.ofNat 0)), (.int .u8 (.ofNat 0)), (.int .u8 (.ofNat 0)), (.int .u8 (.ofNat 0)), (.int .u8 (.ofNat 0)), (.int .u8 (.ofNat 0)), (.int .u8 (.ofNat 0)), (.int .u8 (.ofNat 0)), (.int .u8 (.ofNat 0)), (.int .u8 (.ofNat 0)), (.int .u8 (.ofNat 0)), (.int .u8 (.ofNat 0)), (.int .u8 (.ofNat 0)), (.int .u8 (.ofNat 0)), (.int .u8 (.ofNat 0)), (.int .u8 (.ofNat 0)), (.int .u8 (.ofNat 0)), (.int .u8 (.ofNat 0)), (.int .u8 (.ofNat 0)), (.int .u8 (.ofNat 0)), (.int .u8 (.ofNat 0)), (.int .u8 (.ofNat 0)), (.int .u8 (.ofNat 0)), (.int .u8 (.ofNat 0)), (.int .u8 (.ofNat 0)), (.int .u8 (.ofNat 0)), (.int .u8 (.ofNat 0)), (.int .u8 (.ofNat 0)), (.int .u8 (.ofNat 0)), (.int .u8 (.ofNat 0)), (.int .u8 (.ofNat 0)), (.int .u8 (.ofNat 0)), (.int .u8 (.ofNat 0)), (.int .u8 (.ofNat 0)), (.int .u8 (.ofNat 0)), (.int .u8 (.ofNat 0)), (.int .u8 (.ofNat 0)), (.int .u8 (.ofNat 0)), (.int .u8 (.ofNat 0)), (.int .u8 (.ofNat 0)), (.int .u8 (.ofNat 0)), (.int .u8 (.ofNat 0)), (.int .u8 (.ofNat 0)), (.int .u8 (.ofNat 0)), (.int .u8 (.ofNat 0)), (.int .u8 (.ofNat 0)), (.int .u8 (.ofNat 0)), (.int .u8 (.ofNat 0)), (.int .u8 (.ofNat 0)), (.int .u8 (.ofNat 0)), (.int .u8 (.ofNat 0)), (.int .u8 (.ofNat 0)), (.int .u8 (.ofNat 0)), (.int .u8 (.ofNat 0)), (.int .u8 (.ofNat 0)), (.int .u8 (.ofNat 0)), (.int .u8 (.ofNat 0)), (.int .u8 (.ofNat 0)), (.int .u8 (.ofNat 0)), (.int .u8 (.ofNat 0)), (.int .u8 (.ofNat 0)), (.int .u8 (.ofNat 0)), (.int .u8 (.ofNat 0)), (.int .u8 (.ofNat 0)), (.int .u8 (.ofNat 0)), (.int .u8 (.ofNat 0)), (.int .u8 (.ofNat 0)), (.int .u8 (.ofNat 0)), (.int .u8 (.ofNat 0)), (.int .u8 (.ofNat 0)), (.int .u8 (.ofNat 0)), (.int .u8 (.ofNat 0)), (.int .u8 (.ofNat 0)), (.int .u8 (.ofNat 0)), (.int .u8 (.ofNat 0)), (.int .u8 (.ofNat 0)), (.int .u8 (.ofNat 0)), (.int .u8 (.ofNat 0)), (.int .u8 (.ofNat 0)), (.int .u8 (.ofNat 0)), (.int .u8 (.ofNat 0)), (.int .u8 (.ofNat 0)), (.int .u8 (.ofNat 0)), (.int .u8 (.ofNat 0)), (.int .u8 (.ofNat 0)), (.int .u8 (.ofNat 0)), (.int .u8 (.ofNat 0)), (.int .u8 (.ofNat 0)), (.int .u8 (.ofNat 0)), (.int .u8 (.ofNat 0)), (.int .u8 (.ofNat 0)), (.int .u8 (.ofNat 0)), (.int .u8 (.ofNat 0)), (.int .u8 (.ofNat 0)), (.int .u8 (.ofNat 0)), (.int .u8 (.ofNat 0)), (.int .u8 (.ofNat 0)), (.int .u8 (.ofNat 0)), (.int .u8 (.ofNat 0)), (.int .u8 (.ofNat 0)), (.int .u8 (.ofNat 0)), (.int .u8 (.ofNat 0)), (.int .u8 (.ofNat 0)), (.int .u8 (.ofNat 0)), (.int .u8 (.ofNat 0)), (.int .u8 (.ofNat 0)), (.int .u8 (.ofNat 0)), (.int .u8 (.ofNat 0)), (.int .u8 (.ofNat 0)), (.int .u8 (.ofNat 0)), (.int .u8 (.ofNat 0)), (.int .u8 (.ofNat 0)), (.int .u8 (.ofNat 0)), (.int .u8 (.ofNat 0)), (.int .u8 (.ofNat 0)), (.int .u8 (.ofNat 0)), (.int .u8 (.ofNat 0)), (.int .u8 (.ofNat 0)), (.int .u8 (.ofNat 0)), (.int .u8 (.ofNat 0)), (.int .u8 (.ofNat 0)), (.int .u8 (.ofNat 0)), (kI 0), (kI 0), (.bool false), (.bool false)])
 slC (vS t0) none (some (vI t3)) fun vt127 => asS vt127 fun t127 =>
 cal D 130 [t23, (vS t127)] h7 fun t128 h8 =>
 asB t128 fun t128a =>
 let t129 := !t128a
 br t129 (
 let t131 := (AV.iface 121 (vI (Int.ofNat 2)))
 some (.ret (.tup [((.flt .f64 0) : AV), (vI t3), t131]) h8, .no)) (
 cal D 131 [t23, ((.ptr p7 0) : AV)] h8 fun t133 h9 =>
 extC t133 0 fun vt134 => asI .u64 vt134 fun t134 =>
 extC t133 1 fun vt135 => asB vt135 fun t135 =>
 obQ (evP (.xt .ffrom [(.c (AV.int .u64 t134))]) .leaf) fun t137 =>
 br t135 (
 let t139 := (AV.iface 121 (vI (Int.ofNat 1)))
 S115_1 D m t137 t3 t139 h9) (
 S115_1 D m t137 t3 t4 h9))
def e115_2 (k t0 t3 t4 t8 t9 t11 t16 h) := kN k [(p0, (vS t0)), (p3, (vI t3)), (p4, t4), (p8, (AV.int .u64 t8)), (p9, (vI t9)), (p11, (vB t11)), (p16, (AV.int .u64 t16))] h
def S115_2 (D : CallD) (m : Nat) (t0 : LN) (t3 : Int) (t4 : AV) (t8 t9 : Int) (t11 : Bool) (t16 : Int) (h : HP) : Res2 :=
 cal D 135 [(AV.int .u64 t8), (vI t9), (AV.int .u64 t16)] h fun t103 h11 =>
 extC t103 0 fun t104 =>
 extC t103 1 fun t105 =>
 let t107 := !t11
 br t107 (
 some (.ret (.tup [t104, (vI t3), t105]) h11, .no)) (
 let t113 := wrQ .u64 (addQ t8 (Int.ofNat 1))
 cal D 135 [(AV.int .u64 t113), (vI t9), (AV.int .u64 t16)] h11 fun t116 h12 =>
 extC t116 0 fun t117 =>
 extC t116 1 fun t118 =>
 binC .eql t104 t117 fun vt121 => asB vt121 fun t121 =>
 br t121 (
 some (.ret (.tup [t104, (vI t3), t105]) h12, .no)) (
 S115_0 D m t0 t3 t4 h12))
def e115_3 (k t0 h) := kN k [(p0, (vS t0))] h
def S115_3 (D : CallD) (m : Nat) (t0 : LN) (h : HP) : Res2 :=
 cal D 123 [(vS t0)] h fun t28 h4 =>
 extC t28 0 fun t29 =>
 extC t28 1 fun vt30 => asI .i64 vt30 fun t30 =>
 extC t28 2 fun vt31 => asB vt31 fun t31 =>
 br t31 (
 some (.ret (.tup [t29, (vI t30), (.nili : AV)]) h4, .no)) (
 cal D 124 [(vS t0)] h4 fun t37 h5 =>
 extC t37 0 fun vt38 => asI .u64 vt38 fun t38 =>
 extC t37 1 fun vt39 => asI .i64 vt39 fun t39 =>
 extC t37 2 fun vt40 => asB vt40 fun t40 =>
 extC t37 3 fun vt41 => asB vt41 fun t41 =>
 extC t37 4 fun vt42 => asB vt42 fun t42 =>
 extC t37 5 fun vt43 => asI .i64 vt43 fun t43 =>
 extC t37 6 fun vt44 => asB vt44 fun t44 =>
 let t46 := !t44
 br t46 (
 let t48 := (AV.iface 121 (vI (Int.ofNat 2)))
 some (.ret (.tup [((.flt .f64 0) : AV), (vI t43), t48]) h5, .no)) (
 br t42 (
 slC (vS t0) none (some (vI t43)) fun vt53 => asS vt53 fun t53 =>
 cal D 125 [(vS t53), ((.ptr p7 0) : AV), (AV.int .u64 t38), (vI t39), (vB t40), (vB t41)] h5 fun t58 h6 =>
 extC t58 0 fun t59 =>
 extC t58 1 fun t60 =>
 some (.ret (.tup [t59, (vI t43), t60]) h6, .no)) (
 ldB ((.ptr p6 0) : AV) h5 fun t64 =>
 br t64 (
 cal D 132 [(vB t40)] h5 fun t66 h10 =>
 asI .u64 t66 fun t66a =>
 let t67 := shlF .u64 t66a 63
 let t69 := eqQ t38 (Int.ofNat 0)
 br t69 (
 obI .u64 (intBin .or .u64 t67 (Int.ofNat 0)) fun t71 =>
 obQ (evP (.xt .ffrom [(.c (AV.int .u64 t71))]) .leaf) fun t72 =>
 some (.ret (.tup [t72, (vI t43), (.nili : AV)]) h10, .no)) (
 let t75 := ltQ (Int.ofNat 310) t39
 br t75 (
 obI .u64 (intBin .or .u64 t67 (Int.ofNat 9218868437227405312)) fun t77 =>
 obQ (evP (.xt .ffrom [(.c (AV.int .u64 t77))]) .leaf) fun t78 =>
 let t80 := (AV.iface 121 (vI (Int.ofNat 1)))
 some (.ret (.tup [t78, (vI t43), t80]) h10, .no)) (
 let t82 := ltQ t39 (Int.negSucc 344)
 br t82 (
 obI .u64 (intBin .or .u64 t67 (Int.ofNat 0)) fun t84 =>
 obQ (evP (.xt .ffrom [(.c (AV.int .u64 t84))]) .leaf) fun t85 =>
 some (.ret (.tup [t85, (vI t43), (.nili : AV)]) h10, .no)) (
 let t88 := !t41
 br t88 (
 cal D 134 [(AV.int .u64 t38), (vI t39), (vB t40)] h10 fun t93 h13 =>
 extC t93 0 fun t94 =>
 extC t93 1 fun vt95 => asB vt95 fun t95 =>
 br t95 (
 some (.ret (.tup [t94, (vI t43), (.nili : AV)]) h13, .no)) (
 S115_2 D m t0 t43 (.nili : AV) t38 t39 t41 t67 h13)) (
 S115_2 D m t0 t43 (.nili : AV) t38 t39 t41 t67 h10))))) (
 S115_0 D m t0 t43 (.nili : AV) h5))))
def S115 : SFn := fun D m args h u => nou u <| popS args fun t0 args => endA args (S115_3 D m t0 h)
theorem T115_1 (hE : FX x115 D m E) : S115_1 D m = e115_1 (E c115_1 []) := by unfold S115_1; rw [hE c115_1]; kernel_rfl
theorem T115_0 (hE : FX x115 D m E) : S115_0 D m = e115_0 (E c115_0 []) := by unfold S115_0; rw [T115_1 hE, hE c115_0]; kernel_rfl
theorem T115_2 (hE : FX x115 D m E) : S115_2 D m = e115_2 (E c115_2 [.sj v115_0 c115_0]) := by unfold S115_2; rw [T115_0 hE, hE c115_2]; kernel_rfl
theorem T115_3 (hE : FX x115 D m E) : S115_3 D m = e115_3 (E c115_e []) := by unfold S115_3; rw [T115_2 hE, T115_0 hE, hE c115_e]; kernel_rfl
theorem X115 : XTie S115 x115 := X_of fun D m E hE args h u => by unfold S115; rw [T115_3 hE]; kernel_rfl
/- 123 -/
def v123_0 : List Pos := []
def c123_0 : XC := (.sO [.mv p2 (.c (.flt .f64 0)) .v, .mv p3 (ci 0) tI, .mv p4 (cb false) .b] (.s .ret))
def v123_1 : List Pos := [p0]
def c123_1 : XC := (.seq (.seq (.oX [.mv p46 q0 .s, .cl p47 141 [q46, (.c (.str [110, 97, 110]))] tI, .bn p48 .eql q47 (ci 3) .b]) (.cond q48 (.seq (.oX [.cl p49 143 [] .v, .mv p2 q49 .v, .mv p3 (ci 3) tI, .mv p4 (cb true) .b]) .ret) .skip)) (.s (.exit 0)))
def v123_3 : List Pos := []
def c123_3 : XC := (.s (.exit 0))
def v123_4 : List Pos := [p5, p6, p7]
def c123_4 : XC := (.sO [.mv p35 q7 tI, .bn p36 .eql q35 (ci 3) .b, .mv p37 q36 .b, .ge p37 (XL.of [.G p37 false p38 (.mov q7) tI, .G p37 false p39 (.bin .eql q38 (ci 8)) .b, .P p40 (.pick q37 (cb true) q39) .b]) p40 .b] (.cond q40 (.sO [.mv p41 q5 tI, .cl p42 142 [q41] .v, .mv p43 q6 tI, .mv p44 q7 tI, .bn p45 .add q43 q44 tI, .mv p2 q42 .v, .mv p3 q45 tI, .mv p4 (cb true) .b] (.s .ret)) (.s .skip)))
def v123_2 : List Pos := [p0, p5, p6]
def c123_2 : XC := (.sj v123_3 (.sO [.mv p27 q0 .s, .cl p28 141 [q27, (.c (.str [105, 110, 102, 105, 110, 105, 116, 121]))] tI, .mv p7 q28 tI] (.sj v123_4 (.sO [.mv p29 q7 tI, .bn p30 .lss (ci 3) q29 .b, .mv p31 q30 .b, .ge p31 (XL.of [.G p31 true p32 (.mov q7) tI, .G p31 true p33 (.bin .lss q32 (ci 8)) .b, .P p34 (.pick q31 q33 (cb false)) .b]) p34 .b] (.cond q34 (.s (.oX [.mv p7 (ci 3) tI])) (.s .skip))) c123_4)) c123_3)
def v123_6 : List Pos := [p0, p5]
def c123_6 : XC := (.sO [.mv p6 (ci 1) tI] (.s (.oX [.mv p25 q0 .s, .P p26 (.slice .str q25 (some (ci 1)) none none) .s, .mv p0 q26 .s])))
def v123_5 : List Pos := [p0, p5]
def c123_5 : XC := (.sj v123_6 (.sO [.mv p22 q0 .s, .P p23 (.idxs q22 (ci 0)) tC, .bn p24 .eql q23 (.c (.int .u8 (.ofNat 45))) .b] (.cond q24 (.s (.oX [.mv p5 (.c (.int .i64 (.negSucc 0))) tI])) (.s .skip))) c123_6)
def v123_7 : List Pos := []
def c123_7 : XC := (.s (.exit 0))
def v123_10 : List Pos := [p0, p19]
def c123_10 : XC := (.cond q19 (.s (.exit 3)) (.s .skip))
def v123_9 : List Pos := [p0, p12]
def c123_9 : XC := (.sj v123_10 (.sO [.bn p20 .eql q12 (.c (.int .u8 (.ofNat 110))) .b, .mv p19 q20 .b] (.cond q19 (.s .skip) (.s (.oX [.bn p21 .eql q12 (.c (.int .u8 (.ofNat 78))) .b, .mv p19 q21 .b])))) c123_10)
def v123_11 : List Pos := [p0, p5, p6, p12, p16]
def c123_11 : XC := (.cond q16 (.s (.exit 2)) (.s .skip))
def v123_8 : List Pos := [p0, p5, p6, p12]
def c123_8 : XC := (.sj v123_9 (.sj v123_11 (.sO [.bn p17 .eql q12 (.c (.int .u8 (.ofNat 105))) .b, .mv p16 q17 .b] (.cond q16 (.s .skip) (.s (.oX [.bn p18 .eql q12 (.c (.int .u8 (.ofNat 73))) .b, .mv p16 q18 .b])))) c123_11) c123_9)
def v123_12 : List Pos := [p0, p5, p6, p12, p13]
def c123_12 : XC := (.cond q13 (.s (.exit 1)) (.s .skip))
def c123_e : XC := (.sO [.mv p2 (.c (.flt .f64 0)) .v, .mv p3 (ci 0) tI, .mv p4 (cb false) .b] (.seq (.seq (.oX [.mv p8 q0 .s, .P p9 (.lens q8) tI, .bn p10 .eql q9 (ci 0) .b]) (.cond q10 (.seq (.oX [.mv p2 (.c (.flt .f64 0)) .v, .mv p3 (ci 0) tI, .mv p4 (cb false) .b]) .ret) .skip)) (.sO [.mv p5 (ci 1) tI] (.sO [.mv p6 (ci 0) tI] (.sj v123_0 (.sO [.mv p11 q0 .s, .P p12 (.idxs q11 (ci 0)) tC] (.block 0 (.sj v123_1 (.block 3 (.sj v123_2 (.block 2 (.sj v123_5 (.block 1 (.sj v123_7 (.sj v123_8 (.sj v123_12 (.sO [.bn p14 .eql q12 (.c (.int .u8 (.ofNat 43))) .b, .mv p13 q14 .b] (.cond q13 (.s .skip) (.s (.oX [.bn p15 .eql q12 (.c (.int .u8 (.ofNat 45))) .b, .mv p13 q15 .b])))) c123_12) c123_8) c123_7)) c123_5)) c123_2)) c123_1))) c123_0)))))
def x123 : XFn := ⟨[.s], false, [(.tmp p2), (.tmp p3), (.tmp p4)], c123_e⟩
def e123_0 (k h) := kN k [] h
def S123_0 (D : CallD) (m : Nat) (h : HP) : Res2 :=
 some (.ret (.tup [((.flt .f64 0) : AV), (vI (Int.ofNat 0)), (vB false)]) h, .no)
def e123_1 (k t0 h) := kN k [(p0, (vS t0))] h
def S123_1 (D : CallD) (m : Nat) (t0 : LN) (h : HP) : Res2 :=
 cal D 141 [(vS t0), (vS ([110, 97, 110] : LN))] h fun t47 h14 =>
 asI .i64 t47 fun t47a =>
 let t48 := eqQ t47a (Int.ofNat 3)
 br t48 (
 cal D 143 [] h14 fun t49 h15 =>
 some (.ret (.tup [t49, (vI (Int.ofNat 3)), (vB true)]) h15, .no)) (
 S123_0 D m h14)
def e123_3 (k h) := kN k [] h
def S123_3 (D : CallD) (m : Nat) (h : HP) : Res2 :=
 S123_0 D m h
def e123_4 (k t5 t6 t7 h) := kN k [(p5, (vI t5)), (p6, (vI t6)), (p7, (vI t7))] h
def S123_4 (D : CallD) (m : Nat) (t5 t6 t7 : Int) (h : HP) : Res2 :=
 let t36 := eqQ t7 (Int.ofNat 3)
 obB (brV t36 (
 some (vB true)) (
 let t39 := eqQ t7 (Int.ofNat 8)
 some (vB t39))) fun t40 =>
 br t40 (
 cal D 142 [(vI t5)] h fun t42 h17 =>
 let t45 := wrQ .i64 (addQ t6 t7)
 some (.ret (.tup [t42, (vI t45), (vB true)]) h17, .no)) (
 S123_3 D m h)
def e123_2 (k t0 t5 t6 h) := kN k [(p0, (vS t0)), (p5, (vI t5)), (p6, (vI t6))] h
def S123_2 (D : CallD) (m : Nat) (t0 : LN) (t5 t6 : Int) (h : HP) : Res2 :=
 cal D 141 [(vS t0), (vS ([105, 110, 102, 105, 110, 105, 116, 121] : LN))] h fun t28 h16 =>
 asI .i64 t28 fun t28a =>
 let t30 := ltQ (Int.ofNat 3) t28a
 obB (brV t30 (
 let t33 := ltQ t28a (Int.ofNat 8)
 some (vB t33)) (
 some (vB false))) fun t34 =>
 br t34 (
 S123_4 D m t5 t6 (Int.ofNat 3) h16) (
 S123_4 D m t5 t6 t28a h16)
def e123_6 (k t0 t5 h) := kN k [(p0, (vS t0)), (p5, (vI t5))] h
def S123_6 (D : CallD) (m : Nat) (t0 : LN) (t5 : Int) (h : HP) : Res2 :=
 slC (vS t0) (some (vI (Int.ofNat 1))) none fun vt26 => asS vt26 fun t26 =>
 S123_2 D m t26 t5 (Int.ofNat 1) h
def e123_5 (k t0 t5 h) := kN k [(p0, (vS t0)), (p5, (vI t5))] h
def S123_5 (D : CallD) (m : Nat) (t0 : LN) (t5 : Int) (h : HP) : Res2 :=
 ixC (vS t0) (vI (Int.ofNat 0)) fun vt23 => asI .u8 vt23 fun t23 =>
 let t24 := eqQ t23 (Int.ofNat 45)
 br t24 (
 S123_6 D m t0 (Int.negSucc 0) h) (
 S123_6 D m t0 t5 h)
def e123_7 (k h) := kN k [] h
def S123_7 (D : CallD) (m : Nat) (h : HP) : Res2 :=
 S123_0 D m h
def e123_10 (k t0 t19 h) := kN k [(p0, (vS t0)), (p19, (vB t19))] h
def S123_10 (D : CallD) (m : Nat) (t0 : LN) (t19 : Bool) (h : HP) : Res2 :=
 br t19 (
 S123_1 D m t0 h) (
 S123_7 D m h)
def e123_9 (k t0 t12 h) := kN k [(p0, (vS t0)), (p12, (vC t12))] h
def S123_9 (D : CallD) (m : Nat) (t0 : LN) (t12 : Int) (h : HP) : Res2 :=
 let t20 := eqQ t12 (Int.ofNat 110)
 br t20 (
 S123_10 D m t0 t20 h) (
 let t21 := eqQ t12 (Int.ofNat 78)
 S123_10 D m t0 t21 h)
def e123_11 (k t0 t5 t6 t12 t16 h) := kN k [(p0, (vS t0)), (p5, (vI t5)), (p6, (vI t6)), (p12, (vC t12)), (p16, (vB t16))] h
def S123_11 (D : CallD) (m : Nat) (t0 : LN) (t5 t6 t12 : Int) (t16 : Bool) (h : HP) : Res2 :=
 br t16 (
 S123_2 D m t0 t5 t6 h) (
 S123_9 D m t0 t12 h)
def e123_8 (k t0 t5 t6 t12 h) := kN k [(p0, (vS t0)), (p5, (vI t5)), (p6, (vI t6)), (p12, (vC t12))] h
def S123_8 (D : CallD) (m : Nat) (t0 : LN) (t5 t6 t12 : Int) (h : HP) : Res2 :=
 let t17 := eqQ t12 (Int.ofNat 105)
 br t17 (
 S123_11 D m t0 t5 t6 t12 t17 h) (
 let t18 := eqQ t12 (Int.ofNat 73)
 S123_11 D m t0 t5 t6 t12 t18 h)
def e123_12 (k t0 t5 t6 t12 t13 h) := kN k [(p0, (vS t0)), (p5, (vI t5)), (p6, (vI t6)), (p12, (vC t12)), (p13, (vB t13))] h
def S123_12 (D : CallD) (m : Nat) (t0 : LN) (t5 t6 t12 : Int) (t13 : Bool) (h : HP) : Res2 :=
 br t13 (
 S123_5 D m t0 t5 h) (
 S123_8 D m t0 t5 t6 t12 h)
def e123_13 (k t0 h) := kN k [(p0, (vS t0))] h
def S123_13 (D : CallD) (m : Nat) (t0 : LN) (h : HP) : Res2 :=
 let t9 := Int.ofNat (lenL t0)
 let t10 := eqQ t9 (Int.ofNat 0)
 br t10 (
 some (.ret (.tup [((.flt .f64 0) : AV), (vI (Int.ofNat 0)), (vB false)]) h, .no)) (
 ixC (vS t0) (vI (Int.ofNat 0)) fun vt12 => asI .u8 vt12 fun t12 =>
 let t14 := eqQ t12 (Int.ofNat 43)
 br t14 (
 S123_12 D m t0 (Int.ofNat 1) (Int.ofNat 0) t12 t14 h) (
 let t15 := eqQ t12 (Int.ofNat 45)
 S123_12 D m t0 (Int.ofNat 1) (Int.ofNat 0) t12 t15 h))
def S123 : SFn := fun D m args h u => nou u <| popS args fun t0 args => endA args (S123_13 D m t0 h)
theorem T123_0 (hE : FX x123 D m E) : S123_0 D m = e123_0 (E c123_0 []) := by unfold S123_0; rw [hE c123_0]; kernel_rfl
theorem T123_1 (hE : FX x123 D m E) : S123_1 D m = e123_1 (E c123_1 [.blk 0, .sj v123_0 c123_0]) := by unfold S123_1; rw [T123_0 hE, hE c123_1]; kernel_rfl
theorem T123_3 (hE : FX x123 D m E) : S123_3 D m = e123_3 (E c123_3 [.blk 3, .sj v123_1 c123_1, .blk 0, .sj v123_0 c123_0]) := by unfold S123_3; rw [T123_0 hE, hE c123_3]; kernel_rfl
theorem T123_4 (hE : FX x123 D m E) : S123_4 D m = e123_4 (E c123_4 [.sj v123_3 c123_3, .blk 3, .sj v123_1 c123_1, .blk 0, .sj v123_0 c123_0]) := by unfold S123_4; rw [T123_3 hE, hE c123_4]; kernel_rfl
theorem T123_2 (hE : FX x123 D m E) : S123_2 D m = e123_2 (E c123_2 [.blk 3, .sj v123_1 c123_1, .blk 0, .sj v123_0 c123_0]) := by unfold S123_2; rw [T123_4 hE, hE c123_2]; kernel_rfl
theorem T123_6 (hE : FX x123 D m E) : S123_6 D m = e123_6 (E c123_6 [.blk 2, .sj v123_2 c123_2, .blk 3, .sj v123_1 c123_1, .blk 0, .sj v123_0 c123_0]) := by unfold S123_6; rw [T123_2 hE, hE c123_6]; kernel_rfl
theorem T123_5 (hE : FX x123 D m E) : S123_5 D m = e123_5 (E c123_5 [.blk 2, .sj v123_2 c123_2, .blk 3, .sj v123_1 c123_1, .blk 0, .sj v123_0 c123_0]) := by unfold S123_5; rw [T123_6 hE, hE c123_5]; kernel_rfl
theorem T123_7 (hE : FX x123 D m E) : S123_7 D m = e123_7 (E c123_7 [.blk 1, .sj v123_5 c123_5, .blk 2, .sj v123_2 c123_2, .blk 3, .sj v123_1 c123_1, .blk 0, .sj v123_0 c123_0]) := by unfold S123_7; rw [T123_0 hE, hE c123_7]; kernel_rfl
theorem T123_10 (hE : FX x123 D m E) : S123_10 D m = e123_10 (E c123_10 [.sj v123_7 c123_7, .blk 1, .sj v123_5 c123_5, .blk 2, .sj v123_2 c123_2, .blk 3, .sj v123_1 c123_1, .blk 0, .sj v123_0 c123_0]) := by unfold S123_10; rw [T123_1 hE, T123_7 hE, hE c123_10]; kernel_rfl
theorem T123_9 (hE : FX x123 D m E) : S123_9 D m = e123_9 (E c123_9 [.sj v123_7 c123_7, .blk 1, .sj v123_5 c123_5, .blk 2, .sj v123_2 c123_2, .blk 3, .sj v123_1 c123_1, .blk 0, .sj v123_0 c123_0]) := by unfold S123_9; rw [T123_10 hE, hE c123_9]; kernel_rfl
theorem T123_11 (hE : FX x123 D m E) : S123_11 D m = e123_11 (E c123_11 [.sj v123_9 c123_9, .sj v123_7 c123_7, .blk 1, .sj v123_5 c123_5, .blk 2, .sj v123_2 c123_2, .blk 3, .sj v123_1 c123_1, .blk 0, .sj v123_0 c123_0]) := by unfold S123_11; rw [T123_2 hE, T123_9 hE, hE c123_11]; kernel_rfl
theorem T123_8 (hE : FX x123 D m E) : S123_8 D m = e123_8 (E c123_8 [.sj v123_7 c123_7, .blk 1, .sj v123_5 c123_5, .blk 2, .sj v123_2 c123_2, .blk 3, .sj v123_1 c123_1, .blk 0, .sj v123_0 c123_0]) := by unfold S123_8; rw [T123_11 hE, hE c123_8]; kernel_rfl
theorem T123_12 (hE : FX x123 D m E) : S123_12 D m = e123_12 (E c123_12 [.sj v123_8 c123_8, .sj v123_7 c123_7, .blk 1, .sj v123_5 c123_5, .blk 2, .sj v123_2 c123_2, .blk 3, .sj v123_1 c123_1, .blk 0, .sj v123_0 c123_0]) := by unfold S123_12; rw [T123_5 hE, T123_8 hE, hE c123_12]; kernel_rfl
theorem T123_13 (hE : FX x123 D m E) : S123_13 D m = e123_13 (E c123_e []) := by unfold S123_13; rw [T123_12 hE, hE c123_e]; kernel_rfl
theorem X123 : XTie S123 x123 := X_of fun D m E hE args h u => by unfold S123; rw [T123_13 hE]; kernel_rfl
end
end Go.Proofs.YtbfdhoggchedjaaGreatDoor.Sx
