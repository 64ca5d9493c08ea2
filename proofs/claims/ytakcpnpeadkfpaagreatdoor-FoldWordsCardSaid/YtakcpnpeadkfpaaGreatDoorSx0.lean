/- Functions, printed by a program of ours: their code, what they do, and that it is so. -/
import Derived.Test.YtakcpnpeadkfpaaGreatDoorSp
set_option maxRecDepth 8000
set_option linter.unusedVariables false
namespace Go.Proofs.YtakcpnpeadkfpaaGreatDoor.Sx
open Go Go.Proofs.YtakcpnpeadkfpaaGreatDoor.Ev
set_option linter.unusedSectionVars false
noncomputable section
variable [Rho]
variable {D : CallD} {m : Nat} {E : XE}
/- 3 -/
def c3_e : XC := (.sO [.al p4 (.box q1), .al p5 (.box q2), .mv p6 (cb false) .b] (.seq (.seq (.oX [.cl p15 6 [] .b, .P p16 (.un .not q15) .b, .mv p17 q16 .b, .ge p17 (XL.of [.G p17 false p18 (.mov q0) .s, .G p17 false p19 (.lens q18) tI, .G p17 false p20 (.bin .gtr q19 (ci 20)) .b, .P p21 (.pick q17 (cb true) q20) .b]) p21 .b]) (.cond q21 (.seq (.oX [.cl p22 6 [] .b, .mv p6 q22 .b]) .ret) .skip)) (.sO [.mv p24 q0 .s, .L p25 (.cells 5 q4) .v, .L p26 (.cells 5 q5) .v, .cl p27 7 [q24, q25, q26] .v, .mv p23 q27 .v, .P p28 (.ext q23 0) .v, .P p29 (.ext q23 1) tI, .al p7 (.new Zc), .ss 5 q7 q28, .mv p8 q29 tI] (.sO [.mv p31 q0 .s, .L p32 (.cells 5 q4) .v, .L p33 (.cells 5 q5) .v, .cl p34 8 [q31, q32, q33] .v, .mv p30 q34 .v, .P p35 (.ext q30 0) .v, .P p36 (.ext q30 1) .b, .al p9 (.new Zc), .ss 5 q9 q35, .mv p10 q36 .b] (.sO [.mv p38 q0 .s, .L p39 (.cells 5 q4) .v, .cl p40 9 [q38, q39] .v, .mv p37 q40 .v, .P p41 (.ext q37 0) .v, .P p42 (.ext q37 1) tI, .al p11 (.new Zc), .ss 5 q11 q41, .mv p12 q42 tI] (.sO [.mv p44 q0 .s, .L p45 (.cells 5 q4) .v, .cl p46 10 [q44, q45] .v, .mv p43 q46 .v, .P p47 (.ext q43 0) .v, .P p48 (.ext q43 1) .b, .al p13 (.new Zc), .ss 5 q13 q47, .mv p14 q48 .b] (.sO [.L p49 (.cells 5 q7) .v, .L p50 (.cells 5 q9) .v, .P p51 (.eqs 5 [(0, .int), (1, .int), (2, .int), (3, .str), (4, .int)] false q49 q50) .b, .mv p52 q51 .b, .ge p52 (XL.of [.G p52 true p53 (.mov q8) tI, .G p52 true p54 (.bin .eql q53 (ci 0)) .b, .G p52 true p55 (.mov q10) .b, .G p52 true p56 (.eqb false q54 q55) .b, .P p57 (.pick q52 q56 (cb false)) .b]) p57 .b, .mv p58 q57 .b, .ge p58 (XL.of [.o ⟨(some p59), (.l (.cells 5 q11)), (some (p58, true)), []⟩ .v, .o ⟨(some p60), (.l (.cells 5 q13)), (some (p58, true)), []⟩ .v, .G p58 true p61 (.eqs 5 [(0, .int), (1, .int), (2, .int), (3, .str), (4, .int)] false q59 q60) .b, .P p62 (.pick q58 q61 (cb false)) .b]) p62 .b, .mv p63 q62 .b, .ge p63 (XL.of [.G p63 true p64 (.mov q12) tI, .G p63 true p65 (.bin .eql q64 (ci 0)) .b, .G p63 true p66 (.mov q14) .b, .G p63 true p67 (.eqb false q65 q66) .b, .P p68 (.pick q63 q67 (cb false)) .b]) p68 .b, .mv p69 q68 .b, .ge p69 (XL.of [.G p69 true p70 (.mov q10) .b, .G p69 true p71 (.mov q70) .b, .ge p71 (XL.of [.G p71 false p72 (.mov q8) tI, .G p71 false p73 (.bin .eql q72 (ci 15)) .b, .G p69 true p74 (.pick q71 (cb true) q73) .b]) p74 .b, .P p75 (.pick q69 q74 (cb false)) .b]) p75 .b, .mv p76 q75 .b, .ge p76 (XL.of [.G p76 true p77 (.mov q14) .b, .G p76 true p78 (.mov q77) .b, .ge p78 (XL.of [.G p78 false p79 (.mov q12) tI, .G p78 false p80 (.bin .eql q79 (ci 15)) .b, .G p76 true p81 (.pick q78 (cb true) q80) .b]) p81 .b, .P p82 (.pick q76 q81 (cb false)) .b]) p82 .b, .mv p6 q82 .b] (.s .ret))))))))
def x3 : XFn := ⟨[.s, .v, .v], false, [(.tmp p6)], c3_e⟩
def e3_0 (k t0 t1 t2 h) := kN k [(p0, (vS t0)), (p1, t1), (p2, t2)] h
def S3_0 (D : CallD) (m : Nat) (t0 : LN) (t1 t2 : AV) (h : HP) : Res2 :=
 let t4 := AV.ptr (HP.nxQ h) 0
 let h1 := HP.newQ h (.cells true (AV.cells t1))
 let t5 := AV.ptr (HP.nxQ h1) 0
 let h2 := HP.newQ h1 (.cells true (AV.cells t2))
 cal D 6 [] h2 fun t15 h3 =>
 asB t15 fun t15a =>
 let t16 := !t15a
 obB (brV t16 (
 some (vB true)) (
 let t19 := Int.ofNat (lenL t0)
 let t20 := ltQ (Int.ofNat 20) t19
 some (vB t20))) fun t21 =>
 br t21 (
 cal D 6 [] h3 fun t22 h4 =>
 asB t22 fun t22a =>
 some (.ret (vB t22a) h4, .no)) (
 cellsC 5 t4 h3 fun t25 =>
 cellsC 5 t5 h3 fun t26 =>
 cal D 7 [(vS t0), t25, t26] h3 fun t27 h5 =>
 extC t27 0 fun t28 =>
 extC t27 1 fun vt29 => asI .i64 vt29 fun t29 =>
 let t7 := AV.ptr (HP.nxQ h5) 0
 let h6 := HP.newQ h5 (.cells true Zc)
 stsC 5 t7 t28 h6 fun h7 =>
 cellsC 5 t4 h7 fun t32 =>
 cellsC 5 t5 h7 fun t33 =>
 cal D 8 [(vS t0), t32, t33] h7 fun t34 h8 =>
 extC t34 0 fun t35 =>
 extC t34 1 fun vt36 => asB vt36 fun t36 =>
 let t9 := AV.ptr (HP.nxQ h8) 0
 let h9 := HP.newQ h8 (.cells true Zc)
 stsC 5 t9 t35 h9 fun h10 =>
 cellsC 5 t4 h10 fun t39 =>
 cal D 9 [(vS t0), t39] h10 fun t40 h11 =>
 extC t40 0 fun t41 =>
 extC t40 1 fun vt42 => asI .i64 vt42 fun t42 =>
 let t11 := AV.ptr (HP.nxQ h11) 0
 let h12 := HP.newQ h11 (.cells true Zc)
 stsC 5 t11 t41 h12 fun h13 =>
 cellsC 5 t4 h13 fun t45 =>
 cal D 10 [(vS t0), t45] h13 fun t46 h14 =>
 extC t46 0 fun t47 =>
 extC t46 1 fun vt48 => asB vt48 fun t48 =>
 let t13 := AV.ptr (HP.nxQ h14) 0
 let h15 := HP.newQ h14 (.cells true Zc)
 stsC 5 t13 t47 h15 fun h16 =>
 cellsC 5 t7 h16 fun t49 =>
 cellsC 5 t9 h16 fun t50 =>
 obB (evP (.eqs 5 [(0, .int), (1, .int), (2, .int), (3, .str), (4, .int)] false (.c t49) (.c t50)) .leaf) fun t51 =>
 obB (brV t51 (
 let t54 := eqQ t29 (Int.ofNat 0)
 let t56 := ((t54 == t36) != false)
 some (vB t56)) (
 some (vB false))) fun t57 =>
 obB (brV t57 (
 cellsCV 5 t11 h16 fun t59 =>
 cellsCV 5 t13 h16 fun t60 =>
 obBV (evP (.eqs 5 [(0, .int), (1, .int), (2, .int), (3, .str), (4, .int)] false (.c t59) (.c t60)) .leaf) fun t61 =>
 some (vB t61)) (
 some (vB false))) fun t62 =>
 obB (brV t62 (
 let t65 := eqQ t42 (Int.ofNat 0)
 let t67 := ((t65 == t48) != false)
 some (vB t67)) (
 some (vB false))) fun t68 =>
 obB (brV t68 (
 obBV (brV t36 (
 some (vB true)) (
 let t73 := eqQ t29 (Int.ofNat 15)
 some (vB t73))) fun t74 =>
 some (vB t74)) (
 some (vB false))) fun t75 =>
 obB (brV t75 (
 obBV (brV t48 (
 some (vB true)) (
 let t80 := eqQ t42 (Int.ofNat 15)
 some (vB t80))) fun t81 =>
 some (vB t81)) (
 some (vB false))) fun t82 =>
 some (.ret (vB t82) h16, .no))
def S3 : SFn := fun D m args h u => nou u <| popS args fun t0 args => popV args fun t1 args => popV args fun t2 args => endA args (S3_0 D m t0 t1 t2 h)
theorem T3_0 (hE : FX x3 D m E) : S3_0 D m = e3_0 (E c3_e []) := by unfold S3_0; rw [hE c3_e]; kernel_rfl
theorem X3 : XTie S3 x3 := X_of fun D m E hE args h u => by unfold S3; rw [T3_0 hE]; kernel_rfl
/- 6 -/
def c6_e : XC := (.sO [.mv p0 (cb false) .b] (.sO [.cl p7 14 [(.c (.str [105, 110, 116, 32, 97, 91, 51, 93, 32, 61, 32, 123, 49, 44, 32, 45, 49, 125, 59, 32, 105, 110, 116, 32, 42, 112, 32, 61, 32, 38, 97, 91, 49, 93, 59]))] .v, .mv p6 q7 .v, .P p8 (.ext q6 0) .v, .P p9 (.ext q6 1) tI, .al p1 (.new [.nils]), .ss 1 q1 q8, .mv p2 q9 tI] (.seq (.seq (.oX [.mv p10 q2 tI, .bn p11 .neq q10 (ci 0) .b]) (.cond q11 (.seq (.oX [.mv p0 (cb false) .b]) .ret) .skip)) (.sO [.L p13 (.cells 1 q1) .v, .cl p14 15 [q13] .v, .mv p12 q14 .v, .P p15 (.ext q12 0) .v, .P p16 (.ext q12 1) tI, .P p17 (.ext q12 2) tI, .mv p3 q15 .v, .mv p4 q16 tI, .mv p5 q17 tI] (.sO [.mv p18 q5 tI, .bn p19 .eql q18 (ci 0) .b, .mv p20 q19 .b, .ge p20 (XL.of [.G p20 true p21 (.mov q3) .v, .G p20 true p22 (.lenl q21) tI, .G p20 true p23 (.bin .eql q22 (ci 2)) .b, .P p24 (.pick q20 q23 (cb false)) .b]) p24 .b, .mv p25 q24 .b, .ge p25 (XL.of [.G p25 true p26 (.mov q3) .v, .G p25 true p27 (.iaddr (.sl 4) q26 (ci 0)) .v, .G p25 true p28 (.faddr 2 q27) .v, .o ⟨(some p29), (.l (.cell q28)), (some (p25, true)), []⟩ .v, .o ⟨(some p30), (.l (.bstr q29)), (some (p25, true)), []⟩ .s, .G p25 true p31 (.bin .eql q30 (.c (.str [1, 0, 0, 0, 255, 255, 255, 255, 0, 0, 0, 0, 0, 0, 0, 0]))) .b, .P p32 (.pick q25 q31 (cb false)) .b]) p32 .b, .mv p33 q32 .b, .ge p33 (XL.of [.G p33 true p34 (.mov q3) .v, .G p33 true p35 (.iaddr (.sl 4) q34 (ci 1)) .v, .G p33 true p36 (.faddr 2 q35) .v, .o ⟨(some p37), (.l (.cell q36)), (some (p33, true)), []⟩ .v, .o ⟨(some p38), (.l (.bstr q37)), (some (p33, true)), []⟩ .s, .G p33 true p39 (.bin .eql q38 (.c (.str [0, 0, 0, 0, 0, 0, 0, 0]))) .b, .P p40 (.pick q33 q39 (cb false)) .b]) p40 .b, .mv p41 q40 .b, .ge p41 (XL.of [.G p41 true p42 (.mov q3) .v, .G p41 true p43 (.iaddr (.sl 4) q42 (ci 1)) .v, .G p41 true p44 (.faddr 3 q43) .v, .o ⟨(some p45), (.l (.cell q44)), (some (p41, true)), []⟩ .v, .G p41 true p46 (.lenl q45) tI, .G p41 true p47 (.bin .eql q46 (ci 1)) .b, .P p48 (.pick q41 q47 (cb false)) .b]) p48 .b, .mv p49 q48 .b, .ge p49 (XL.of [.G p49 true p50 (.mov q3) .v, .G p49 true p51 (.iaddr (.sl 4) q50 (ci 1)) .v, .G p49 true p52 (.faddr 3 q51) .v, .o ⟨(some p53), (.l (.cell q52)), (some (p49, true)), []⟩ .v, .G p49 true p54 (.iaddr (.sl 3) q53 (ci 0)) .v, .o ⟨(some p55), (.l (.cells 3 q54)), (some (p49, true)), []⟩ .v, .G p49 true p56 (.build [(kI 0), (.str []), (kI 0)] [⟨1, 1, (.c (.str [97]))⟩, ⟨2, 1, (ci 4)⟩]) .v, .G p49 true p57 (.eqs 3 [(0, .int), (1, .str), (2, .int)] false q55 q56) .b, .P p58 (.pick q49 q57 (cb false)) .b]) p58 .b, .mv p0 q58 .b] (.s .ret))))))
def x6 : XFn := ⟨[], false, [(.tmp p0)], c6_e⟩
def e6_0 (k h) := kN k [] h
def S6_0 (D : CallD) (m : Nat) (h : HP) : Res2 :=
 cal D 14 [(vS ([105, 110, 116, 32, 97, 91, 51, 93, 32, 61, 32, 123, 49, 44, 32, 45, 49, 125, 59, 32, 105, 110, 116, 32, 42, 112, 32, 61, 32, 38, 97, 91, 49, 93, 59] : LN))] h fun t7 h1 =>
 extC t7 0 fun t8 =>
 extC t7 1 fun vt9 => asI .i64 vt9 fun t9 =>
 let t1 := AV.ptr (HP.nxQ h1) 0
 let h2 := HP.newQ h1 (.cells true [.nils])
 stsC 1 t1 t8 h2 fun h3 =>
 let t11 := notQ (eqQ t9 (Int.ofNat 0))
 br t11 (
 some (.ret (vB false) h3, .no)) (
 cellsC 1 t1 h3 fun t13 =>
 cal D 15 [t13] h3 fun t14 h4 =>
 extC t14 0 fun t15 =>
 extC t14 1 fun vt16 => asI .i64 vt16 fun t16 =>
 extC t14 2 fun vt17 => asI .i64 vt17 fun t17 =>
 let t19 := eqQ t17 (Int.ofNat 0)
 obB (brV t19 (
 lenCV t15 fun vt22 => asIV .i64 vt22 fun t22 =>
 let t23 := eqQ t22 (Int.ofNat 2)
 some (vB t23)) (
 some (vB false))) fun t24 =>
 obB (brV t24 (
 iasCV 4 t15 (vI (Int.ofNat 0)) fun t27 =>
 faCV 2 t27 fun t28 =>
 cellCV t28 h4 fun t29 =>
 obSV (bstrV t29 h4) fun t30 =>
 let t31 := eqL t30 ([1, 0, 0, 0, 255, 255, 255, 255, 0, 0, 0, 0, 0, 0, 0, 0] : LN)
 some (vB t31)) (
 some (vB false))) fun t32 =>
 obB (brV t32 (
 iasCV 4 t15 (vI (Int.ofNat 1)) fun t35 =>
 faCV 2 t35 fun t36 =>
 cellCV t36 h4 fun t37 =>
 obSV (bstrV t37 h4) fun t38 =>
 let t39 := eqL t38 ([0, 0, 0, 0, 0, 0, 0, 0] : LN)
 some (vB t39)) (
 some (vB false))) fun t40 =>
 obB (brV t40 (
 iasCV 4 t15 (vI (Int.ofNat 1)) fun t43 =>
 faCV 3 t43 fun t44 =>
 cellCV t44 h4 fun t45 =>
 lenCV t45 fun vt46 => asIV .i64 vt46 fun t46 =>
 let t47 := eqQ t46 (Int.ofNat 1)
 some (vB t47)) (
 some (vB false))) fun t48 =>
 obB (brV t48 (
 iasCV 4 t15 (vI (Int.ofNat 1)) fun t51 =>
 faCV 3 t51 fun t52 =>
 cellCV t52 h4 fun t53 =>
 iasCV 3 t53 (vI (Int.ofNat 0)) fun t54 =>
 cellsCV 3 t54 h4 fun t55 =>
 let t56 := (AV.agg [(vI (Int.ofNat 0)), (vS ([97] : LN)), (vI (Int.ofNat 4))])
 obBV (evP (.eqs 3 [(0, .int), (1, .str), (2, .int)] false (.c t55) (.c t56)) .leaf) fun t57 =>
 some (vB t57)) (
 some (vB false))) fun t58 =>
 some (.ret (vB t58) h4, .no))
def S6 : SFn := fun D m args h u => nou u <| endA args (S6_0 D m h)
theorem T6_0 (hE : FX x6 D m E) : S6_0 D m = e6_0 (E c6_e []) := by unfold S6_0; rw [hE c6_e]; kernel_rfl
theorem X6 : XTie S6 x6 := X_of fun D m E hE args h u => by unfold S6; rw [T6_0 hE]; kernel_rfl
/- 7 -/
def c7_e : XC := (.sO [.al p4 (.box q1), .al p5 (.box q2), .al p6 (.new Zc), .mv p7 (ci 0) tI] (.seq (.block 0 (.seq (.oX [.fa p9 0 q4, .ld p10 q9 tI, .bn p11 .eql q10 (ci 1) .b, .mv p12 q11 .b, .ge p12 (XL.of [.G p12 true p13 (.faddr 0 q5) .v, .o ⟨(some p14), (.l (.cell q13)), (some (p12, true)), []⟩ tI, .G p12 true p15 (.bin .eql q14 (ci 1)) .b, .P p16 (.pick q12 q15 (cb false)) .b]) p16 .b, .mv p8 q16 .b]) (.cond q8 (.seq (.oX [.mv p17 q0 .s, .fa p18 1 q4, .ld p19 q18 tW, .fa p20 1 q5, .ld p21 q20 tW, .cl p22 16 [q17, q19, q21] .v, .P p23 (.ext q22 0) .v, .P p24 (.ext q22 1) tI, .ss 5 q6 q23, .mv p7 q24 tI]) .ret) (.seq (.oX [.fa p26 0 q4, .ld p27 q26 tI, .bn p28 .eql q27 (ci 2) .b, .mv p29 q28 .b, .ge p29 (XL.of [.G p29 true p30 (.faddr 0 q5) .v, .o ⟨(some p31), (.l (.cell q30)), (some (p29, true)), []⟩ tI, .G p29 true p32 (.bin .eql q31 (ci 2)) .b, .P p33 (.pick q29 q32 (cb false)) .b]) p33 .b, .mv p25 q33 .b]) (.cond q25 (.seq (.oX [.mv p34 q0 .s, .fa p35 2 q4, .ld p36 q35 (.i .u64), .fa p37 2 q5, .ld p38 q37 (.i .u64), .cl p39 17 [q34, q36, q38] .v, .P p40 (.ext q39 0) .v, .P p41 (.ext q39 1) tI, .ss 5 q6 q40, .mv p7 q41 tI]) .ret) .skip))))) (.sO [.P p42 (.build Zc []) .v, .ss 5 q6 q42, .mv p7 (ci 15) tI] (.s .ret))))
def x7 : XFn := ⟨[.s, .v, .v], false, [(.cells 5 p6), (.tmp p7)], c7_e⟩
def e7_0 (k t0 t1 t2 h) := kN k [(p0, (vS t0)), (p1, t1), (p2, t2)] h
def S7_0 (D : CallD) (m : Nat) (t0 : LN) (t1 t2 : AV) (h : HP) : Res2 :=
 let t4 := AV.ptr (HP.nxQ h) 0
 let h1 := HP.newQ h (.cells true (AV.cells t1))
 let t5 := AV.ptr (HP.nxQ h1) 0
 let h2 := HP.newQ h1 (.cells true (AV.cells t2))
 let t6 := AV.ptr (HP.nxQ h2) 0
 let h3 := HP.newQ h2 (.cells true Zc)
 let t9 := (AV.ptr (HP.nxQ h) (Nat.add 0 0))
 ldI t9 h3 fun t10 =>
 let t11 := eqQ t10 (Int.ofNat 1)
 obB (brV t11 (
 let t13 := (AV.ptr (HP.nxQ h1) (Nat.add 0 0))
 ldIV t13 h3 fun t14 =>
 let t15 := eqQ t14 (Int.ofNat 1)
 some (vB t15)) (
 some (vB false))) fun t16 =>
 br t16 (
 let t18 := (AV.ptr (HP.nxQ h) (Nat.add 0 1))
 ldW t18 h3 fun t19 =>
 let t20 := (AV.ptr (HP.nxQ h1) (Nat.add 0 1))
 ldW t20 h3 fun t21 =>
 cal D 16 [(vS t0), (vW t19), (vW t21)] h3 fun t22 h4 =>
 extC t22 0 fun t23 =>
 extC t22 1 fun vt24 => asI .i64 vt24 fun t24 =>
 stsC 5 t6 t23 h4 fun h5 =>
 cellsC 5 t6 h5 fun t6a =>
 some (.ret (.tup [t6a, (vI t24)]) h5, .no)) (
 let t26 := (AV.ptr (HP.nxQ h) (Nat.add 0 0))
 ldI t26 h3 fun t27 =>
 let t28 := eqQ t27 (Int.ofNat 2)
 obB (brV t28 (
 let t30 := (AV.ptr (HP.nxQ h1) (Nat.add 0 0))
 ldIV t30 h3 fun t31 =>
 let t32 := eqQ t31 (Int.ofNat 2)
 some (vB t32)) (
 some (vB false))) fun t33 =>
 br t33 (
 let t35 := (AV.ptr (HP.nxQ h) (Nat.add 0 2))
 cellC t35 h3 fun vt36 => asI .u64 vt36 fun t36 =>
 let t37 := (AV.ptr (HP.nxQ h1) (Nat.add 0 2))
 cellC t37 h3 fun vt38 => asI .u64 vt38 fun t38 =>
 cal D 17 [(vS t0), (AV.int .u64 t36), (AV.int .u64 t38)] h3 fun t39 h6 =>
 extC t39 0 fun t40 =>
 extC t39 1 fun vt41 => asI .i64 vt41 fun t41 =>
 stsC 5 t6 t40 h6 fun h7 =>
 cellsC 5 t6 h7 fun t6a =>
 some (.ret (.tup [t6a, (vI t41)]) h7, .no)) (
 let t42 := (AV.agg [(vI (Int.ofNat 0)), (vW (Int.ofNat 0)), (AV.int .u64 (Int.ofNat 0)), (vS ([] : LN)), (vI (Int.ofNat 0))])
 stsC 5 t6 t42 h3 fun h8 =>
 cellsC 5 t6 h8 fun t6a =>
 some (.ret (.tup [t6a, (vI (Int.ofNat 15))]) h8, .no)))
def S7 : SFn := fun D m args h u => nou u <| popS args fun t0 args => popV args fun t1 args => popV args fun t2 args => endA args (S7_0 D m t0 t1 t2 h)
theorem T7_0 (hE : FX x7 D m E) : S7_0 D m = e7_0 (E c7_e []) := by unfold S7_0; rw [hE c7_e]; kernel_rfl
theorem X7 : XTie S7 x7 := X_of fun D m E hE args h u => by unfold S7; rw [T7_0 hE]; kernel_rfl
/- 8 -/
def c8_e : XC := (.sO [.al p4 (.box q1), .al p5 (.box q2), .al p6 (.new Zc), .mv p7 (cb false) .b] (.seq (.seq (.oX [.fa p8 0 q4, .ld p9 q8 tI, .bn p10 .eql q9 (ci 1) .b, .mv p11 q10 .b, .ge p11 (XL.of [.G p11 true p12 (.faddr 0 q5) .v, .o ⟨(some p13), (.l (.cell q12)), (some (p11, true)), []⟩ tI, .G p11 true p14 (.bin .eql q13 (ci 1)) .b, .P p15 (.pick q11 q14 (cb false)) .b]) p15 .b]) (.cond q15 (.seq (.oX [.mv p16 q0 .s, .fa p17 1 q4, .ld p18 q17 tW, .fa p19 1 q5, .ld p20 q19 tW, .cl p21 18 [q16, q18, q20] .v, .P p22 (.ext q21 0) .v, .P p23 (.ext q21 1) .b, .ss 5 q6 q22, .mv p7 q23 .b]) .ret) .skip)) (.seq (.seq (.oX [.fa p24 0 q4, .ld p25 q24 tI, .bn p26 .eql q25 (ci 2) .b, .mv p27 q26 .b, .ge p27 (XL.of [.G p27 true p28 (.faddr 0 q5) .v, .o ⟨(some p29), (.l (.cell q28)), (some (p27, true)), []⟩ tI, .G p27 true p30 (.bin .eql q29 (ci 2)) .b, .P p31 (.pick q27 q30 (cb false)) .b]) p31 .b]) (.cond q31 (.seq (.oX [.mv p32 q0 .s, .fa p33 2 q4, .ld p34 q33 (.i .u64), .fa p35 2 q5, .ld p36 q35 (.i .u64), .cl p37 19 [q32, q34, q36] .v, .P p38 (.ext q37 0) .v, .P p39 (.ext q37 1) .b, .ss 5 q6 q38, .mv p7 q39 .b]) .ret) .skip)) (.sO [.P p40 (.build Zc []) .v, .ss 5 q6 q40, .mv p7 (cb false) .b] (.s .ret)))))
def x8 : XFn := ⟨[.s, .v, .v], false, [(.cells 5 p6), (.tmp p7)], c8_e⟩
def e8_0 (k t0 t1 t2 h) := kN k [(p0, (vS t0)), (p1, t1), (p2, t2)] h
def S8_0 (D : CallD) (m : Nat) (t0 : LN) (t1 t2 : AV) (h : HP) : Res2 :=
 let t4 := AV.ptr (HP.nxQ h) 0
 let h1 := HP.newQ h (.cells true (AV.cells t1))
 let t5 := AV.ptr (HP.nxQ h1) 0
 let h2 := HP.newQ h1 (.cells true (AV.cells t2))
 let t6 := AV.ptr (HP.nxQ h2) 0
 let h3 := HP.newQ h2 (.cells true Zc)
 let t8 := (AV.ptr (HP.nxQ h) (Nat.add 0 0))
 ldI t8 h3 fun t9 =>
 let t10 := eqQ t9 (Int.ofNat 1)
 obB (brV t10 (
 let t12 := (AV.ptr (HP.nxQ h1) (Nat.add 0 0))
 ldIV t12 h3 fun t13 =>
 let t14 := eqQ t13 (Int.ofNat 1)
 some (vB t14)) (
 some (vB false))) fun t15 =>
 br t15 (
 let t17 := (AV.ptr (HP.nxQ h) (Nat.add 0 1))
 ldW t17 h3 fun t18 =>
 let t19 := (AV.ptr (HP.nxQ h1) (Nat.add 0 1))
 ldW t19 h3 fun t20 =>
 cal D 18 [(vS t0), (vW t18), (vW t20)] h3 fun t21 h4 =>
 extC t21 0 fun t22 =>
 extC t21 1 fun vt23 => asB vt23 fun t23 =>
 stsC 5 t6 t22 h4 fun h5 =>
 cellsC 5 t6 h5 fun t6a =>
 some (.ret (.tup [t6a, (vB t23)]) h5, .no)) (
 let t24 := (AV.ptr (HP.nxQ h) (Nat.add 0 0))
 ldI t24 h3 fun t25 =>
 let t26 := eqQ t25 (Int.ofNat 2)
 obB (brV t26 (
 let t28 := (AV.ptr (HP.nxQ h1) (Nat.add 0 0))
 ldIV t28 h3 fun t29 =>
 let t30 := eqQ t29 (Int.ofNat 2)
 some (vB t30)) (
 some (vB false))) fun t31 =>
 br t31 (
 let t33 := (AV.ptr (HP.nxQ h) (Nat.add 0 2))
 cellC t33 h3 fun vt34 => asI .u64 vt34 fun t34 =>
 let t35 := (AV.ptr (HP.nxQ h1) (Nat.add 0 2))
 cellC t35 h3 fun vt36 => asI .u64 vt36 fun t36 =>
 cal D 19 [(vS t0), (AV.int .u64 t34), (AV.int .u64 t36)] h3 fun t37 h6 =>
 extC t37 0 fun t38 =>
 extC t37 1 fun vt39 => asB vt39 fun t39 =>
 stsC 5 t6 t38 h6 fun h7 =>
 cellsC 5 t6 h7 fun t6a =>
 some (.ret (.tup [t6a, (vB t39)]) h7, .no)) (
 let t40 := (AV.agg [(vI (Int.ofNat 0)), (vW (Int.ofNat 0)), (AV.int .u64 (Int.ofNat 0)), (vS ([] : LN)), (vI (Int.ofNat 0))])
 stsC 5 t6 t40 h3 fun h8 =>
 cellsC 5 t6 h8 fun t6a =>
 some (.ret (.tup [t6a, (vB false)]) h8, .no)))
def S8 : SFn := fun D m args h u => nou u <| popS args fun t0 args => popV args fun t1 args => popV args fun t2 args => endA args (S8_0 D m t0 t1 t2 h)
theorem T8_0 (hE : FX x8 D m E) : S8_0 D m = e8_0 (E c8_e []) := by unfold S8_0; rw [hE c8_e]; kernel_rfl
theorem X8 : XTie S8 x8 := X_of fun D m E hE args h u => by unfold S8; rw [T8_0 hE]; kernel_rfl
/- 9 -/
def c9_e : XC := (.sO [.al p3 (.box q1), .al p4 (.new Zc), .mv p5 (ci 0) tI] (.seq (.block 0 (.seq (.oX [.mv p7 q0 .s, .bn p8 .eql q7 (.c (.str [45])) .b, .mv p9 q8 .b, .ge p9 (XL.of [.G p9 true p10 (.faddr 0 q3) .v, .o ⟨(some p11), (.l (.cell q10)), (some (p9, true)), []⟩ tI, .G p9 true p12 (.bin .eql q11 (ci 2)) .b, .P p13 (.pick q9 q12 (cb false)) .b]) p13 .b, .mv p6 q13 .b]) (.cond q6 (.seq (.oX [.fa p14 2 q3, .ld p15 q14 (.i .u64), .cl p16 20 [q15] (.i .u64), .P p17 (.build Zc [⟨0, 1, (ci 2)⟩, ⟨2, 1, q16⟩]) .v, .ss 5 q4 q17, .mv p5 (ci 0) tI]) .ret) (.seq (.oX [.mv p19 q0 .s, .bn p20 .eql q19 (.c (.str [45])) .b, .mv p21 q20 .b, .ge p21 (XL.of [.G p21 true p22 (.faddr 0 q3) .v, .o ⟨(some p23), (.l (.cell q22)), (some (p21, true)), []⟩ tI, .G p21 true p24 (.bin .eql q23 (ci 1)) .b, .P p25 (.pick q21 q24 (cb false)) .b]) p25 .b, .mv p18 q25 .b]) (.cond q18 (.seq (.oX [.fa p26 1 q3, .ld p27 q26 tW, .cl p28 16 [(.c (.str [45])), (.c Z32), q27] .v, .P p29 (.ext q28 0) .v, .P p30 (.ext q28 1) tI, .ss 5 q4 q29, .mv p5 q30 tI]) .ret) (.seq (.oX [.mv p32 q0 .s, .bn p33 .eql q32 (.c (.str [33])) .b, .mv p34 q33 .b, .ge p34 (XL.of [.G p34 true p35 (.faddr 0 q3) .v, .o ⟨(some p36), (.l (.cell q35)), (some (p34, true)), []⟩ tI, .G p34 true p37 (.bin .eql q36 (ci 1)) .b, .P p38 (.pick q34 q37 (cb false)) .b]) p38 .b, .mv p31 q38 .b]) (.cond q31 (.seq (.oX [.fa p39 1 q3, .ld p40 q39 tW, .bn p41 .eql q40 (.c Z32) .b, .cl p42 21 [q41] .v, .ss 5 q4 q42, .mv p5 (ci 0) tI]) .ret) (.seq (.oX [.mv p44 q0 .s, .bn p45 .eql q44 (.c (.str [126])) .b, .mv p46 q45 .b, .ge p46 (XL.of [.G p46 true p47 (.faddr 0 q3) .v, .o ⟨(some p48), (.l (.cell q47)), (some (p46, true)), []⟩ tI, .G p46 true p49 (.bin .eql q48 (ci 1)) .b, .P p50 (.pick q46 q49 (cb false)) .b]) p50 .b, .mv p43 q50 .b]) (.cond q43 (.seq (.oX [.fa p51 1 q3, .ld p52 q51 tW, .cl p53 16 [(.c (.str [94])), q52, (.c (.int .u32 (.ofNat 4294967295)))] .v, .P p54 (.ext q53 0) .v, .P p55 (.ext q53 1) tI, .ss 5 q4 q54, .mv p5 q55 tI]) .ret) .skip))))))))) (.sO [.P p56 (.build Zc []) .v, .ss 5 q4 q56, .mv p5 (ci 15) tI] (.s .ret))))
def x9 : XFn := ⟨[.s, .v], false, [(.cells 5 p4), (.tmp p5)], c9_e⟩
def e9_0 (k t0 t1 h) := kN k [(p0, (vS t0)), (p1, t1)] h
def S9_0 (D : CallD) (m : Nat) (t0 : LN) (t1 : AV) (h : HP) : Res2 :=
 let t3 := AV.ptr (HP.nxQ h) 0
 let h1 := HP.newQ h (.cells true (AV.cells t1))
 let t4 := AV.ptr (HP.nxQ h1) 0
 let h2 := HP.newQ h1 (.cells true Zc)
 let t8 := eqL t0 ([45] : LN)
 obB (brV t8 (
 let t10 := (AV.ptr (HP.nxQ h) (Nat.add 0 0))
 ldIV t10 h2 fun t11 =>
 let t12 := eqQ t11 (Int.ofNat 2)
 some (vB t12)) (
 some (vB false))) fun t13 =>
 br t13 (
 let t14 := (AV.ptr (HP.nxQ h) (Nat.add 0 2))
 cellC t14 h2 fun vt15 => asI .u64 vt15 fun t15 =>
 cal D 20 [(AV.int .u64 t15)] h2 fun t16 h3 =>
 asI .u64 t16 fun t16a =>
 let t17 := (AV.agg [(vI (Int.ofNat 2)), (vW (Int.ofNat 0)), (AV.int .u64 t16a), (vS ([] : LN)), (vI (Int.ofNat 0))])
 stsC 5 t4 t17 h3 fun h4 =>
 cellsC 5 t4 h4 fun t4a =>
 some (.ret (.tup [t4a, (vI (Int.ofNat 0))]) h4, .no)) (
 let t20 := eqL t0 ([45] : LN)
 obB (brV t20 (
 let t22 := (AV.ptr (HP.nxQ h) (Nat.add 0 0))
 ldIV t22 h2 fun t23 =>
 let t24 := eqQ t23 (Int.ofNat 1)
 some (vB t24)) (
 some (vB false))) fun t25 =>
 br t25 (
 let t26 := (AV.ptr (HP.nxQ h) (Nat.add 0 1))
 ldW t26 h2 fun t27 =>
 cal D 16 [(vS ([45] : LN)), (vW (Int.ofNat 0)), (vW t27)] h2 fun t28 h5 =>
 extC t28 0 fun t29 =>
 extC t28 1 fun vt30 => asI .i64 vt30 fun t30 =>
 stsC 5 t4 t29 h5 fun h6 =>
 cellsC 5 t4 h6 fun t4a =>
 some (.ret (.tup [t4a, (vI t30)]) h6, .no)) (
 let t33 := eqL t0 ([33] : LN)
 obB (brV t33 (
 let t35 := (AV.ptr (HP.nxQ h) (Nat.add 0 0))
 ldIV t35 h2 fun t36 =>
 let t37 := eqQ t36 (Int.ofNat 1)
 some (vB t37)) (
 some (vB false))) fun t38 =>
 br t38 (
 let t39 := (AV.ptr (HP.nxQ h) (Nat.add 0 1))
 ldW t39 h2 fun t40 =>
 binC .eql (vW t40) (vW (Int.ofNat 0)) fun vt41 => asB vt41 fun t41 =>
 cal D 21 [(vB t41)] h2 fun t42 h7 =>
 stsC 5 t4 t42 h7 fun h8 =>
 cellsC 5 t4 h8 fun t4a =>
 some (.ret (.tup [t4a, (vI (Int.ofNat 0))]) h8, .no)) (
 let t45 := eqL t0 ([126] : LN)
 obB (brV t45 (
 let t47 := (AV.ptr (HP.nxQ h) (Nat.add 0 0))
 ldIV t47 h2 fun t48 =>
 let t49 := eqQ t48 (Int.ofNat 1)
 some (vB t49)) (
 some (vB false))) fun t50 =>
 br t50 (
 let t51 := (AV.ptr (HP.nxQ h) (Nat.add 0 1))
 ldW t51 h2 fun t52 =>
 cal D 16 [(vS ([94] : LN)), (vW t52), (vW (Int.ofNat 4294967295))] h2 fun t53 h9 =>
 extC t53 0 fun t54 =>
 extC t53 1 fun vt55 => asI .i64 vt55 fun t55 =>
 stsC 5 t4 t54 h9 fun h10 =>
 cellsC 5 t4 h10 fun t4a =>
 some (.ret (.tup [t4a, (vI t55)]) h10, .no)) (
 let t56 := (AV.agg [(vI (Int.ofNat 0)), (vW (Int.ofNat 0)), (AV.int .u64 (Int.ofNat 0)), (vS ([] : LN)), (vI (Int.ofNat 0))])
 stsC 5 t4 t56 h2 fun h11 =>
 cellsC 5 t4 h11 fun t4a =>
 some (.ret (.tup [t4a, (vI (Int.ofNat 15))]) h11, .no)))))
def S9 : SFn := fun D m args h u => nou u <| popS args fun t0 args => popV args fun t1 args => endA args (S9_0 D m t0 t1 h)
theorem T9_0 (hE : FX x9 D m E) : S9_0 D m = e9_0 (E c9_e []) := by unfold S9_0; rw [hE c9_e]; kernel_rfl
theorem X9 : XTie S9 x9 := X_of fun D m E hE args h u => by unfold S9; rw [T9_0 hE]; kernel_rfl
/- 10 -/
def c10_e : XC := (.sO [.al p3 (.box q1), .al p4 (.new Zc), .mv p5 (cb false) .b] (.seq (.seq (.oX [.mv p6 q0 .s, .bn p7 .eql q6 (.c (.str [45])) .b, .mv p8 q7 .b, .ge p8 (XL.of [.G p8 true p9 (.faddr 0 q3) .v, .o ⟨(some p10), (.l (.cell q9)), (some (p8, true)), []⟩ tI, .G p8 true p11 (.bin .eql q10 (ci 2)) .b, .P p12 (.pick q8 q11 (cb false)) .b]) p12 .b]) (.cond q12 (.seq (.oX [.fa p13 2 q3, .ld p14 q13 (.i .u64), .cl p15 22 [q14] (.i .u64), .P p16 (.build Zc [⟨0, 1, (ci 2)⟩, ⟨2, 1, q15⟩]) .v, .ss 5 q4 q16, .mv p5 (cb true) .b]) .ret) .skip)) (.seq (.seq (.oX [.fa p17 0 q3, .ld p18 q17 tI, .bn p19 .neq q18 (ci 1) .b]) (.cond q19 (.seq (.oX [.P p20 (.build Zc []) .v, .ss 5 q4 q20, .mv p5 (cb false) .b]) .ret) .skip)) (.seq (.seq (.oX [.mv p21 q0 .s]) (.block 0 (.seq (.oX [.bn p23 .eql q21 (.c (.str [45])) .b, .mv p22 q23 .b]) (.cond q22 (.seq (.oX [.fa p24 1 q3, .ld p25 q24 tW, .cl p26 23 [(ci 2), (.c Z32), q25] .v, .ss 5 q4 q26, .mv p5 (cb true) .b]) .ret) (.seq (.oX [.bn p28 .eql q21 (.c (.str [33])) .b, .mv p27 q28 .b]) (.cond q27 (.seq (.oX [.fa p29 1 q3, .ld p30 q29 tW, .bn p31 .eql q30 (.c Z32) .b, .cl p32 24 [q31] .v, .ss 5 q4 q32, .mv p5 (cb true) .b]) .ret) (.seq (.oX [.bn p34 .eql q21 (.c (.str [126])) .b, .mv p33 q34 .b]) (.cond q33 (.seq (.oX [.fa p35 1 q3, .ld p36 q35 tW, .bn p37 .sub (.c (.int .u32 (.ofNat 4294967295))) q36 tW, .P p38 (.build Zc [⟨0, 1, (ci 1)⟩, ⟨1, 1, q37⟩]) .v, .ss 5 q4 q38, .mv p5 (cb true) .b]) .ret) .skip)))))))) (.sO [.P p39 (.build Zc []) .v, .ss 5 q4 q39, .mv p5 (cb false) .b] (.s .ret))))))
def x10 : XFn := ⟨[.s, .v], false, [(.cells 5 p4), (.tmp p5)], c10_e⟩
def e10_0 (k t0 t1 h) := kN k [(p0, (vS t0)), (p1, t1)] h
def S10_0 (D : CallD) (m : Nat) (t0 : LN) (t1 : AV) (h : HP) : Res2 :=
 let t3 := AV.ptr (HP.nxQ h) 0
 let h1 := HP.newQ h (.cells true (AV.cells t1))
 let t4 := AV.ptr (HP.nxQ h1) 0
 let h2 := HP.newQ h1 (.cells true Zc)
 let t7 := eqL t0 ([45] : LN)
 obB (brV t7 (
 let t9 := (AV.ptr (HP.nxQ h) (Nat.add 0 0))
 ldIV t9 h2 fun t10 =>
 let t11 := eqQ t10 (Int.ofNat 2)
 some (vB t11)) (
 some (vB false))) fun t12 =>
 br t12 (
 let t13 := (AV.ptr (HP.nxQ h) (Nat.add 0 2))
 cellC t13 h2 fun vt14 => asI .u64 vt14 fun t14 =>
 cal D 22 [(AV.int .u64 t14)] h2 fun t15 h3 =>
 asI .u64 t15 fun t15a =>
 let t16 := (AV.agg [(vI (Int.ofNat 2)), (vW (Int.ofNat 0)), (AV.int .u64 t15a), (vS ([] : LN)), (vI (Int.ofNat 0))])
 stsC 5 t4 t16 h3 fun h4 =>
 cellsC 5 t4 h4 fun t4a =>
 some (.ret (.tup [t4a, (vB true)]) h4, .no)) (
 let t17 := (AV.ptr (HP.nxQ h) (Nat.add 0 0))
 ldI t17 h2 fun t18 =>
 let t19 := notQ (eqQ t18 (Int.ofNat 1))
 br t19 (
 let t20 := (AV.agg [(vI (Int.ofNat 0)), (vW (Int.ofNat 0)), (AV.int .u64 (Int.ofNat 0)), (vS ([] : LN)), (vI (Int.ofNat 0))])
 stsC 5 t4 t20 h2 fun h5 =>
 cellsC 5 t4 h5 fun t4a =>
 some (.ret (.tup [t4a, (vB false)]) h5, .no)) (
 let t23 := eqL t0 ([45] : LN)
 br t23 (
 let t24 := (AV.ptr (HP.nxQ h) (Nat.add 0 1))
 ldW t24 h2 fun t25 =>
 cal D 23 [(vI (Int.ofNat 2)), (vW (Int.ofNat 0)), (vW t25)] h2 fun t26 h6 =>
 stsC 5 t4 t26 h6 fun h7 =>
 cellsC 5 t4 h7 fun t4a =>
 some (.ret (.tup [t4a, (vB true)]) h7, .no)) (
 let t28 := eqL t0 ([33] : LN)
 br t28 (
 let t29 := (AV.ptr (HP.nxQ h) (Nat.add 0 1))
 ldW t29 h2 fun t30 =>
 binC .eql (vW t30) (vW (Int.ofNat 0)) fun vt31 => asB vt31 fun t31 =>
 cal D 24 [(vB t31)] h2 fun t32 h8 =>
 stsC 5 t4 t32 h8 fun h9 =>
 cellsC 5 t4 h9 fun t4a =>
 some (.ret (.tup [t4a, (vB true)]) h9, .no)) (
 let t34 := eqL t0 ([126] : LN)
 br t34 (
 let t35 := (AV.ptr (HP.nxQ h) (Nat.add 0 1))
 ldW t35 h2 fun t36 =>
 binC .sub (vW (Int.ofNat 4294967295)) (vW t36) fun vt37 => asI .u32 vt37 fun t37 =>
 let t38 := (AV.agg [(vI (Int.ofNat 1)), (vW t37), (AV.int .u64 (Int.ofNat 0)), (vS ([] : LN)), (vI (Int.ofNat 0))])
 stsC 5 t4 t38 h2 fun h10 =>
 cellsC 5 t4 h10 fun t4a =>
 some (.ret (.tup [t4a, (vB true)]) h10, .no)) (
 let t39 := (AV.agg [(vI (Int.ofNat 0)), (vW (Int.ofNat 0)), (AV.int .u64 (Int.ofNat 0)), (vS ([] : LN)), (vI (Int.ofNat 0))])
 stsC 5 t4 t39 h2 fun h11 =>
 cellsC 5 t4 h11 fun t4a =>
 some (.ret (.tup [t4a, (vB false)]) h11, .no))))))
def S10 : SFn := fun D m args h u => nou u <| popS args fun t0 args => popV args fun t1 args => endA args (S10_0 D m t0 t1 h)
theorem T10_0 (hE : FX x10 D m E) : S10_0 D m = e10_0 (E c10_e []) := by unfold S10_0; rw [hE c10_e]; kernel_rfl
theorem X10 : XTie S10 x10 := X_of fun D m E hE args h u => by unfold S10; rw [T10_0 hE]; kernel_rfl
/- 11 -/
def c11_e : XC := (.sO [.mv p6 (.c Z32) tW, .mv p7 (ci 0) tI] (.sO [.mv p10 q1 tW, .P p11 (.conv (.ii .i32) q10) (.i .i32), .mv p12 q2 tW, .P p13 (.conv (.ii .i32) q12) (.i .i32), .mv p8 q11 (.i .i32), .mv p9 q13 (.i .i32)] (.seq (.seq (.oX [.mv p14 q0 tI]) (.block 0 (.seq (.oX [.bn p16 .eql q14 (ci 1) .b, .mv p15 q16 .b]) (.cond q15 (.seq (.oX [.mv p17 q1 tW, .mv p18 q2 tW, .bn p19 .add q17 q18 tW, .mv p6 q19 tW, .mv p7 (ci 0) tI]) .ret) (.seq (.oX [.bn p21 .eql q14 (ci 2) .b, .mv p20 q21 .b]) (.cond q20 (.seq (.oX [.mv p22 q1 tW, .mv p23 q2 tW, .bn p24 .sub q22 q23 tW, .mv p6 q24 tW, .mv p7 (ci 0) tI]) .ret) (.seq (.oX [.bn p26 .eql q14 (ci 3) .b, .mv p25 q26 .b]) (.cond q25 (.seq (.oX [.mv p27 q1 tW, .mv p28 q2 tW, .bn p29 .and q28 (.c (.int .u32 (.ofNat 31))) tW, .bn p30 .shl q27 q29 tW, .mv p6 q30 tW, .mv p7 (ci 0) tI]) .ret) (.seq (.oX [.bn p32 .eql q14 (ci 4) .b, .mv p31 q32 .b]) (.cond q31 (.seq (.oX [.mv p33 q8 (.i .i32), .mv p34 q9 (.i .i32), .bn p35 .lss q33 q34 .b, .cl p36 25 [q35] tW, .mv p6 q36 tW, .mv p7 (ci 0) tI]) .ret) (.seq (.oX [.bn p38 .eql q14 (ci 5) .b, .mv p37 q38 .b]) (.cond q37 (.seq (.oX [.mv p39 q1 tW, .mv p40 q2 tW, .bn p41 .lss q39 q40 .b, .cl p42 25 [q41] tW, .mv p6 q42 tW, .mv p7 (ci 0) tI]) .ret) (.seq (.oX [.bn p44 .eql q14 (ci 6) .b, .mv p43 q44 .b]) (.cond q43 (.seq (.oX [.mv p45 q1 tW, .mv p46 q2 tW, .bn p47 .xor q45 q46 tW, .mv p6 q47 tW, .mv p7 (ci 0) tI]) .ret) (.seq (.oX [.bn p49 .eql q14 (ci 7) .b, .mv p48 q49 .b]) (.cond q48 (.seq (.oX [.mv p50 q1 tW, .mv p51 q2 tW, .bn p52 .and q51 (.c (.int .u32 (.ofNat 31))) tW, .bn p53 .shr q50 q52 tW, .mv p6 q53 tW, .mv p7 (ci 0) tI]) .ret) (.seq (.oX [.bn p55 .eql q14 (ci 8) .b, .mv p54 q55 .b]) (.cond q54 (.seq (.oX [.mv p56 q8 (.i .i32), .mv p57 q2 tW, .bn p58 .and q57 (.c (.int .u32 (.ofNat 31))) tW, .bn p59 .shr q56 q58 (.i .i32), .P p60 (.conv (.ii .u32) q59) tW, .mv p6 q60 tW, .mv p7 (ci 0) tI]) .ret) (.seq (.oX [.bn p62 .eql q14 (ci 9) .b, .mv p61 q62 .b]) (.cond q61 (.seq (.oX [.mv p63 q1 tW, .mv p64 q2 tW, .bn p65 .or q63 q64 tW, .mv p6 q65 tW, .mv p7 (ci 0) tI]) .ret) (.seq (.oX [.bn p67 .eql q14 (ci 10) .b, .mv p66 q67 .b]) (.cond q66 (.seq (.oX [.mv p68 q1 tW, .mv p69 q2 tW, .bn p70 .and q68 q69 tW, .mv p6 q70 tW, .mv p7 (ci 0) tI]) .ret) .skip)))))))))))))))))))))) (.sO [.mv p71 q0 tI, .mv p72 q1 tW, .mv p73 q2 tW, .cl p74 26 [q71, q72, q73] .v, .P p75 (.ext q74 0) tW, .P p76 (.ext q74 1) tI, .mv p6 q75 tW, .mv p7 q76 tI] (.s .ret)))))
def x11 : XFn := ⟨[tI, tW, tW], false, [(.tmp p6), (.tmp p7)], c11_e⟩
def e11_0 (k t0 t1 t2 h) := kN k [(p0, (vI t0)), (p1, (vW t1)), (p2, (vW t2))] h
def S11_0 (D : CallD) (m : Nat) (t0 t1 t2 : Int) (h : HP) : Res2 :=
 obI .i32 (convV (.ii .i32) (vW t1)) fun t11 =>
 obI .i32 (convV (.ii .i32) (vW t2)) fun t13 =>
 let t16 := eqQ t0 (Int.ofNat 1)
 br t16 (
 binC .add (vW t1) (vW t2) fun vt19 => asI .u32 vt19 fun t19 =>
 some (.ret (.tup [(vW t19), (vI (Int.ofNat 0))]) h, .no)) (
 let t21 := eqQ t0 (Int.ofNat 2)
 br t21 (
 binC .sub (vW t1) (vW t2) fun vt24 => asI .u32 vt24 fun t24 =>
 some (.ret (.tup [(vW t24), (vI (Int.ofNat 0))]) h, .no)) (
 let t26 := eqQ t0 (Int.ofNat 3)
 br t26 (
 binC .and (vW t2) (vW (Int.ofNat 31)) fun vt29 => asI .u32 vt29 fun t29 =>
 obI .u32 (shiftF .shl .u32 t1 t29) fun t30 =>
 some (.ret (.tup [(vW t30), (vI (Int.ofNat 0))]) h, .no)) (
 let t32 := eqQ t0 (Int.ofNat 4)
 br t32 (
 let t35 := ltQ t11 t13
 cal D 25 [(vB t35)] h fun t36 h1 =>
 asI .u32 t36 fun t36a =>
 some (.ret (.tup [(vW t36a), (vI (Int.ofNat 0))]) h1, .no)) (
 let t38 := eqQ t0 (Int.ofNat 5)
 br t38 (
 binC .lss (vW t1) (vW t2) fun vt41 => asB vt41 fun t41 =>
 cal D 25 [(vB t41)] h fun t42 h2 =>
 asI .u32 t42 fun t42a =>
 some (.ret (.tup [(vW t42a), (vI (Int.ofNat 0))]) h2, .no)) (
 let t44 := eqQ t0 (Int.ofNat 6)
 br t44 (
 binC .xor (vW t1) (vW t2) fun vt47 => asI .u32 vt47 fun t47 =>
 some (.ret (.tup [(vW t47), (vI (Int.ofNat 0))]) h, .no)) (
 let t49 := eqQ t0 (Int.ofNat 7)
 br t49 (
 binC .and (vW t2) (vW (Int.ofNat 31)) fun vt52 => asI .u32 vt52 fun t52 =>
 obI .u32 (shiftF .shr .u32 t1 t52) fun t53 =>
 some (.ret (.tup [(vW t53), (vI (Int.ofNat 0))]) h, .no)) (
 let t55 := eqQ t0 (Int.ofNat 8)
 br t55 (
 binC .and (vW t2) (vW (Int.ofNat 31)) fun vt58 => asI .u32 vt58 fun t58 =>
 obI .i32 (shiftF .shr .i32 t11 t58) fun t59 =>
 let t60 := wrapF .u32 t59
 some (.ret (.tup [(vW t60), (vI (Int.ofNat 0))]) h, .no)) (
 let t62 := eqQ t0 (Int.ofNat 9)
 br t62 (
 binC .or (vW t1) (vW t2) fun vt65 => asI .u32 vt65 fun t65 =>
 some (.ret (.tup [(vW t65), (vI (Int.ofNat 0))]) h, .no)) (
 let t67 := eqQ t0 (Int.ofNat 10)
 br t67 (
 binC .and (vW t1) (vW t2) fun vt70 => asI .u32 vt70 fun t70 =>
 some (.ret (.tup [(vW t70), (vI (Int.ofNat 0))]) h, .no)) (
 cal D 26 [(vI t0), (vW t1), (vW t2)] h fun t74 h3 =>
 extC t74 0 fun vt75 => asI .u32 vt75 fun t75 =>
 extC t74 1 fun vt76 => asI .i64 vt76 fun t76 =>
 some (.ret (.tup [(vW t75), (vI t76)]) h3, .no)))))))))))
def S11 : SFn := fun D m args h u => nou u <| popI .i64 args fun t0 args => popI .u32 args fun t1 args => popI .u32 args fun t2 args => endA args (S11_0 D m t0 t1 t2 h)
theorem T11_0 (hE : FX x11 D m E) : S11_0 D m = e11_0 (E c11_e []) := by unfold S11_0; rw [hE c11_e]; kernel_rfl
theorem X11 : XTie S11 x11 := X_of fun D m E hE args h u => by unfold S11; rw [T11_0 hE]; kernel_rfl
/- 14 -/
def c14_e : XC := (.sO [.al p2 (.new [.nils]), .mv p3 (ci 0) tI] (.sO [.mv p10 q0 .s, .cl p11 29 [q10] .v, .mv p9 q11 .v, .P p12 (.ext q9 0) .v, .P p13 (.ext q9 1) tI, .P p14 (.ext q9 2) tI, .al p4 (.new [.nils]), .ss 1 q4 q12, .mv p5 q13 tI, .mv p6 q14 tI] (.seq (.seq (.oX [.mv p15 q6 tI, .bn p16 .neq q15 (ci 0) .b]) (.cond q16 (.seq (.oX [.P p17 (.build [.nils] []) .v, .mv p18 q6 tI, .ss 1 q2 q17, .mv p3 q18 tI]) .ret) .skip)) (.sO [.L p20 (.cells 1 q4) .v, .cl p21 30 [q20] .v, .mv p19 q21 .v, .P p22 (.ext q19 0) .v, .P p23 (.ext q19 1) tI, .P p24 (.ext q19 2) tI, .al p7 (.new [.nils]), .ss 1 q7 q22, .mv p8 q23 tI, .mv p6 q24 tI] (.sO [.L p25 (.cells 1 q7) .v, .mv p26 q6 tI, .ss 1 q2 q25, .mv p3 q26 tI] (.s .ret))))))
def x14 : XFn := ⟨[.s], false, [(.cells 1 p2), (.tmp p3)], c14_e⟩
def e14_0 (k t0 h) := kN k [(p0, (vS t0))] h
def S14_0 (D : CallD) (m : Nat) (t0 : LN) (h : HP) : Res2 :=
 let t2 := AV.ptr (HP.nxQ h) 0
 let h1 := HP.newQ h (.cells true [.nils])
 cal D 29 [(vS t0)] h1 fun t11 h2 =>
 extC t11 0 fun t12 =>
 extC t11 1 fun vt13 => asI .i64 vt13 fun t13 =>
 extC t11 2 fun vt14 => asI .i64 vt14 fun t14 =>
 let t4 := AV.ptr (HP.nxQ h2) 0
 let h3 := HP.newQ h2 (.cells true [.nils])
 stsC 1 t4 t12 h3 fun h4 =>
 let t16 := notQ (eqQ t14 (Int.ofNat 0))
 br t16 (
 let t17 := (AV.agg [(.nils : AV)])
 stsC 1 t2 t17 h4 fun h5 =>
 cellsC 1 t2 h5 fun t2a =>
 some (.ret (.tup [t2a, (vI t14)]) h5, .no)) (
 cellsC 1 t4 h4 fun t20 =>
 cal D 30 [t20] h4 fun t21 h6 =>
 extC t21 0 fun t22 =>
 extC t21 1 fun vt23 => asI .i64 vt23 fun t23 =>
 extC t21 2 fun vt24 => asI .i64 vt24 fun t24 =>
 let t7 := AV.ptr (HP.nxQ h6) 0
 let h7 := HP.newQ h6 (.cells true [.nils])
 stsC 1 t7 t22 h7 fun h8 =>
 cellsC 1 t7 h8 fun t25 =>
 stsC 1 t2 t25 h8 fun h9 =>
 cellsC 1 t2 h9 fun t2a =>
 some (.ret (.tup [t2a, (vI t24)]) h9, .no))
def S14 : SFn := fun D m args h u => nou u <| popS args fun t0 args => endA args (S14_0 D m t0 h)
theorem T14_0 (hE : FX x14 D m E) : S14_0 D m = e14_0 (E c14_e []) := by unfold S14_0; rw [hE c14_e]; kernel_rfl
theorem X14 : XTie S14 x14 := X_of fun D m E hE args h u => by unfold S14; rw [T14_0 hE]; kernel_rfl
/- 15 -/
def x15 : XFn := ⟨[.v], false, [(.tmp p2), (.tmp p3), (.tmp p4)], (.sO [.al p1 (.box q0), .mv p2 (.c .nils) .v, .mv p3 (ci 0) tI, .mv p4 (ci 0) tI] (.sO [.mv p5 (.c .nils) .v] (.sj [p5] (.sO [.fa p18 0 q1, .ld p19 q18 .v, .P p20 (.lenl q19) tI, .mv p21 (ci 0) tI] (.block 0 (.loop [p1, p5, p19, p20, p21] (.sO [.bn p22 .lss q21 q20 .b] (.seq (.cond q22 .skip (.exit 0)) (.sj [p1, p5, p19, p20, p21] (.block 1 (.sO [.P p23 (.iaddr (.sl 17) q19 q21) .v, .L p24 (.cells 17 q23) .v, .al p7 (.new Zd), .ss 17 q7 q24] (.seq (.seq (.oX [.fa p25 0 q7, .ld p26 q25 .b, .mv p27 q26 .b, .ge p27 (XL.of [.G p27 false p28 (.faddr 2 q7) .v, .o ⟨(some p29), (.l (.cell q28)), (some (p27, false)), []⟩ .b, .P p30 (.pick q27 (cb true) q29) .b]) p30 .b]) (.cond q30 (.exit 1) .skip)) (.sO [.fa p31 4 q7, .ld p32 q31 tI, .cl p33 31 [q32] tI, .mv p8 q33 tI] (.seq (.ops true (XL.of [.fa p34 3 q7, .ld p35 q34 .s, .fa p36 1 q7, .ld p37 q36 .b, .mv p38 q8 tI, .fa p39 5 q7, .ld p40 q39 tI, .P p41 (.mm true [q40, (ci 1)]) tI, .bn p42 .mul q38 q41 tI, .bn p43 .add q42 (ci 7) tI, .bn p44 .andNot q43 (ci 7) tI, .al p45 (.mksl [(.int .u8 (.ofNat 0))] 1 q44 q44), .P p46 (.build [(.str []), (.bool false), .nils, .nils] [⟨0, 1, q35⟩, ⟨1, 1, q37⟩, ⟨2, 1, q45⟩]) .v, .al p9 (.new [(.str []), (.bool false), .nils, .nils]), .ss 4 q9 q46])) (.sj [p1, p5, p9, p19, p20, p21] (.sO [.fa p47 6 q7, .ld p48 q47 .v, .P p49 (.lenl q48) tI, .mv p50 (ci 0) tI] (.block 2 (.loop [p1, p5, p7, p8, p9, p19, p20, p21, p48, p49, p50] (.sO [.bn p51 .lss q50 q49 .b] (.seq (.cond q51 .skip (.exit 2)) (.sj [p1, p5, p7, p8, p9, p19, p20, p21, p48, p49, p50] (.block 3 (.sO [.mv p52 q50 tI, .P p53 (.iaddr (.sl 8) q48 q50) .v, .L p54 (.cells 8 q53) .v, .al p11 (.new Ze), .mv p10 q52 tI, .ss 8 q11 q54] (.sO [.L p56 (.cells 1 q1) .v, .L p57 (.cells 8 q11) .v, .cl p58 32 [q56, q57] .v, .mv p55 q58 .v, .P p59 (.ext q55 0) .v, .P p60 (.ext q55 1) tI, .P p61 (.ext q55 2) tI, .al p12 (.new Zc), .ss 5 q12 q59, .mv p13 q60 tI, .mv p14 q61 tI] (.seq (.seq (.oX [.mv p62 q14 tI, .bn p63 .neq q62 (ci 0) .b]) (.cond q63 (.seq (.oX [.mv p64 q13 tI, .mv p65 q14 tI, .mv p2 (.c .nils) .v, .mv p3 q64 tI, .mv p4 q65 tI]) .ret) .skip)) (.sO [.fa p66 1 q12, .ld p67 q66 tW, .P p68 (.conv (.ii .u64) q67) (.i .u64), .mv p15 q68 (.i .u64)] (.sj [p1, p5, p7, p8, p9, p10, p15, p19, p20, p21, p48, p49, p50] (.block 4 (.sO [.fa p70 4 q7, .ld p71 q70 tI, .bn p72 .eql q71 (ci 2) .b, .mv p69 q72 .b] (.cond q69 (.s (.oX [.fa p73 2 q12, .ld p74 q73 (.i .u64), .mv p15 q74 (.i .u64)])) (.sO [.fa p76 3 q12, .ld p77 q76 .s, .bn p78 .neq q77 (.c (.str [])) .b, .mv p75 q78 .b] (.cond q75 (.sO [.mv p16 (ci 4) tI] (.sj [p1, p5, p7, p8, p9, p10, p12, p15, p16, p19, p20, p21, p48, p49, p50] (.sO [.fa p79 0 q12, .ld p80 q79 tI, .bn p81 .eql q80 (ci 4) .b] (.cond q81 (.s (.oX [.mv p16 (ci 8) tI])) (.s .skip))) (.s (.oX [.fa p82 3 q9, .ld p83 q82 .v, .mv p84 q8 tI, .mv p85 q10 tI, .bn p86 .mul q84 q85 tI, .fa p87 3 q12, .ld p88 q87 .s, .mv p89 q16 tI, .fa p90 4 q12, .ld p91 q90 tI, .bn p92 .mul q89 q91 tI, .P p93 (.build [(kI 0), (.str []), (kI 0)] [⟨0, 1, q86⟩, ⟨1, 1, q88⟩, ⟨2, 1, q92⟩]) .v, .al p94 (.bsl [(kI 0), (.str []), (kI 0)] 1 [⟨0, 3, q93⟩]), .o ⟨(some p95), (.e (.app 3 32 q83 q94)), none, []⟩ .v, .fa p96 3 q9, .st q96 q95])))) (.s .skip)))))) (.sO [.mv p97 q8 tI, .mv p98 (ci 0) tI] (.block 5 (.loop [p1, p5, p7, p8, p9, p10, p15, p19, p20, p21, p48, p49, p50, p97, p98] (.sO [.bn p99 .lss q98 q97 .b] (.seq (.cond q99 .skip (.exit 5)) (.seq (.block 6 (.seq (.oX [.mv p100 q98 tI, .mv p17 q100 tI]) (.ops true (XL.of [.fa p101 2 q9, .ld p102 q101 .v, .mv p103 q8 tI, .mv p104 q10 tI, .bn p105 .mul q103 q104 tI, .mv p106 q17 tI, .bn p107 .add q105 q106 tI, .mv p108 q15 (.i .u64), .mv p109 q17 tI, .bn p110 .mul (ci 8) q109 tI, .bn p111 .shr q108 q110 (.i .u64), .P p112 (.conv (.ii .u8) q111) tC, .P p113 (.iaddr (.sl 1) q102 q107) .v, .st q113 q112])))) (.s (.oX [.bn p114 .add q98 (ci 1) tI, .mv p98 q114 tI])))))))))))))) (.s (.oX [.bn p115 .add q50 (ci 1) tI, .mv p50 q115 tI])))))))) (.s (.oX [.mv p116 q5 .v, .L p117 (.cells 4 q9) .v, .al p118 (.bsl [(.str []), (.bool false), .nils, .nils] 1 [⟨0, 4, q117⟩]), .o ⟨(some p119), (.e (.app 4 72 q116 q118)), none, []⟩ .v, .mv p5 q119 .v])))))))) (.s (.oX [.bn p120 .add q21 (ci 1) tI, .mv p21 q120 tI])))))))) (.sO [.mv p121 q5 .v, .mv p2 q121 .v, .mv p3 (ci 0) tI, .mv p4 (ci 0) tI] (.s .ret)))))⟩
def S15 : SFn := evFX x15
theorem X15 : XTie S15 x15 := fun _ _ _ _ _ => rfl
/- 16 -/
def c16_e : XC := (.sO [.al p6 (.new Zc), .mv p7 (ci 0) tI] (.seq (.seq (.oX [.mv p13 q0 .s, .cl p14 33 [q13] tI, .mv p8 q14 tI]) (.seq (.oX [.mv p15 q8 tI, .bn p16 .neq q15 (ci 0) .b]) (.cond q16 (.seq (.oX [.mv p18 q8 tI, .mv p19 q1 tW, .mv p20 q2 tW, .cl p21 11 [q18, q19, q20] .v, .mv p17 q21 .v, .P p22 (.ext q17 0) tW, .P p23 (.ext q17 1) tI, .mv p9 q22 tW, .mv p10 q23 tI]) (.seq (.oX [.mv p24 q9 tW, .P p25 (.build Zc [⟨0, 1, (ci 1)⟩, ⟨1, 1, q24⟩]) .v, .mv p26 q10 tI, .ss 5 q6 q25, .mv p7 q26 tI]) .ret)) .skip))) (.sO [.mv p27 q1 tW, .cl p28 34 [q27] tI, .mv p29 q2 tW, .cl p30 34 [q29] tI, .mv p11 q28 tI, .mv p12 q30 tI] (.seq (.seq (.oX [.mv p31 q0 .s]) (.block 0 (.seq (.oX [.bn p33 .eql q31 (.c (.str [61, 61])) .b, .mv p32 q33 .b]) (.cond q32 (.seq (.oX [.mv p34 q11 tI, .mv p35 q12 tI, .bn p36 .eql q34 q35 .b, .cl p37 21 [q36] .v, .ss 5 q6 q37, .mv p7 (ci 0) tI]) .ret) (.seq (.oX [.bn p39 .eql q31 (.c (.str [33, 61])) .b, .mv p38 q39 .b]) (.cond q38 (.seq (.oX [.mv p40 q11 tI, .mv p41 q12 tI, .bn p42 .neq q40 q41 .b, .cl p43 21 [q42] .v, .ss 5 q6 q43, .mv p7 (ci 0) tI]) .ret) (.seq (.oX [.bn p45 .eql q31 (.c (.str [60])) .b, .mv p44 q45 .b]) (.cond q44 (.seq (.oX [.mv p46 q11 tI, .mv p47 q12 tI, .bn p48 .lss q46 q47 .b, .cl p49 21 [q48] .v, .ss 5 q6 q49, .mv p7 (ci 0) tI]) .ret) (.seq (.oX [.bn p51 .eql q31 (.c (.str [60, 61])) .b, .mv p50 q51 .b]) (.cond q50 (.seq (.oX [.mv p52 q11 tI, .mv p53 q12 tI, .bn p54 .leq q52 q53 .b, .cl p55 21 [q54] .v, .ss 5 q6 q55, .mv p7 (ci 0) tI]) .ret) (.seq (.oX [.bn p57 .eql q31 (.c (.str [62])) .b, .mv p56 q57 .b]) (.cond q56 (.seq (.oX [.mv p58 q11 tI, .mv p59 q12 tI, .bn p60 .gtr q58 q59 .b, .cl p61 21 [q60] .v, .ss 5 q6 q61, .mv p7 (ci 0) tI]) .ret) (.seq (.oX [.bn p63 .eql q31 (.c (.str [62, 61])) .b, .mv p62 q63 .b]) (.cond q62 (.seq (.oX [.mv p64 q11 tI, .mv p65 q12 tI, .bn p66 .geq q64 q65 .b, .cl p67 21 [q66] .v, .ss 5 q6 q67, .mv p7 (ci 0) tI]) .ret) (.seq (.oX [.bn p69 .eql q31 (.c (.str [38, 38])) .b, .mv p68 q69 .b]) (.cond q68 (.seq (.oX [.mv p70 q11 tI, .bn p71 .neq q70 (ci 0) .b, .mv p72 q71 .b, .ge p72 (XL.of [.G p72 true p73 (.mov q12) tI, .G p72 true p74 (.bin .neq q73 (ci 0)) .b, .P p75 (.pick q72 q74 (cb false)) .b]) p75 .b, .cl p76 21 [q75] .v, .ss 5 q6 q76, .mv p7 (ci 0) tI]) .ret) (.seq (.oX [.bn p78 .eql q31 (.c (.str [124, 124])) .b, .mv p77 q78 .b]) (.cond q77 (.seq (.oX [.mv p79 q11 tI, .bn p80 .neq q79 (ci 0) .b, .mv p81 q80 .b, .ge p81 (XL.of [.G p81 false p82 (.mov q12) tI, .G p81 false p83 (.bin .neq q82 (ci 0)) .b, .P p84 (.pick q81 (cb true) q83) .b]) p84 .b, .cl p85 21 [q84] .v, .ss 5 q6 q85, .mv p7 (ci 0) tI]) .ret) .skip)))))))))))))))))) (.sO [.P p86 (.build Zc []) .v, .ss 5 q6 q86, .mv p7 (ci 15) tI] (.s .ret))))))
def x16 : XFn := ⟨[.s, tW, tW], false, [(.cells 5 p6), (.tmp p7)], c16_e⟩
def e16_0 (k t0 t1 t2 h) := kN k [(p0, (vS t0)), (p1, (vW t1)), (p2, (vW t2))] h
def S16_0 (D : CallD) (m : Nat) (t0 : LN) (t1 t2 : Int) (h : HP) : Res2 :=
 let t6 := AV.ptr (HP.nxQ h) 0
 let h1 := HP.newQ h (.cells true Zc)
 cal D 33 [(vS t0)] h1 fun t14 h2 =>
 asI .i64 t14 fun t14a =>
 let t16 := notQ (eqQ t14a (Int.ofNat 0))
 br t16 (
 cal D 11 [(vI t14a), (vW t1), (vW t2)] h2 fun t21 h3 =>
 extC t21 0 fun vt22 => asI .u32 vt22 fun t22 =>
 extC t21 1 fun vt23 => asI .i64 vt23 fun t23 =>
 let t25 := (AV.agg [(vI (Int.ofNat 1)), (vW t22), (AV.int .u64 (Int.ofNat 0)), (vS ([] : LN)), (vI (Int.ofNat 0))])
 stsC 5 t6 t25 h3 fun h4 =>
 cellsC 5 t6 h4 fun t6a =>
 some (.ret (.tup [t6a, (vI t23)]) h4, .no)) (
 cal D 34 [(vW t1)] h2 fun t28 h5 =>
 asI .i64 t28 fun t28a =>
 cal D 34 [(vW t2)] h5 fun t30 h6 =>
 asI .i64 t30 fun t30a =>
 let t33 := eqL t0 ([61, 61] : LN)
 br t33 (
 let t36 := eqQ t28a t30a
 cal D 21 [(vB t36)] h6 fun t37 h7 =>
 stsC 5 t6 t37 h7 fun h8 =>
 cellsC 5 t6 h8 fun t6a =>
 some (.ret (.tup [t6a, (vI (Int.ofNat 0))]) h8, .no)) (
 let t39 := eqL t0 ([33, 61] : LN)
 br t39 (
 let t42 := notQ (eqQ t28a t30a)
 cal D 21 [(vB t42)] h6 fun t43 h9 =>
 stsC 5 t6 t43 h9 fun h10 =>
 cellsC 5 t6 h10 fun t6a =>
 some (.ret (.tup [t6a, (vI (Int.ofNat 0))]) h10, .no)) (
 let t45 := eqL t0 ([60] : LN)
 br t45 (
 let t48 := ltQ t28a t30a
 cal D 21 [(vB t48)] h6 fun t49 h11 =>
 stsC 5 t6 t49 h11 fun h12 =>
 cellsC 5 t6 h12 fun t6a =>
 some (.ret (.tup [t6a, (vI (Int.ofNat 0))]) h12, .no)) (
 let t51 := eqL t0 ([60, 61] : LN)
 br t51 (
 let t54 := leQ t28a t30a
 cal D 21 [(vB t54)] h6 fun t55 h13 =>
 stsC 5 t6 t55 h13 fun h14 =>
 cellsC 5 t6 h14 fun t6a =>
 some (.ret (.tup [t6a, (vI (Int.ofNat 0))]) h14, .no)) (
 let t57 := eqL t0 ([62] : LN)
 br t57 (
 let t60 := ltQ t30a t28a
 cal D 21 [(vB t60)] h6 fun t61 h15 =>
 stsC 5 t6 t61 h15 fun h16 =>
 cellsC 5 t6 h16 fun t6a =>
 some (.ret (.tup [t6a, (vI (Int.ofNat 0))]) h16, .no)) (
 let t63 := eqL t0 ([62, 61] : LN)
 br t63 (
 let t66 := leQ t30a t28a
 cal D 21 [(vB t66)] h6 fun t67 h17 =>
 stsC 5 t6 t67 h17 fun h18 =>
 cellsC 5 t6 h18 fun t6a =>
 some (.ret (.tup [t6a, (vI (Int.ofNat 0))]) h18, .no)) (
 let t69 := eqL t0 ([38, 38] : LN)
 br t69 (
 let t71 := notQ (eqQ t28a (Int.ofNat 0))
 obB (brV t71 (
 let t74 := notQ (eqQ t30a (Int.ofNat 0))
 some (vB t74)) (
 some (vB false))) fun t75 =>
 cal D 21 [(vB t75)] h6 fun t76 h19 =>
 stsC 5 t6 t76 h19 fun h20 =>
 cellsC 5 t6 h20 fun t6a =>
 some (.ret (.tup [t6a, (vI (Int.ofNat 0))]) h20, .no)) (
 let t78 := eqL t0 ([124, 124] : LN)
 br t78 (
 let t80 := notQ (eqQ t28a (Int.ofNat 0))
 obB (brV t80 (
 some (vB true)) (
 let t83 := notQ (eqQ t30a (Int.ofNat 0))
 some (vB t83))) fun t84 =>
 cal D 21 [(vB t84)] h6 fun t85 h21 =>
 stsC 5 t6 t85 h21 fun h22 =>
 cellsC 5 t6 h22 fun t6a =>
 some (.ret (.tup [t6a, (vI (Int.ofNat 0))]) h22, .no)) (
 let t86 := (AV.agg [(vI (Int.ofNat 0)), (vW (Int.ofNat 0)), (AV.int .u64 (Int.ofNat 0)), (vS ([] : LN)), (vI (Int.ofNat 0))])
 stsC 5 t6 t86 h6 fun h23 =>
 cellsC 5 t6 h23 fun t6a =>
 some (.ret (.tup [t6a, (vI (Int.ofNat 15))]) h23, .no))))))))))
def S16 : SFn := fun D m args h u => nou u <| popS args fun t0 args => popI .u32 args fun t1 args => popI .u32 args fun t2 args => endA args (S16_0 D m t0 t1 t2 h)
theorem T16_0 (hE : FX x16 D m E) : S16_0 D m = e16_0 (E c16_e []) := by unfold S16_0; rw [hE c16_e]; kernel_rfl
theorem X16 : XTie S16 x16 := X_of fun D m E hE args h u => by unfold S16; rw [T16_0 hE]; kernel_rfl
/- 17 -/
def v17_0 : List Pos := [p0, p1, p2, p6]
def c17_0 : XC := (.sO [.al p36 (.mkmap), .o ⟨none, (.e (.mset .str q36 (.c (.str [61, 61])) (ci 51))), none, []⟩ .v, .o ⟨none, (.e (.mset .str q36 (.c (.str [33, 61])) (ci 51))), none, []⟩ .v, .o ⟨none, (.e (.mset .str q36 (.c (.str [60])) (ci 52))), none, []⟩ .v, .o ⟨none, (.e (.mset .str q36 (.c (.str [62])) (ci 52))), none, []⟩ .v, .o ⟨none, (.e (.mset .str q36 (.c (.str [60, 61])) (ci 53))), none, []⟩ .v, .o ⟨none, (.e (.mset .str q36 (.c (.str [62, 61])) (ci 53))), none, []⟩ .v, .mv p37 q36 .v, .mv p38 q0 .s, .L p39 (.look .str (kI 0) false q37 q38) tI, .mv p11 q39 tI] (.sO [.mv p41 q11 tI, .mv p42 q1 (.i .u64), .mv p43 q2 (.i .u64), .cl p44 36 [q41, q42, q43] .v, .mv p40 q44 .v, .P p45 (.ext q40 0) tW, .P p46 (.ext q40 1) tI, .mv p12 q45 tW, .mv p13 q46 tI] (.seq (.seq (.oX [.mv p47 q13 tI, .bn p48 .neq q47 (ci 0) .b]) (.cond q48 (.seq (.oX [.P p49 (.build Zc []) .v, .ss 5 q6 q49, .mv p7 (ci 15) tI]) .ret) .skip)) (.sO [.mv p50 q12 tW, .bn p51 .eql q50 (.c (.int .u32 (.ofNat 1))) .b, .mv p52 q0 .s, .bn p53 .eql q52 (.c (.str [33, 61])) .b, .P p54 (.eqb true q51 q53) .b, .cl p55 21 [q54] .v, .ss 5 q6 q55, .mv p7 (ci 0) tI] (.s .ret)))))
def v17_1 : List Pos := [p0, p1, p2, p6, p31]
def c17_1 : XC := (.cond q31 (.s (.oX [.mv p34 q2 (.i .u64), .mv p35 q1 (.i .u64), .mv p1 q34 (.i .u64), .mv p2 q35 (.i .u64)])) (.s .skip))
def c17_e : XC := (.sO [.al p6 (.new Zc), .mv p7 (ci 0) tI] (.seq (.seq (.oX [.al p14 (.mkmap), .o ⟨none, (.e (.mset .str q14 (.c (.str [43])) (ci 45))), none, []⟩ .v, .o ⟨none, (.e (.mset .str q14 (.c (.str [45])) (ci 46))), none, []⟩ .v, .o ⟨none, (.e (.mset .str q14 (.c (.str [42])) (ci 47))), none, []⟩ .v, .o ⟨none, (.e (.mset .str q14 (.c (.str [47])) (ci 48))), none, []⟩ .v, .mv p15 q14 .v, .mv p16 q0 .s, .L p17 (.look .str (kI 0) false q15 q16) tI, .mv p8 q17 tI]) (.seq (.oX [.mv p18 q8 tI, .bn p19 .neq q18 (ci 0) .b]) (.cond q19 (.seq (.oX [.mv p21 q8 tI, .mv p22 q1 (.i .u64), .mv p23 q2 (.i .u64), .cl p24 35 [q21, q22, q23] .v, .mv p20 q24 .v, .P p25 (.ext q20 0) (.i .u64), .P p26 (.ext q20 1) tI, .mv p9 q25 (.i .u64), .mv p10 q26 tI]) (.seq (.oX [.mv p27 q9 (.i .u64), .P p28 (.build Zc [⟨0, 1, (ci 2)⟩, ⟨2, 1, q27⟩]) .v, .mv p29 q10 tI, .ss 5 q6 q28, .mv p7 q29 tI]) .ret)) .skip))) (.sj v17_0 (.sO [.mv p30 q0 .s] (.block 0 (.sj v17_1 (.sO [.bn p32 .eql q30 (.c (.str [62])) .b, .mv p31 q32 .b] (.cond q31 (.s .skip) (.s (.oX [.bn p33 .eql q30 (.c (.str [62, 61])) .b, .mv p31 q33 .b])))) c17_1))) c17_0)))
def x17 : XFn := ⟨[.s, (.i .u64), (.i .u64)], false, [(.cells 5 p6), (.tmp p7)], c17_e⟩
def e17_0 (k t0 t1 t2 t6 h) := kN k [(p0, (vS t0)), (p1, (AV.int .u64 t1)), (p2, (AV.int .u64 t2)), (p6, t6)] h
def S17_0 (D : CallD) (m : Nat) (t0 : LN) (t1 t2 : Int) (t6 : AV) (h : HP) : Res2 :=
 let t36 := AV.map (HP.nxQ h)
 let h11 := HP.newQ h (.map [] 0)
 eff (.mset .str (.c t36) (.c (vS ([61, 61] : LN))) (.c (vI (Int.ofNat 51)))) h11 fun t0a h12 =>
 eff (.mset .str (.c t36) (.c (vS ([33, 61] : LN))) (.c (vI (Int.ofNat 51)))) h12 fun t0aa h13 =>
 eff (.mset .str (.c t36) (.c (vS ([60] : LN))) (.c (vI (Int.ofNat 52)))) h13 fun t0aaa h14 =>
 eff (.mset .str (.c t36) (.c (vS ([62] : LN))) (.c (vI (Int.ofNat 52)))) h14 fun t0aaaa h15 =>
 eff (.mset .str (.c t36) (.c (vS ([60, 61] : LN))) (.c (vI (Int.ofNat 53)))) h15 fun t0aaaaa h16 =>
 eff (.mset .str (.c t36) (.c (vS ([62, 61] : LN))) (.c (vI (Int.ofNat 53)))) h16 fun t0aaaaaa h17 =>
 obI .i64 (evL (.look .str (kI 0) false (.c t36) (.c (vS t0))) .leaf h17) fun t39 =>
 cal D 36 [(vI t39), (AV.int .u64 t1), (AV.int .u64 t2)] h17 fun t44 h18 =>
 extC t44 0 fun vt45 => asI .u32 vt45 fun t45 =>
 extC t44 1 fun vt46 => asI .i64 vt46 fun t46 =>
 let t48 := notQ (eqQ t46 (Int.ofNat 0))
 br t48 (
 let t49 := (AV.agg [(vI (Int.ofNat 0)), (vW (Int.ofNat 0)), (AV.int .u64 (Int.ofNat 0)), (vS ([] : LN)), (vI (Int.ofNat 0))])
 stsC 5 t6 t49 h18 fun h19 =>
 cellsC 5 t6 h19 fun t6a =>
 some (.ret (.tup [t6a, (vI (Int.ofNat 15))]) h19, .no)) (
 binC .eql (vW t45) (vW (Int.ofNat 1)) fun vt51 => asB vt51 fun t51 =>
 let t53 := eqL t0 ([33, 61] : LN)
 let t54 := ((t51 == t53) != true)
 cal D 21 [(vB t54)] h18 fun t55 h20 =>
 stsC 5 t6 t55 h20 fun h21 =>
 cellsC 5 t6 h21 fun t6a =>
 some (.ret (.tup [t6a, (vI (Int.ofNat 0))]) h21, .no))
def e17_1 (k t0 t1 t2 t6 t31 h) := kN k [(p0, (vS t0)), (p1, (AV.int .u64 t1)), (p2, (AV.int .u64 t2)), (p6, t6), (p31, (vB t31))] h
def S17_1 (D : CallD) (m : Nat) (t0 : LN) (t1 t2 : Int) (t6 : AV) (t31 : Bool) (h : HP) : Res2 :=
 br t31 (
 S17_0 D m t0 t2 t1 t6 h) (
 S17_0 D m t0 t1 t2 t6 h)
def e17_2 (k t0 t1 t2 h) := kN k [(p0, (vS t0)), (p1, (AV.int .u64 t1)), (p2, (AV.int .u64 t2))] h
def S17_2 (D : CallD) (m : Nat) (t0 : LN) (t1 t2 : Int) (h : HP) : Res2 :=
 let t6 := AV.ptr (HP.nxQ h) 0
 let h3 := HP.newQ h (.cells true Zc)
 let t14 := AV.map (HP.nxQ h3)
 let h4 := HP.newQ h3 (.map [] 0)
 eff (.mset .str (.c t14) (.c (vS ([43] : LN))) (.c (vI (Int.ofNat 45)))) h4 fun t0a h5 =>
 eff (.mset .str (.c t14) (.c (vS ([45] : LN))) (.c (vI (Int.ofNat 46)))) h5 fun t0aa h6 =>
 eff (.mset .str (.c t14) (.c (vS ([42] : LN))) (.c (vI (Int.ofNat 47)))) h6 fun t0aaa h7 =>
 eff (.mset .str (.c t14) (.c (vS ([47] : LN))) (.c (vI (Int.ofNat 48)))) h7 fun t0aaaa h8 =>
 obI .i64 (evL (.look .str (kI 0) false (.c t14) (.c (vS t0))) .leaf h8) fun t17 =>
 let t19 := notQ (eqQ t17 (Int.ofNat 0))
 br t19 (
 cal D 35 [(vI t17), (AV.int .u64 t1), (AV.int .u64 t2)] h8 fun t24 h9 =>
 extC t24 0 fun vt25 => asI .u64 vt25 fun t25 =>
 extC t24 1 fun vt26 => asI .i64 vt26 fun t26 =>
 let t28 := (AV.agg [(vI (Int.ofNat 2)), (vW (Int.ofNat 0)), (AV.int .u64 t25), (vS ([] : LN)), (vI (Int.ofNat 0))])
 stsC 5 t6 t28 h9 fun h10 =>
 cellsC 5 t6 h10 fun t6a =>
 some (.ret (.tup [t6a, (vI t26)]) h10, .no)) (
 let t32 := eqL t0 ([62] : LN)
 br t32 (
 S17_1 D m t0 t1 t2 t6 t32 h8) (
 let t33 := eqL t0 ([62, 61] : LN)
 S17_1 D m t0 t1 t2 t6 t33 h8))
def S17 : SFn := fun D m args h u => nou u <| popS args fun t0 args => popI .u64 args fun t1 args => popI .u64 args fun t2 args => endA args (S17_2 D m t0 t1 t2 h)
theorem T17_0 (hE : FX x17 D m E) : S17_0 D m = e17_0 (E c17_0 []) := by unfold S17_0; rw [hE c17_0]; kernel_rfl
theorem T17_1 (hE : FX x17 D m E) : S17_1 D m = e17_1 (E c17_1 [.blk 0, .sj v17_0 c17_0]) := by unfold S17_1; rw [T17_0 hE, hE c17_1]; kernel_rfl
theorem T17_2 (hE : FX x17 D m E) : S17_2 D m = e17_2 (E c17_e []) := by unfold S17_2; rw [T17_1 hE, hE c17_e]; kernel_rfl
theorem X17 : XTie S17 x17 := X_of fun D m E hE args h u => by unfold S17; rw [T17_2 hE]; kernel_rfl
/- 18 -/
def c18_e : XC := (.sO [.al p6 (.new Zc), .mv p7 (cb false) .b] (.sO [.mv p10 q1 tW, .cl p11 37 [q10] tI, .mv p12 q2 tW, .cl p13 37 [q12] tI, .mv p8 q11 tI, .mv p9 q13 tI] (.seq (.seq (.oX [.mv p14 q0 .s]) (.block 0 (.seq (.oX [.bn p16 .eql q14 (.c (.str [43])) .b, .mv p15 q16 .b]) (.cond q15 (.seq (.oX [.mv p17 q1 tW, .mv p18 q2 tW, .cl p19 23 [(ci 1), q17, q18] .v, .ss 5 q6 q19, .mv p7 (cb true) .b]) .ret) (.seq (.oX [.bn p21 .eql q14 (.c (.str [45])) .b, .mv p20 q21 .b]) (.cond q20 (.seq (.oX [.mv p22 q1 tW, .mv p23 q2 tW, .cl p24 23 [(ci 2), q22, q23] .v, .ss 5 q6 q24, .mv p7 (cb true) .b]) .ret) (.seq (.oX [.bn p26 .eql q14 (.c (.str [42])) .b, .mv p25 q26 .b]) (.cond q25 (.seq (.oX [.mv p27 q1 tW, .mv p28 q2 tW, .cl p29 23 [(ci 11), q27, q28] .v, .ss 5 q6 q29, .mv p7 (cb true) .b]) .ret) (.seq (.oX [.bn p31 .eql q14 (.c (.str [47])) .b, .mv p30 q31 .b]) (.cond q30 (.seq (.oX [.mv p32 q1 tW, .mv p33 q2 tW, .cl p34 23 [(ci 14), q32, q33] .v, .ss 5 q6 q34, .mv p7 (cb true) .b]) .ret) (.seq (.oX [.bn p36 .eql q14 (.c (.str [37])) .b, .mv p35 q36 .b]) (.cond q35 (.seq (.oX [.mv p37 q1 tW, .mv p38 q2 tW, .cl p39 23 [(ci 16), q37, q38] .v, .ss 5 q6 q39, .mv p7 (cb true) .b]) .ret) (.seq (.oX [.bn p41 .eql q14 (.c (.str [60, 60])) .b, .mv p40 q41 .b]) (.cond q40 (.seq (.oX [.mv p42 q1 tW, .mv p43 q2 tW, .cl p44 23 [(ci 3), q42, q43] .v, .ss 5 q6 q44, .mv p7 (cb true) .b]) .ret) (.seq (.oX [.bn p46 .eql q14 (.c (.str [62, 62])) .b, .mv p45 q46 .b]) (.cond q45 (.seq (.oX [.mv p47 q1 tW, .mv p48 q2 tW, .cl p49 23 [(ci 8), q47, q48] .v, .ss 5 q6 q49, .mv p7 (cb true) .b]) .ret) (.seq (.oX [.bn p51 .eql q14 (.c (.str [38])) .b, .mv p50 q51 .b]) (.cond q50 (.seq (.oX [.mv p52 q1 tW, .mv p53 q2 tW, .cl p54 23 [(ci 10), q52, q53] .v, .ss 5 q6 q54, .mv p7 (cb true) .b]) .ret) (.seq (.oX [.bn p56 .eql q14 (.c (.str [94])) .b, .mv p55 q56 .b]) (.cond q55 (.seq (.oX [.mv p57 q1 tW, .mv p58 q2 tW, .cl p59 23 [(ci 6), q57, q58] .v, .ss 5 q6 q59, .mv p7 (cb true) .b]) .ret) (.seq (.oX [.bn p61 .eql q14 (.c (.str [124])) .b, .mv p60 q61 .b]) (.cond q60 (.seq (.oX [.mv p62 q1 tW, .mv p63 q2 tW, .cl p64 23 [(ci 9), q62, q63] .v, .ss 5 q6 q64, .mv p7 (cb true) .b]) .ret) (.seq (.oX [.bn p66 .eql q14 (.c (.str [61, 61])) .b, .mv p65 q66 .b]) (.cond q65 (.seq (.oX [.mv p67 q8 tI, .mv p68 q9 tI, .bn p69 .eql q67 q68 .b, .cl p70 24 [q69] .v, .ss 5 q6 q70, .mv p7 (cb true) .b]) .ret) (.seq (.oX [.bn p72 .eql q14 (.c (.str [33, 61])) .b, .mv p71 q72 .b]) (.cond q71 (.seq (.oX [.mv p73 q8 tI, .mv p74 q9 tI, .bn p75 .neq q73 q74 .b, .cl p76 24 [q75] .v, .ss 5 q6 q76, .mv p7 (cb true) .b]) .ret) (.seq (.oX [.bn p78 .eql q14 (.c (.str [60])) .b, .mv p77 q78 .b]) (.cond q77 (.seq (.oX [.mv p79 q8 tI, .mv p80 q9 tI, .bn p81 .lss q79 q80 .b, .cl p82 24 [q81] .v, .ss 5 q6 q82, .mv p7 (cb true) .b]) .ret) (.seq (.oX [.bn p84 .eql q14 (.c (.str [60, 61])) .b, .mv p83 q84 .b]) (.cond q83 (.seq (.oX [.mv p85 q8 tI, .mv p86 q9 tI, .bn p87 .leq q85 q86 .b, .cl p88 24 [q87] .v, .ss 5 q6 q88, .mv p7 (cb true) .b]) .ret) (.seq (.oX [.bn p90 .eql q14 (.c (.str [62])) .b, .mv p89 q90 .b]) (.cond q89 (.seq (.oX [.mv p91 q8 tI, .mv p92 q9 tI, .bn p93 .gtr q91 q92 .b, .cl p94 24 [q93] .v, .ss 5 q6 q94, .mv p7 (cb true) .b]) .ret) (.seq (.oX [.bn p96 .eql q14 (.c (.str [62, 61])) .b, .mv p95 q96 .b]) (.cond q95 (.seq (.oX [.mv p97 q8 tI, .mv p98 q9 tI, .bn p99 .geq q97 q98 .b, .cl p100 24 [q99] .v, .ss 5 q6 q100, .mv p7 (cb true) .b]) .ret) (.seq (.oX [.bn p102 .eql q14 (.c (.str [38, 38])) .b, .mv p101 q102 .b]) (.cond q101 (.seq (.oX [.mv p103 q1 tW, .bn p104 .neq q103 (.c Z32) .b, .mv p105 q104 .b, .ge p105 (XL.of [.G p105 true p106 (.mov q2) tW, .G p105 true p107 (.bin .neq q106 (.c Z32)) .b, .P p108 (.pick q105 q107 (cb false)) .b]) p108 .b, .cl p109 24 [q108] .v, .ss 5 q6 q109, .mv p7 (cb true) .b]) .ret) (.seq (.oX [.bn p111 .eql q14 (.c (.str [124, 124])) .b, .mv p110 q111 .b]) (.cond q110 (.seq (.oX [.mv p112 q1 tW, .bn p113 .neq q112 (.c Z32) .b, .mv p114 q113 .b, .ge p114 (XL.of [.G p114 false p115 (.mov q2) tW, .G p114 false p116 (.bin .neq q115 (.c Z32)) .b, .P p117 (.pick q114 (cb true) q116) .b]) p117 .b, .cl p118 24 [q117] .v, .ss 5 q6 q118, .mv p7 (cb true) .b]) .ret) .skip)))))))))))))))))))))))))))))))))))))) (.sO [.P p119 (.build Zc []) .v, .ss 5 q6 q119, .mv p7 (cb false) .b] (.s .ret)))))
def x18 : XFn := ⟨[.s, tW, tW], false, [(.cells 5 p6), (.tmp p7)], c18_e⟩
def e18_0 (k t0 t1 t2 h) := kN k [(p0, (vS t0)), (p1, (vW t1)), (p2, (vW t2))] h
def S18_0 (D : CallD) (m : Nat) (t0 : LN) (t1 t2 : Int) (h : HP) : Res2 :=
 let t6 := AV.ptr (HP.nxQ h) 0
 let h1 := HP.newQ h (.cells true Zc)
 cal D 37 [(vW t1)] h1 fun t11 h2 =>
 asI .i64 t11 fun t11a =>
 cal D 37 [(vW t2)] h2 fun t13 h3 =>
 asI .i64 t13 fun t13a =>
 let t16 := eqL t0 ([43] : LN)
 br t16 (
 cal D 23 [(vI (Int.ofNat 1)), (vW t1), (vW t2)] h3 fun t19 h4 =>
 stsC 5 t6 t19 h4 fun h5 =>
 cellsC 5 t6 h5 fun t6a =>
 some (.ret (.tup [t6a, (vB true)]) h5, .no)) (
 let t21 := eqL t0 ([45] : LN)
 br t21 (
 cal D 23 [(vI (Int.ofNat 2)), (vW t1), (vW t2)] h3 fun t24 h6 =>
 stsC 5 t6 t24 h6 fun h7 =>
 cellsC 5 t6 h7 fun t6a =>
 some (.ret (.tup [t6a, (vB true)]) h7, .no)) (
 let t26 := eqL t0 ([42] : LN)
 br t26 (
 cal D 23 [(vI (Int.ofNat 11)), (vW t1), (vW t2)] h3 fun t29 h8 =>
 stsC 5 t6 t29 h8 fun h9 =>
 cellsC 5 t6 h9 fun t6a =>
 some (.ret (.tup [t6a, (vB true)]) h9, .no)) (
 let t31 := eqL t0 ([47] : LN)
 br t31 (
 cal D 23 [(vI (Int.ofNat 14)), (vW t1), (vW t2)] h3 fun t34 h10 =>
 stsC 5 t6 t34 h10 fun h11 =>
 cellsC 5 t6 h11 fun t6a =>
 some (.ret (.tup [t6a, (vB true)]) h11, .no)) (
 let t36 := eqL t0 ([37] : LN)
 br t36 (
 cal D 23 [(vI (Int.ofNat 16)), (vW t1), (vW t2)] h3 fun t39 h12 =>
 stsC 5 t6 t39 h12 fun h13 =>
 cellsC 5 t6 h13 fun t6a =>
 some (.ret (.tup [t6a, (vB true)]) h13, .no)) (
 let t41 := eqL t0 ([60, 60] : LN)
 br t41 (
 cal D 23 [(vI (Int.ofNat 3)), (vW t1), (vW t2)] h3 fun t44 h14 =>
 stsC 5 t6 t44 h14 fun h15 =>
 cellsC 5 t6 h15 fun t6a =>
 some (.ret (.tup [t6a, (vB true)]) h15, .no)) (
 let t46 := eqL t0 ([62, 62] : LN)
 br t46 (
 cal D 23 [(vI (Int.ofNat 8)), (vW t1), (vW t2)] h3 fun t49 h16 =>
 stsC 5 t6 t49 h16 fun h17 =>
 cellsC 5 t6 h17 fun t6a =>
 some (.ret (.tup [t6a, (vB true)]) h17, .no)) (
 let t51 := eqL t0 ([38] : LN)
 br t51 (
 cal D 23 [(vI (Int.ofNat 10)), (vW t1), (vW t2)] h3 fun t54 h18 =>
 stsC 5 t6 t54 h18 fun h19 =>
 cellsC 5 t6 h19 fun t6a =>
 some (.ret (.tup [t6a, (vB true)]) h19, .no)) (
 let t56 := eqL t0 ([94] : LN)
 br t56 (
 cal D 23 [(vI (Int.ofNat 6)), (vW t1), (vW t2)] h3 fun t59 h20 =>
 stsC 5 t6 t59 h20 fun h21 =>
 cellsC 5 t6 h21 fun t6a =>
 some (.ret (.tup [t6a, (vB true)]) h21, .no)) (
 let t61 := eqL t0 ([124] : LN)
 br t61 (
 cal D 23 [(vI (Int.ofNat 9)), (vW t1), (vW t2)] h3 fun t64 h22 =>
 stsC 5 t6 t64 h22 fun h23 =>
 cellsC 5 t6 h23 fun t6a =>
 some (.ret (.tup [t6a, (vB true)]) h23, .no)) (
 let t66 := eqL t0 ([61, 61] : LN)
 br t66 (
 let t69 := eqQ t11a t13a
 cal D 24 [(vB t69)] h3 fun t70 h24 =>
 stsC 5 t6 t70 h24 fun h25 =>
 cellsC 5 t6 h25 fun t6a =>
 some (.ret (.tup [t6a, (vB true)]) h25, .no)) (
 let t72 := eqL t0 ([33, 61] : LN)
 br t72 (
 let t75 := notQ (eqQ t11a t13a)
 cal D 24 [(vB t75)] h3 fun t76 h26 =>
 stsC 5 t6 t76 h26 fun h27 =>
 cellsC 5 t6 h27 fun t6a =>
 some (.ret (.tup [t6a, (vB true)]) h27, .no)) (
 let t78 := eqL t0 ([60] : LN)
 br t78 (
 let t81 := ltQ t11a t13a
 cal D 24 [(vB t81)] h3 fun t82 h28 =>
 stsC 5 t6 t82 h28 fun h29 =>
 cellsC 5 t6 h29 fun t6a =>
 some (.ret (.tup [t6a, (vB true)]) h29, .no)) (
 let t84 := eqL t0 ([60, 61] : LN)
 br t84 (
 let t87 := leQ t11a t13a
 cal D 24 [(vB t87)] h3 fun t88 h30 =>
 stsC 5 t6 t88 h30 fun h31 =>
 cellsC 5 t6 h31 fun t6a =>
 some (.ret (.tup [t6a, (vB true)]) h31, .no)) (
 let t90 := eqL t0 ([62] : LN)
 br t90 (
 let t93 := ltQ t13a t11a
 cal D 24 [(vB t93)] h3 fun t94 h32 =>
 stsC 5 t6 t94 h32 fun h33 =>
 cellsC 5 t6 h33 fun t6a =>
 some (.ret (.tup [t6a, (vB true)]) h33, .no)) (
 let t96 := eqL t0 ([62, 61] : LN)
 br t96 (
 let t99 := leQ t13a t11a
 cal D 24 [(vB t99)] h3 fun t100 h34 =>
 stsC 5 t6 t100 h34 fun h35 =>
 cellsC 5 t6 h35 fun t6a =>
 some (.ret (.tup [t6a, (vB true)]) h35, .no)) (
 let t102 := eqL t0 ([38, 38] : LN)
 br t102 (
 binC .neq (vW t1) (vW (Int.ofNat 0)) fun vt104 => asB vt104 fun t104 =>
 obB (brV t104 (
 binCV .neq (vW t2) (vW (Int.ofNat 0)) fun vt107 => asBV vt107 fun t107 =>
 some (vB t107)) (
 some (vB false))) fun t108 =>
 cal D 24 [(vB t108)] h3 fun t109 h36 =>
 stsC 5 t6 t109 h36 fun h37 =>
 cellsC 5 t6 h37 fun t6a =>
 some (.ret (.tup [t6a, (vB true)]) h37, .no)) (
 let t111 := eqL t0 ([124, 124] : LN)
 br t111 (
 binC .neq (vW t1) (vW (Int.ofNat 0)) fun vt113 => asB vt113 fun t113 =>
 obB (brV t113 (
 some (vB true)) (
 binCV .neq (vW t2) (vW (Int.ofNat 0)) fun vt116 => asBV vt116 fun t116 =>
 some (vB t116))) fun t117 =>
 cal D 24 [(vB t117)] h3 fun t118 h38 =>
 stsC 5 t6 t118 h38 fun h39 =>
 cellsC 5 t6 h39 fun t6a =>
 some (.ret (.tup [t6a, (vB true)]) h39, .no)) (
 let t119 := (AV.agg [(vI (Int.ofNat 0)), (vW (Int.ofNat 0)), (AV.int .u64 (Int.ofNat 0)), (vS ([] : LN)), (vI (Int.ofNat 0))])
 stsC 5 t6 t119 h3 fun h40 =>
 cellsC 5 t6 h40 fun t6a =>
 some (.ret (.tup [t6a, (vB false)]) h40, .no)))))))))))))))))))
def S18 : SFn := fun D m args h u => nou u <| popS args fun t0 args => popI .u32 args fun t1 args => popI .u32 args fun t2 args => endA args (S18_0 D m t0 t1 t2 h)
theorem T18_0 (hE : FX x18 D m E) : S18_0 D m = e18_0 (E c18_e []) := by unfold S18_0; rw [hE c18_e]; kernel_rfl
theorem X18 : XTie S18 x18 := X_of fun D m E hE args h u => by unfold S18; rw [T18_0 hE]; kernel_rfl
/- 19 -/
def c19_e : XC := (.sO [.al p6 (.new Zc), .mv p7 (cb false) .b] (.seq (.seq (.oX [.mv p8 q0 .s]) (.block 0 (.seq (.oX [.bn p10 .eql q8 (.c (.str [43])) .b, .mv p9 q10 .b]) (.cond q9 (.seq (.oX [.mv p11 q1 (.i .u64), .mv p12 q2 (.i .u64), .cl p13 38 [(ci 45), q11, q12] .v, .ss 5 q6 q13, .mv p7 (cb true) .b]) .ret) (.seq (.oX [.bn p15 .eql q8 (.c (.str [45])) .b, .mv p14 q15 .b]) (.cond q14 (.seq (.oX [.mv p16 q1 (.i .u64), .mv p17 q2 (.i .u64), .cl p18 38 [(ci 46), q16, q17] .v, .ss 5 q6 q18, .mv p7 (cb true) .b]) .ret) (.seq (.oX [.bn p20 .eql q8 (.c (.str [42])) .b, .mv p19 q20 .b]) (.cond q19 (.seq (.oX [.mv p21 q1 (.i .u64), .mv p22 q2 (.i .u64), .cl p23 38 [(ci 47), q21, q22] .v, .ss 5 q6 q23, .mv p7 (cb true) .b]) .ret) (.seq (.oX [.bn p25 .eql q8 (.c (.str [47])) .b, .mv p24 q25 .b]) (.cond q24 (.seq (.oX [.mv p26 q1 (.i .u64), .mv p27 q2 (.i .u64), .cl p28 38 [(ci 48), q26, q27] .v, .ss 5 q6 q28, .mv p7 (cb true) .b]) .ret) (.seq (.oX [.bn p30 .eql q8 (.c (.str [61, 61])) .b, .mv p29 q30 .b]) (.cond q29 (.seq (.oX [.mv p31 q1 (.i .u64), .mv p32 q2 (.i .u64), .cl p33 39 [(ci 51), q31, q32] .v, .ss 5 q6 q33, .mv p7 (cb true) .b]) .ret) (.seq (.oX [.bn p35 .eql q8 (.c (.str [33, 61])) .b, .mv p34 q35 .b]) (.cond q34 (.seq (.oX [.mv p36 q1 (.i .u64), .mv p37 q2 (.i .u64), .cl p38 39 [(ci 51), q36, q37] .v, .P p39 (.field 1 1 false q38) tW, .bn p40 .eql q39 (.c Z32) .b, .cl p41 24 [q40] .v, .ss 5 q6 q41, .mv p7 (cb true) .b]) .ret) (.seq (.oX [.bn p43 .eql q8 (.c (.str [60])) .b, .mv p42 q43 .b]) (.cond q42 (.seq (.oX [.mv p44 q1 (.i .u64), .mv p45 q2 (.i .u64), .cl p46 39 [(ci 52), q44, q45] .v, .ss 5 q6 q46, .mv p7 (cb true) .b]) .ret) (.seq (.oX [.bn p48 .eql q8 (.c (.str [60, 61])) .b, .mv p47 q48 .b]) (.cond q47 (.seq (.oX [.mv p49 q1 (.i .u64), .mv p50 q2 (.i .u64), .cl p51 39 [(ci 53), q49, q50] .v, .ss 5 q6 q51, .mv p7 (cb true) .b]) .ret) (.seq (.oX [.bn p53 .eql q8 (.c (.str [62])) .b, .mv p52 q53 .b]) (.cond q52 (.seq (.oX [.mv p54 q2 (.i .u64), .mv p55 q1 (.i .u64), .cl p56 39 [(ci 52), q54, q55] .v, .ss 5 q6 q56, .mv p7 (cb true) .b]) .ret) (.seq (.oX [.bn p58 .eql q8 (.c (.str [62, 61])) .b, .mv p57 q58 .b]) (.cond q57 (.seq (.oX [.mv p59 q2 (.i .u64), .mv p60 q1 (.i .u64), .cl p61 39 [(ci 53), q59, q60] .v, .ss 5 q6 q61, .mv p7 (cb true) .b]) .ret) .skip)))))))))))))))))))))) (.sO [.P p62 (.build Zc []) .v, .ss 5 q6 q62, .mv p7 (cb false) .b] (.s .ret))))
def x19 : XFn := ⟨[.s, (.i .u64), (.i .u64)], false, [(.cells 5 p6), (.tmp p7)], c19_e⟩
def e19_0 (k t0 t1 t2 h) := kN k [(p0, (vS t0)), (p1, (AV.int .u64 t1)), (p2, (AV.int .u64 t2))] h
def S19_0 (D : CallD) (m : Nat) (t0 : LN) (t1 t2 : Int) (h : HP) : Res2 :=
 let t6 := AV.ptr (HP.nxQ h) 0
 let h1 := HP.newQ h (.cells true Zc)
 let t10 := eqL t0 ([43] : LN)
 br t10 (
 cal D 38 [(vI (Int.ofNat 45)), (AV.int .u64 t1), (AV.int .u64 t2)] h1 fun t13 h2 =>
 stsC 5 t6 t13 h2 fun h3 =>
 cellsC 5 t6 h3 fun t6a =>
 some (.ret (.tup [t6a, (vB true)]) h3, .no)) (
 let t15 := eqL t0 ([45] : LN)
 br t15 (
 cal D 38 [(vI (Int.ofNat 46)), (AV.int .u64 t1), (AV.int .u64 t2)] h1 fun t18 h4 =>
 stsC 5 t6 t18 h4 fun h5 =>
 cellsC 5 t6 h5 fun t6a =>
 some (.ret (.tup [t6a, (vB true)]) h5, .no)) (
 let t20 := eqL t0 ([42] : LN)
 br t20 (
 cal D 38 [(vI (Int.ofNat 47)), (AV.int .u64 t1), (AV.int .u64 t2)] h1 fun t23 h6 =>
 stsC 5 t6 t23 h6 fun h7 =>
 cellsC 5 t6 h7 fun t6a =>
 some (.ret (.tup [t6a, (vB true)]) h7, .no)) (
 let t25 := eqL t0 ([47] : LN)
 br t25 (
 cal D 38 [(vI (Int.ofNat 48)), (AV.int .u64 t1), (AV.int .u64 t2)] h1 fun t28 h8 =>
 stsC 5 t6 t28 h8 fun h9 =>
 cellsC 5 t6 h9 fun t6a =>
 some (.ret (.tup [t6a, (vB true)]) h9, .no)) (
 let t30 := eqL t0 ([61, 61] : LN)
 br t30 (
 cal D 39 [(vI (Int.ofNat 51)), (AV.int .u64 t1), (AV.int .u64 t2)] h1 fun t33 h10 =>
 stsC 5 t6 t33 h10 fun h11 =>
 cellsC 5 t6 h11 fun t6a =>
 some (.ret (.tup [t6a, (vB true)]) h11, .no)) (
 let t35 := eqL t0 ([33, 61] : LN)
 br t35 (
 cal D 39 [(vI (Int.ofNat 51)), (AV.int .u64 t1), (AV.int .u64 t2)] h1 fun t38 h12 =>
 fldC 1 1 false t38 fun vt39 => asI .u32 vt39 fun t39 =>
 binC .eql (vW t39) (vW (Int.ofNat 0)) fun vt40 => asB vt40 fun t40 =>
 cal D 24 [(vB t40)] h12 fun t41 h13 =>
 stsC 5 t6 t41 h13 fun h14 =>
 cellsC 5 t6 h14 fun t6a =>
 some (.ret (.tup [t6a, (vB true)]) h14, .no)) (
 let t43 := eqL t0 ([60] : LN)
 br t43 (
 cal D 39 [(vI (Int.ofNat 52)), (AV.int .u64 t1), (AV.int .u64 t2)] h1 fun t46 h15 =>
 stsC 5 t6 t46 h15 fun h16 =>
 cellsC 5 t6 h16 fun t6a =>
 some (.ret (.tup [t6a, (vB true)]) h16, .no)) (
 let t48 := eqL t0 ([60, 61] : LN)
 br t48 (
 cal D 39 [(vI (Int.ofNat 53)), (AV.int .u64 t1), (AV.int .u64 t2)] h1 fun t51 h17 =>
 stsC 5 t6 t51 h17 fun h18 =>
 cellsC 5 t6 h18 fun t6a =>
 some (.ret (.tup [t6a, (vB true)]) h18, .no)) (
 let t53 := eqL t0 ([62] : LN)
 br t53 (
 cal D 39 [(vI (Int.ofNat 52)), (AV.int .u64 t2), (AV.int .u64 t1)] h1 fun t56 h19 =>
 stsC 5 t6 t56 h19 fun h20 =>
 cellsC 5 t6 h20 fun t6a =>
 some (.ret (.tup [t6a, (vB true)]) h20, .no)) (
 let t58 := eqL t0 ([62, 61] : LN)
 br t58 (
 cal D 39 [(vI (Int.ofNat 53)), (AV.int .u64 t2), (AV.int .u64 t1)] h1 fun t61 h21 =>
 stsC 5 t6 t61 h21 fun h22 =>
 cellsC 5 t6 h22 fun t6a =>
 some (.ret (.tup [t6a, (vB true)]) h22, .no)) (
 let t62 := (AV.agg [(vI (Int.ofNat 0)), (vW (Int.ofNat 0)), (AV.int .u64 (Int.ofNat 0)), (vS ([] : LN)), (vI (Int.ofNat 0))])
 stsC 5 t6 t62 h1 fun h23 =>
 cellsC 5 t6 h23 fun t6a =>
 some (.ret (.tup [t6a, (vB false)]) h23, .no)))))))))))
def S19 : SFn := fun D m args h u => nou u <| popS args fun t0 args => popI .u64 args fun t1 args => popI .u64 args fun t2 args => endA args (S19_0 D m t0 t1 t2 h)
theorem T19_0 (hE : FX x19 D m E) : S19_0 D m = e19_0 (E c19_e []) := by unfold S19_0; rw [hE c19_e]; kernel_rfl
theorem X19 : XTie S19 x19 := X_of fun D m E hE args h u => by unfold S19; rw [T19_0 hE]; kernel_rfl
/- 20 -/
def c20_e : XC := (.sO [.mv p2 (.c Z64) (.i .u64)] (.sO [.mv p3 q0 (.i .u64), .cl p4 28 [q3] .v, .mv p5 q0 (.i .u64), .bn p6 .xor q5 (.c (.int .u64 (.ofNat 9223372036854775808))) (.i .u64), .cl p7 28 [q6] .v, .cl p8 40 [q4, q7] .v, .cl p9 27 [q8] (.i .u64), .mv p2 q9 (.i .u64)] (.s .ret)))
def x20 : XFn := ⟨[(.i .u64)], false, [(.tmp p2)], c20_e⟩
def e20_0 (k t0 h) := kN k [(p0, (AV.int .u64 t0))] h
def S20_0 (D : CallD) (m : Nat) (t0 : Int) (h : HP) : Res2 :=
 cal D 28 [(AV.int .u64 t0)] h fun t4 h1 =>
 obI .u64 (intBin .xor .u64 t0 (Int.ofNat 9223372036854775808)) fun t6 =>
 cal D 28 [(AV.int .u64 t6)] h1 fun t7 h2 =>
 cal D 40 [t4, t7] h2 fun t8 h3 =>
 cal D 27 [t8] h3 fun t9 h4 =>
 asI .u64 t9 fun t9a =>
 some (.ret (AV.int .u64 t9a) h4, .no)
def S20 : SFn := fun D m args h u => nou u <| popI .u64 args fun t0 args => endA args (S20_0 D m t0 h)
theorem T20_0 (hE : FX x20 D m E) : S20_0 D m = e20_0 (E c20_e []) := by unfold S20_0; rw [hE c20_e]; kernel_rfl
theorem X20 : XTie S20 x20 := X_of fun D m E hE args h u => by unfold S20; rw [T20_0 hE]; kernel_rfl
/- 21 -/
def x21 : XFn := ⟨[.b], false, [(.cells 5 p2)], (.sO [.al p2 (.new Zc)] (.seq (.seq (.oX [.mv p3 q0 .b]) (.cond q3 (.seq (.oX [.P p4 (.build Zc [⟨0, 1, (ci 1)⟩, ⟨1, 1, (.c (.int .u32 (.ofNat 1)))⟩]) .v, .ss 5 q2 q4]) .ret) .skip)) (.sO [.P p5 (.build Zc [⟨0, 1, (ci 1)⟩]) .v, .ss 5 q2 q5] (.s .ret))))⟩
def S21 : SFn := evFX x21
theorem X21 : XTie S21 x21 := fun _ _ _ _ _ => rfl
/- 22 -/
def c22_e : XC := (.sO [.mv p2 (.c Z64) (.i .u64)] (.seq (.seq (.oX [.mv p6 q0 (.i .u64), .cl p7 41 [q6] .b]) (.cond q7 (.seq (.oX [.mv p2 (.c (.int .u64 (.ofNat 9221120237041090560))) (.i .u64)]) .ret) .skip)) (.sO [.mv p9 q0 (.i .u64), .cl p10 42 [q9] .v, .mv p8 q10 .v, .P p11 (.ext q8 0) (.i .u64), .P p12 (.ext q8 1) (.i .u64), .P p13 (.ext q8 2) (.i .u64), .mv p3 q11 (.i .u64), .mv p4 q12 (.i .u64), .mv p5 q13 (.i .u64)] (.seq (.seq (.oX [.mv p14 q3 (.i .u64), .bn p15 .eql q14 (.c (.int .u64 (.ofNat 1))) .b]) (.cond q15 (.seq (.oX [.mv p16 q0 (.i .u64), .bn p17 .sub q16 (.c (.int .u64 (.ofNat 9223372036854775808))) (.i .u64), .mv p2 q17 (.i .u64)]) .ret) .skip)) (.sO [.mv p18 q0 (.i .u64), .bn p19 .add q18 (.c (.int .u64 (.ofNat 9223372036854775808))) (.i .u64), .mv p2 q19 (.i .u64)] (.s .ret))))))
def x22 : XFn := ⟨[(.i .u64)], false, [(.tmp p2)], c22_e⟩
def e22_0 (k t0 h) := kN k [(p0, (AV.int .u64 t0))] h
def S22_0 (D : CallD) (m : Nat) (t0 : Int) (h : HP) : Res2 :=
 cal D 41 [(AV.int .u64 t0)] h fun t7 h1 =>
 asB t7 fun t7a =>
 br t7a (
 some (.ret (AV.int .u64 (Int.ofNat 9221120237041090560)) h1, .no)) (
 cal D 42 [(AV.int .u64 t0)] h1 fun t10 h2 =>
 extC t10 0 fun vt11 => asI .u64 vt11 fun t11 =>
 extC t10 1 fun vt12 => asI .u64 vt12 fun t12 =>
 extC t10 2 fun vt13 => asI .u64 vt13 fun t13 =>
 let t15 := eqQ t11 (Int.ofNat 1)
 br t15 (
 let t17 := wrQ .u64 (t0 - (Int.ofNat 9223372036854775808))
 some (.ret (AV.int .u64 t17) h2, .no)) (
 let t19 := wrQ .u64 (addQ t0 (Int.ofNat 9223372036854775808))
 some (.ret (AV.int .u64 t19) h2, .no)))
def S22 : SFn := fun D m args h u => nou u <| popI .u64 args fun t0 args => endA args (S22_0 D m t0 h)
theorem T22_0 (hE : FX x22 D m E) : S22_0 D m = e22_0 (E c22_e []) := by unfold S22_0; rw [hE c22_e]; kernel_rfl
theorem X22 : XTie S22 x22 := X_of fun D m E hE args h u => by unfold S22; rw [T22_0 hE]; kernel_rfl
/- 23 -/
def x23 : XFn := ⟨[tI, tW, tW], false, [(.cells 5 p6)], (.sO [.al p6 (.new Zc)] (.sO [.mv p10 q0 tI, .mv p11 q1 tW, .mv p12 q2 tW, .cl p13 43 [q10, q11, q12] .v, .mv p9 q13 .v, .P p14 (.ext q9 0) tW, .P p15 (.ext q9 1) .b, .mv p7 q14 tW, .mv p8 q15 .b] (.sO [.mv p16 q7 tW, .P p17 (.build Zc [⟨0, 1, (ci 1)⟩, ⟨1, 1, q16⟩]) .v, .ss 5 q6 q17] (.s .ret))))⟩
def S23 : SFn := evFX x23
theorem X23 : XTie S23 x23 := fun _ _ _ _ _ => rfl
/- 24 -/
def x24 : XFn := ⟨[.b], false, [(.cells 5 p2)], (.sO [.al p2 (.new Zc)] (.seq (.seq (.oX [.mv p3 q0 .b]) (.cond q3 (.seq (.oX [.P p4 (.build Zc [⟨0, 1, (ci 1)⟩, ⟨1, 1, (.c (.int .u32 (.ofNat 1)))⟩]) .v, .ss 5 q2 q4]) .ret) .skip)) (.sO [.P p5 (.build Zc [⟨0, 1, (ci 1)⟩]) .v, .ss 5 q2 q5] (.s .ret))))⟩
def S24 : SFn := evFX x24
theorem X24 : XTie S24 x24 := fun _ _ _ _ _ => rfl
/- 25 -/
def x25 : XFn := ⟨[.b], false, [(.tmp p2)], (.sO [.mv p2 (.c Z32) tW] (.seq (.seq (.oX [.mv p3 q0 .b]) (.cond q3 (.seq (.oX [.mv p2 (.c (.int .u32 (.ofNat 1))) tW]) .ret) .skip)) (.sO [.mv p2 (.c Z32) tW] (.s .ret))))⟩
def S25 : SFn := evFX x25
theorem X25 : XTie S25 x25 := fun _ _ _ _ _ => rfl
/- 26 -/
def v26_0 : List Pos := [p0, p1, p2, p8, p9]
def c26_0 : XC := (.seq (.seq (.oX [.mv p48 q0 tI]) (.block 2 (.seq (.oX [.bn p50 .eql q48 (ci 14) .b, .mv p49 q50 .b]) (.cond q49 (.seq (.oX [.mv p51 q8 (.i .i32), .mv p52 q9 (.i .i32), .bn p53 .quo q51 q52 (.i .i32), .P p54 (.conv (.ii .u32) q53) tW, .mv p6 q54 tW, .mv p7 (ci 0) tI]) .ret) (.seq (.oX [.bn p56 .eql q48 (ci 15) .b, .mv p55 q56 .b]) (.cond q55 (.seq (.oX [.mv p57 q1 tW, .mv p58 q2 tW, .bn p59 .quo q57 q58 tW, .mv p6 q59 tW, .mv p7 (ci 0) tI]) .ret) (.seq (.oX [.bn p61 .eql q48 (ci 16) .b, .mv p60 q61 .b]) (.cond q60 (.seq (.oX [.mv p62 q8 (.i .i32), .mv p63 q9 (.i .i32), .bn p64 .rem q62 q63 (.i .i32), .P p65 (.conv (.ii .u32) q64) tW, .mv p6 q65 tW, .mv p7 (ci 0) tI]) .ret) (.seq (.oX [.bn p67 .eql q48 (ci 17) .b, .mv p66 q67 .b]) (.cond q66 (.seq (.oX [.mv p68 q1 tW, .mv p69 q2 tW, .bn p70 .rem q68 q69 tW, .mv p6 q70 tW, .mv p7 (ci 0) tI]) .ret) .skip)))))))))) (.sO [.mv p6 (.c Z32) tW, .mv p7 (ci 1) tI] (.s .ret)))
def v26_1 : List Pos := []
def c26_1 : XC := (.sO [.mv p6 (.c Z32) tW, .mv p7 (ci 1) tI] (.s .ret))
def v26_3 : List Pos := [p1, p44]
def c26_3 : XC := (.cond q44 (.sO [.mv p47 q1 tW, .mv p6 q47 tW, .mv p7 (ci 0) tI] (.s .ret)) (.s .skip))
def v26_2 : List Pos := [p1, p40, p41]
def c26_2 : XC := (.cond q41 (.sO [.mv p6 (.c (.int .u32 (.ofNat 4294967295))) tW, .mv p7 (ci 0) tI] (.s .ret)) (.sj v26_3 (.sO [.bn p45 .eql q40 (ci 16) .b, .mv p44 q45 .b] (.cond q44 (.s .skip) (.s (.oX [.bn p46 .eql q40 (ci 17) .b, .mv p44 q46 .b])))) c26_3))
def c26_e : XC := (.sO [.mv p6 (.c Z32) tW, .mv p7 (ci 0) tI] (.sO [.mv p12 q1 tW, .P p13 (.conv (.ii .i32) q12) (.i .i32), .mv p14 q2 tW, .P p15 (.conv (.ii .i32) q14) (.i .i32), .mv p8 q13 (.i .i32), .mv p9 q15 (.i .i32)] (.sO [.mv p17 q1 tW, .mv p18 q2 tW, .cl p19 44 [q17, q18] .v, .mv p16 q19 .v, .P p20 (.ext q16 0) tW, .P p21 (.ext q16 1) tW, .mv p10 q20 tW, .mv p11 q21 tW] (.seq (.seq (.oX [.mv p22 q0 tI]) (.block 0 (.seq (.oX [.bn p24 .eql q22 (ci 11) .b, .mv p23 q24 .b]) (.cond q23 (.seq (.oX [.mv p25 q11 tW, .mv p6 q25 tW, .mv p7 (ci 0) tI]) .ret) (.seq (.oX [.bn p27 .eql q22 (ci 12) .b, .mv p26 q27 .b]) (.cond q26 (.seq (.oX [.mv p28 q8 (.i .i32), .P p29 (.conv (.ii .i64) q28) tI, .mv p30 q9 (.i .i32), .P p31 (.conv (.ii .i64) q30) tI, .bn p32 .mul q29 q31 tI, .bn p33 .shr q32 (.c (.int .u64 (.ofNat 32))) tI, .P p34 (.conv (.ii .u32) q33) tW, .mv p6 q34 tW, .mv p7 (ci 0) tI]) .ret) (.seq (.oX [.bn p36 .eql q22 (ci 13) .b, .mv p35 q36 .b]) (.cond q35 (.seq (.oX [.mv p37 q10 tW, .mv p6 q37 tW, .mv p7 (ci 0) tI]) .ret) .skip)))))))) (.sj v26_0 (.sO [.mv p38 q2 tW, .bn p39 .eql q38 (.c Z32) .b] (.cond q39 (.sj v26_1 (.sO [.mv p40 q0 tI] (.block 1 (.sj v26_2 (.sO [.bn p42 .eql q40 (ci 14) .b, .mv p41 q42 .b] (.cond q41 (.s .skip) (.s (.oX [.bn p43 .eql q40 (ci 15) .b, .mv p41 q43 .b])))) c26_2))) c26_1) (.s .skip))) c26_0)))))
def x26 : XFn := ⟨[tI, tW, tW], false, [(.tmp p6), (.tmp p7)], c26_e⟩
def e26_0 (k t0 t1 t2 t8 t9 h) := kN k [(p0, (vI t0)), (p1, (vW t1)), (p2, (vW t2)), (p8, (AV.int .i32 t8)), (p9, (AV.int .i32 t9))] h
def S26_0 (D : CallD) (m : Nat) (t0 t1 t2 t8 t9 : Int) (h : HP) : Res2 :=
 let t50 := eqQ t0 (Int.ofNat 14)
 br t50 (
 obI .i32 (intBin .quo .i32 t8 t9) fun t53 =>
 let t54 := wrapF .u32 t53
 some (.ret (.tup [(vW t54), (vI (Int.ofNat 0))]) h, .no)) (
 let t56 := eqQ t0 (Int.ofNat 15)
 br t56 (
 binC .quo (vW t1) (vW t2) fun vt59 => asI .u32 vt59 fun t59 =>
 some (.ret (.tup [(vW t59), (vI (Int.ofNat 0))]) h, .no)) (
 let t61 := eqQ t0 (Int.ofNat 16)
 br t61 (
 obI .i32 (intBin .rem .i32 t8 t9) fun t64 =>
 let t65 := wrapF .u32 t64
 some (.ret (.tup [(vW t65), (vI (Int.ofNat 0))]) h, .no)) (
 let t67 := eqQ t0 (Int.ofNat 17)
 br t67 (
 binC .rem (vW t1) (vW t2) fun vt70 => asI .u32 vt70 fun t70 =>
 some (.ret (.tup [(vW t70), (vI (Int.ofNat 0))]) h, .no)) (
 some (.ret (.tup [(vW (Int.ofNat 0)), (vI (Int.ofNat 1))]) h, .no)))))
def e26_1 (k h) := kN k [] h
def S26_1 (D : CallD) (m : Nat) (h : HP) : Res2 :=
 some (.ret (.tup [(vW (Int.ofNat 0)), (vI (Int.ofNat 1))]) h, .no)
def e26_3 (k t1 t44 h) := kN k [(p1, (vW t1)), (p44, (vB t44))] h
def S26_3 (D : CallD) (m : Nat) (t1 : Int) (t44 : Bool) (h : HP) : Res2 :=
 br t44 (
 some (.ret (.tup [(vW t1), (vI (Int.ofNat 0))]) h, .no)) (
 S26_1 D m h)
def e26_2 (k t1 t40 t41 h) := kN k [(p1, (vW t1)), (p40, (vI t40)), (p41, (vB t41))] h
def S26_2 (D : CallD) (m : Nat) (t1 t40 : Int) (t41 : Bool) (h : HP) : Res2 :=
 br t41 (
 some (.ret (.tup [(vW (Int.ofNat 4294967295)), (vI (Int.ofNat 0))]) h, .no)) (
 let t45 := eqQ t40 (Int.ofNat 16)
 br t45 (
 S26_3 D m t1 t45 h) (
 let t46 := eqQ t40 (Int.ofNat 17)
 S26_3 D m t1 t46 h))
def e26_4 (k t0 t1 t2 h) := kN k [(p0, (vI t0)), (p1, (vW t1)), (p2, (vW t2))] h
def S26_4 (D : CallD) (m : Nat) (t0 t1 t2 : Int) (h : HP) : Res2 :=
 obI .i32 (convV (.ii .i32) (vW t1)) fun t13 =>
 obI .i32 (convV (.ii .i32) (vW t2)) fun t15 =>
 cal D 44 [(vW t1), (vW t2)] h fun t19 h5 =>
 extC t19 0 fun vt20 => asI .u32 vt20 fun t20 =>
 extC t19 1 fun vt21 => asI .u32 vt21 fun t21 =>
 let t24 := eqQ t0 (Int.ofNat 11)
 br t24 (
 some (.ret (.tup [(vW t21), (vI (Int.ofNat 0))]) h5, .no)) (
 let t27 := eqQ t0 (Int.ofNat 12)
 br t27 (
 let t29 := wrapF .i64 t13
 let t31 := wrapF .i64 t15
 let t32 := wrQ .i64 (t29 * t31)
 let t33 := shrF .i64 t32 32
 let t34 := wrapF .u32 t33
 some (.ret (.tup [(vW t34), (vI (Int.ofNat 0))]) h5, .no)) (
 let t36 := eqQ t0 (Int.ofNat 13)
 br t36 (
 some (.ret (.tup [(vW t20), (vI (Int.ofNat 0))]) h5, .no)) (
 binC .eql (vW t2) (vW (Int.ofNat 0)) fun vt39 => asB vt39 fun t39 =>
 br t39 (
 let t42 := eqQ t0 (Int.ofNat 14)
 br t42 (
 S26_2 D m t1 t0 t42 h5) (
 let t43 := eqQ t0 (Int.ofNat 15)
 S26_2 D m t1 t0 t43 h5)) (
 S26_0 D m t0 t1 t2 t13 t15 h5))))
def S26 : SFn := fun D m args h u => nou u <| popI .i64 args fun t0 args => popI .u32 args fun t1 args => popI .u32 args fun t2 args => endA args (S26_4 D m t0 t1 t2 h)
theorem T26_0 (hE : FX x26 D m E) : S26_0 D m = e26_0 (E c26_0 []) := by unfold S26_0; rw [hE c26_0]; kernel_rfl
theorem T26_1 (hE : FX x26 D m E) : S26_1 D m = e26_1 (E c26_1 [.sj v26_0 c26_0]) := by unfold S26_1; rw [hE c26_1]; kernel_rfl
theorem T26_3 (hE : FX x26 D m E) : S26_3 D m = e26_3 (E c26_3 [.blk 1, .sj v26_1 c26_1, .sj v26_0 c26_0]) := by unfold S26_3; rw [T26_1 hE, hE c26_3]; kernel_rfl
theorem T26_2 (hE : FX x26 D m E) : S26_2 D m = e26_2 (E c26_2 [.blk 1, .sj v26_1 c26_1, .sj v26_0 c26_0]) := by unfold S26_2; rw [T26_3 hE, hE c26_2]; kernel_rfl
theorem T26_4 (hE : FX x26 D m E) : S26_4 D m = e26_4 (E c26_e []) := by unfold S26_4; rw [T26_2 hE, T26_0 hE, hE c26_e]; kernel_rfl
theorem X26 : XTie S26 x26 := X_of fun D m E hE args h u => by unfold S26; rw [T26_4 hE]; kernel_rfl
/- 27 -/
def x27 : XFn := ⟨[.v], false, [(.tmp p2)], (.sO [.mv p2 (.c Z64) (.i .u64)] (.seq (.seq (.oX [.mv p3 q0 .v, .cl p4 45 [q3] .b]) (.cond q4 (.seq (.oX [.mv p2 (.c (.int .u64 (.ofNat 9221120237041090560))) (.i .u64)]) .ret) .skip)) (.sO [.mv p5 q0 .v, .P p6 (.xt .fbits [q5]) (.i .u64), .mv p2 q6 (.i .u64)] (.s .ret))))⟩
def S27 : SFn := evFX x27
theorem X27 : XTie S27 x27 := fun _ _ _ _ _ => rfl
/- 28 -/
def x28 : XFn := ⟨[(.i .u64)], false, [(.tmp p2)], (.sO [.mv p2 (.c (.flt .f64 0)) .v] (.sO [.mv p3 q0 (.i .u64), .P p4 (.xt .ffrom [q3]) .v, .mv p2 q4 .v] (.s .ret)))⟩
def S28 : SFn := evFX x28
theorem X28 : XTie S28 x28 := fun _ _ _ _ _ => rfl
/- 29 -/
def x29 : XFn := ⟨[.s], false, [(.cells 1 p2), (.cell p3), (.cell p4)], (.sO [.al p2 (.new [.nils]), .al p3 (.new [(kI 0)]), .al p4 (.new [(kI 0)])] (.sO [.mv p8 q0 .s, .cl p9 48 [q8] .v, .mv p7 q9 .v, .P p10 (.ext q7 0) .v, .P p11 (.ext q7 1) tI, .P p12 (.ext q7 2) tI, .mv p5 q10 .v, .st q3 q11, .st q4 q12] (.seq (.seq (.oX [.ld p13 q4 tI, .bn p14 .neq q13 (ci 0) .b]) (.cond q14 (.seq (.ops true (XL.of [.L p15 (.cells 1 q2) .v, .ld p16 q3 tI, .ld p17 q4 tI, .o ⟨none, (.e (.stores 1 q2 q15)), none, [⟨none, .cell q3, p16⟩, ⟨none, .cell q4, p17⟩]⟩ .v, .o ⟨none, (.e (.store q3 q16)), none, [⟨none, .cell q4, p17⟩]⟩ .v, .st q4 q17])) .ret) .skip)) (.sO [.P p18 (.mkfn 49 [] [q2, q3, q4]) .v, .o ⟨none, (.defer (.val q18) []), none, []⟩ .v] (.sO [.mv p19 q5 .v, .P p20 (.build [.nils, (kI 0), (kI 0)] [⟨0, 1, q19⟩]) .v, .al p21 (.box q20), .mv p6 q21 .v] (.sj [p2, p3, p4] (.block 0 (.loop [p2, p3, p4, p6] (.seq (.seq (.oX [.mv p22 q6 .v, .cl p23 50 [q22] .v, .P p24 (.field 0 1 false q23) tI, .bn p25 .neq q24 (ci 0) .b]) (.cond q25 .skip (.exit 0))) (.block 1 (.s (.ops true (XL.of [.fa p26 0 q2, .ld p27 q26 .v, .mv p28 q6 .v, .o ⟨(some p29), (.call (.fn 51) [q28]), none, [⟨none, .cell q26, p27⟩]⟩ .v, .al p30 (.bsl Zd 1 [⟨0, 17, q29⟩]), .o ⟨(some p31), (.e (.app 17 200 q27 q30)), none, []⟩ .v, .fa p32 0 q2, .st q32 q31]))))))) (.sO [.L p33 (.cells 1 q2) .v, .ss 1 q2 q33, .st q3 (ci 0), .st q4 (ci 0)] (.s .ret))))))))⟩
def S29 : SFn := evFX x29
theorem X29 : XTie S29 x29 := fun _ _ _ _ _ => rfl
/- 30 -/
def x30 : XFn := ⟨[.v], false, [(.cells 1 p2), (.cell p3), (.cell p4)], (.sO [.al p1 (.box q0), .al p2 (.new [.nils]), .al p3 (.new [(kI 0)]), .al p4 (.new [(kI 0)])] (.sO [.P p10 (.mkfn 52 [] [q2, q3, q4]) .v, .o ⟨none, (.defer (.val q10) []), none, []⟩ .v] (.sO [.cl p11 53 [] .v, .al p12 (.mkmap), .al p13 (.bsl [.nilm, .nilm] 2 [⟨0, 1, q11⟩, ⟨1, 1, q12⟩]), .P p14 (.build [.nils, (kI 0), (kI 0), (kI 0)] [⟨0, 1, q13⟩]) .v, .al p15 (.box q14), .mv p5 q15 .v] (.sj [p1, p2, p3, p4] (.sO [.fa p16 0 q1, .ld p17 q16 .v, .P p18 (.lenl q17) tI, .mv p19 (ci 0) tI] (.block 0 (.loop [p1, p2, p3, p4, p5, p17, p18, p19] (.sO [.bn p20 .lss q19 q18 .b] (.seq (.cond q20 .skip (.exit 0)) (.seq (.block 1 (.seq (.oX [.mv p21 q19 tI, .P p22 (.iaddr (.sl 17) q17 q19) .v, .L p23 (.cells 17 q22) .v, .al p7 (.new Zd), .mv p6 q21 tI, .ss 17 q7 q23]) (.ops true (XL.of [.fa p24 0 q2, .ld p25 q24 .v, .mv p26 q5 .v, .L p27 (.cells 17 q7) .v, .fa p28 0 q1, .ld p29 q28 .v, .mv p30 q6 tI, .P p31 (.slice (.sl 17) q29 none (some q30) none) .v, .o ⟨(some p32), (.call (.fn 54) [q26, q27, q31]), none, [⟨none, .cell q24, p25⟩]⟩ .v, .al p33 (.bsl Zd 1 [⟨0, 17, q32⟩]), .o ⟨(some p34), (.e (.app 17 200 q25 q33)), none, []⟩ .v, .fa p35 0 q2, .st q35 q34])))) (.s (.oX [.bn p36 .add q19 (ci 1) tI, .mv p19 q36 tI])))))))) (.sj [p2, p3, p4] (.sO [.fa p37 0 q1, .ld p38 q37 .v, .P p39 (.lenl q38) tI, .mv p40 (ci 0) tI] (.block 2 (.loop [p1, p2, p3, p4, p38, p39, p40] (.sO [.bn p41 .lss q40 q39 .b] (.seq (.cond q41 .skip (.exit 2)) (.sj [p1, p2, p3, p4, p38, p39, p40] (.block 3 (.sO [.P p42 (.iaddr (.sl 17) q38 q40) .v, .L p43 (.cells 17 q42) .v, .al p9 (.new Zd), .ss 17 q9 q43] (.ops true (XL.pre [.fa p44 0 q9, .ld p45 q44 .b, .P p46 (.un .not q45) .b, .mv p47 q46 .b, .ge p47 (XL.of [.G p47 false p48 (.faddr 1 q9) .v, .o ⟨(some p49), (.l (.cell q48)), (some (p47, false)), []⟩ .b, .G p47 false p50 (.un .not q49) .b, .P p51 (.pick q47 (cb true) q50) .b]) p51 .b, .mv p52 q51 .b, .sp p52, .G p52 false p53 (.faddr 0 q1) .v, .o ⟨(some p54), (.l (.cell q53)), (some (p52, false)), []⟩ .v, .G p52 false p55 (.mkfn 57 [] [q9]) .v, .fa p58 16 q9, .ld p59 q58 tI, .o ⟨(some p56), (.call (.fn 56) [q54, q55]), (some (p52, false)), [⟨none, .cell q58, p59⟩]⟩ .b, .P p57 (.pick q52 (cb true) q56) .b, .jn p52 [p1, p2, p3, p4, p38, p39, p40, p57, p59]] (XL.of [.cl p60 55 [q57, (ci 13), q59] .v]))))) (.s (.oX [.bn p61 .add q40 (ci 1) tI, .mv p40 q61 tI])))))))) (.sO [.L p62 (.cells 1 q2) .v, .ss 1 q2 q62, .st q3 (ci 0), .st q4 (ci 0)] (.s .ret)))))))⟩
def S30 : SFn := evFX x30
theorem X30 : XTie S30 x30 := fun _ _ _ _ _ => rfl
/- 31 -/
def x31 : XFn := ⟨[tI], false, [(.tmp p2)], (.sO [.mv p2 (ci 0) tI] (.seq (.seq (.oX [.mv p3 q0 tI, .bn p4 .eql q3 (ci 2) .b]) (.cond q4 (.seq (.oX [.mv p2 (ci 8) tI]) .ret) .skip)) (.sO [.mv p2 (ci 4) tI] (.s .ret))))⟩
def S31 : SFn := evFX x31
theorem X31 : XTie S31 x31 := fun _ _ _ _ _ => rfl
/- 32 -/
def x32 : XFn := ⟨[.v, .v], false, [(.cells 5 p4), (.cell p5), (.cell p6)], (.sO [.al p2 (.box q0), .al p3 (.box q1), .al p4 (.new Zc), .al p5 (.new [(kI 0)]), .al p6 (.new [(kI 0)])] (.sO [.P p7 (.mkfn 58 [] [q4, q5, q6]) .v, .o ⟨none, (.defer (.val q7) []), none, []⟩ .v] (.sO [.L p8 (.cells 1 q2) .v, .L p9 (.cells 8 q3) .v, .cl p10 59 [q8, q9] .v, .ss 5 q4 q10, .st q5 (ci 0), .st q6 (ci 0)] (.s .ret))))⟩
def S32 : SFn := evFX x32
theorem X32 : XTie S32 x32 := fun _ _ _ _ _ => rfl
/- 33 -/
def x33 : XFn := ⟨[.s], false, [(.tmp p2)], (.sO [.mv p2 (ci 0) tI] (.sO [.al p3 (.mkmap), .o ⟨none, (.e (.mset .str q3 (.c (.str [43])) (ci 1))), none, []⟩ .v, .o ⟨none, (.e (.mset .str q3 (.c (.str [45])) (ci 2))), none, []⟩ .v, .o ⟨none, (.e (.mset .str q3 (.c (.str [42])) (ci 11))), none, []⟩ .v, .o ⟨none, (.e (.mset .str q3 (.c (.str [47])) (ci 14))), none, []⟩ .v, .o ⟨none, (.e (.mset .str q3 (.c (.str [37])) (ci 16))), none, []⟩ .v, .o ⟨none, (.e (.mset .str q3 (.c (.str [60, 60])) (ci 3))), none, []⟩ .v, .o ⟨none, (.e (.mset .str q3 (.c (.str [62, 62])) (ci 8))), none, []⟩ .v, .o ⟨none, (.e (.mset .str q3 (.c (.str [38])) (ci 10))), none, []⟩ .v, .o ⟨none, (.e (.mset .str q3 (.c (.str [94])) (ci 6))), none, []⟩ .v, .o ⟨none, (.e (.mset .str q3 (.c (.str [124])) (ci 9))), none, []⟩ .v, .mv p4 q3 .v, .mv p5 q0 .s, .L p6 (.look .str (kI 0) false q4 q5) tI, .mv p2 q6 tI] (.s .ret)))⟩
def S33 : SFn := evFX x33
theorem X33 : XTie S33 x33 := fun _ _ _ _ _ => rfl
/- 34 -/
def x34 : XFn := ⟨[tW], false, [(.tmp p2)], (.sO [.mv p2 (ci 0) tI] (.sO [.mv p3 q0 tW, .P p4 (.conv (.ii .i32) q3) (.i .i32), .P p5 (.conv (.ii .i64) q4) tI, .mv p2 q5 tI] (.s .ret)))⟩
def S34 : SFn := evFX x34
theorem X34 : XTie S34 x34 := fun _ _ _ _ _ => rfl
/- 35 -/
def c35_e : XC := (.sO [.mv p6 (.c Z64) (.i .u64), .mv p7 (ci 0) tI] (.sO [.mv p10 q1 (.i .u64), .cl p11 28 [q10] .v, .mv p12 q2 (.i .u64), .cl p13 28 [q12] .v, .mv p8 q11 .v, .mv p9 q13 .v] (.seq (.seq (.oX [.mv p14 q0 tI]) (.block 0 (.seq (.oX [.bn p16 .eql q14 (ci 45) .b, .mv p15 q16 .b]) (.cond q15 (.seq (.oX [.mv p17 q8 .v, .mv p18 q9 .v, .bn p19 .add q17 q18 .v, .cl p20 27 [q19] (.i .u64), .mv p6 q20 (.i .u64), .mv p7 (ci 0) tI]) .ret) (.seq (.oX [.bn p22 .eql q14 (ci 46) .b, .mv p21 q22 .b]) (.cond q21 (.seq (.oX [.mv p23 q8 .v, .mv p24 q9 .v, .bn p25 .sub q23 q24 .v, .cl p26 27 [q25] (.i .u64), .mv p6 q26 (.i .u64), .mv p7 (ci 0) tI]) .ret) (.seq (.oX [.bn p28 .eql q14 (ci 47) .b, .mv p27 q28 .b]) (.cond q27 (.seq (.oX [.mv p29 q8 .v, .mv p30 q9 .v, .bn p31 .mul q29 q30 .v, .cl p32 27 [q31] (.i .u64), .mv p6 q32 (.i .u64), .mv p7 (ci 0) tI]) .ret) (.seq (.oX [.bn p34 .eql q14 (ci 48) .b, .mv p33 q34 .b]) (.cond q33 (.seq (.oX [.mv p35 q8 .v, .mv p36 q9 .v, .bn p37 .quo q35 q36 .v, .cl p38 27 [q37] (.i .u64), .mv p6 q38 (.i .u64), .mv p7 (ci 0) tI]) .ret) .skip)))))))))) (.sO [.mv p6 (.c Z64) (.i .u64), .mv p7 (ci 1) tI] (.s .ret)))))
def x35 : XFn := ⟨[tI, (.i .u64), (.i .u64)], false, [(.tmp p6), (.tmp p7)], c35_e⟩
def e35_0 (k t0 t1 t2 h) := kN k [(p0, (vI t0)), (p1, (AV.int .u64 t1)), (p2, (AV.int .u64 t2))] h
def S35_0 (D : CallD) (m : Nat) (t0 t1 t2 : Int) (h : HP) : Res2 :=
 cal D 28 [(AV.int .u64 t1)] h fun t11 h1 =>
 cal D 28 [(AV.int .u64 t2)] h1 fun t13 h2 =>
 let t16 := eqQ t0 (Int.ofNat 45)
 br t16 (
 binC .add t11 t13 fun t19 =>
 cal D 27 [t19] h2 fun t20 h3 =>
 asI .u64 t20 fun t20a =>
 some (.ret (.tup [(AV.int .u64 t20a), (vI (Int.ofNat 0))]) h3, .no)) (
 let t22 := eqQ t0 (Int.ofNat 46)
 br t22 (
 binC .sub t11 t13 fun t25 =>
 cal D 27 [t25] h2 fun t26 h4 =>
 asI .u64 t26 fun t26a =>
 some (.ret (.tup [(AV.int .u64 t26a), (vI (Int.ofNat 0))]) h4, .no)) (
 let t28 := eqQ t0 (Int.ofNat 47)
 br t28 (
 binC .mul t11 t13 fun t31 =>
 cal D 27 [t31] h2 fun t32 h5 =>
 asI .u64 t32 fun t32a =>
 some (.ret (.tup [(AV.int .u64 t32a), (vI (Int.ofNat 0))]) h5, .no)) (
 let t34 := eqQ t0 (Int.ofNat 48)
 br t34 (
 binC .quo t11 t13 fun t37 =>
 cal D 27 [t37] h2 fun t38 h6 =>
 asI .u64 t38 fun t38a =>
 some (.ret (.tup [(AV.int .u64 t38a), (vI (Int.ofNat 0))]) h6, .no)) (
 some (.ret (.tup [(AV.int .u64 (Int.ofNat 0)), (vI (Int.ofNat 1))]) h2, .no)))))
def S35 : SFn := fun D m args h u => nou u <| popI .i64 args fun t0 args => popI .u64 args fun t1 args => popI .u64 args fun t2 args => endA args (S35_0 D m t0 t1 t2 h)
theorem T35_0 (hE : FX x35 D m E) : S35_0 D m = e35_0 (E c35_e []) := by unfold S35_0; rw [hE c35_e]; kernel_rfl
theorem X35 : XTie S35 x35 := X_of fun D m E hE args h u => by unfold S35; rw [T35_0 hE]; kernel_rfl
/- 36 -/
def v36_0 : List Pos := [p10]
def c36_0 : XC := (.seq (.seq (.oX [.mv p31 q10 .b]) (.cond q31 (.seq (.oX [.mv p6 (.c (.int .u32 (.ofNat 1))) tW, .mv p7 (ci 0) tI]) .ret) .skip)) (.sO [.mv p6 (.c Z32) tW, .mv p7 (ci 0) tI] (.s .ret)))
def c36_e : XC := (.sO [.mv p6 (.c Z32) tW, .mv p7 (ci 0) tI] (.sO [.mv p11 q1 (.i .u64), .cl p12 28 [q11] .v, .mv p13 q2 (.i .u64), .cl p14 28 [q13] .v, .mv p8 q12 .v, .mv p9 q14 .v] (.sO [.mv p10 (cb false) .b] (.sj v36_0 (.sO [.mv p15 q0 tI] (.block 0 (.sO [.bn p17 .eql q15 (ci 51) .b, .mv p16 q17 .b] (.cond q16 (.s (.oX [.mv p18 q8 .v, .mv p19 q9 .v, .bn p20 .eql q18 q19 .b, .mv p10 q20 .b])) (.sO [.bn p22 .eql q15 (ci 52) .b, .mv p21 q22 .b] (.cond q21 (.s (.oX [.mv p23 q8 .v, .mv p24 q9 .v, .bn p25 .lss q23 q24 .b, .mv p10 q25 .b])) (.sO [.bn p27 .eql q15 (ci 53) .b, .mv p26 q27 .b] (.cond q26 (.s (.oX [.mv p28 q8 .v, .mv p29 q9 .v, .bn p30 .leq q28 q29 .b, .mv p10 q30 .b])) (.sO [.mv p6 (.c Z32) tW, .mv p7 (ci 1) tI] (.s .ret)))))))))) c36_0))))
def x36 : XFn := ⟨[tI, (.i .u64), (.i .u64)], false, [(.tmp p6), (.tmp p7)], c36_e⟩
def e36_0 (k t10 h) := kN k [(p10, (vB t10))] h
def S36_0 (D : CallD) (m : Nat) (t10 : Bool) (h : HP) : Res2 :=
 br t10 (
 some (.ret (.tup [(vW (Int.ofNat 1)), (vI (Int.ofNat 0))]) h, .no)) (
 some (.ret (.tup [(vW (Int.ofNat 0)), (vI (Int.ofNat 0))]) h, .no))
def e36_1 (k t0 t1 t2 h) := kN k [(p0, (vI t0)), (p1, (AV.int .u64 t1)), (p2, (AV.int .u64 t2))] h
def S36_1 (D : CallD) (m : Nat) (t0 t1 t2 : Int) (h : HP) : Res2 :=
 cal D 28 [(AV.int .u64 t1)] h fun t12 h2 =>
 cal D 28 [(AV.int .u64 t2)] h2 fun t14 h3 =>
 let t17 := eqQ t0 (Int.ofNat 51)
 br t17 (
 binC .eql t12 t14 fun vt20 => asB vt20 fun t20 =>
 S36_0 D m t20 h3) (
 let t22 := eqQ t0 (Int.ofNat 52)
 br t22 (
 binC .lss t12 t14 fun vt25 => asB vt25 fun t25 =>
 S36_0 D m t25 h3) (
 let t27 := eqQ t0 (Int.ofNat 53)
 br t27 (
 binC .leq t12 t14 fun vt30 => asB vt30 fun t30 =>
 S36_0 D m t30 h3) (
 some (.ret (.tup [(vW (Int.ofNat 0)), (vI (Int.ofNat 1))]) h3, .no))))
def S36 : SFn := fun D m args h u => nou u <| popI .i64 args fun t0 args => popI .u64 args fun t1 args => popI .u64 args fun t2 args => endA args (S36_1 D m t0 t1 t2 h)
theorem T36_0 (hE : FX x36 D m E) : S36_0 D m = e36_0 (E c36_0 []) := by unfold S36_0; rw [hE c36_0]; kernel_rfl
theorem T36_1 (hE : FX x36 D m E) : S36_1 D m = e36_1 (E c36_e []) := by unfold S36_1; rw [T36_0 hE, hE c36_e]; kernel_rfl
theorem X36 : XTie S36 x36 := X_of fun D m E hE args h u => by unfold S36; rw [T36_1 hE]; kernel_rfl
/- 37 -/
def c37_e : XC := (.sO [.mv p2 (ci 0) tI] (.sO [.mv p4 q0 tW, .P p5 (.conv (.ii .i64) q4) tI, .mv p3 q5 tI] (.seq (.seq (.oX [.mv p6 q3 tI, .bn p7 .geq q6 (ci 2147483648) .b]) (.cond q7 (.seq (.oX [.mv p8 q3 tI, .bn p9 .sub q8 (ci 4294967296) tI, .mv p2 q9 tI]) .ret) .skip)) (.sO [.mv p10 q3 tI, .mv p2 q10 tI] (.s .ret)))))
def x37 : XFn := ⟨[tW], false, [(.tmp p2)], c37_e⟩
def e37_0 (k t0 h) := kN k [(p0, (vW t0))] h
def S37_0 (D : CallD) (m : Nat) (t0 : Int) (h : HP) : Res2 :=
 obI .i64 (convV (.ii .i64) (vW t0)) fun t5 =>
 let t7 := leQ (Int.ofNat 2147483648) t5
 br t7 (
 let t9 := wrQ .i64 (t5 - (Int.ofNat 4294967296))
 some (.ret (vI t9) h, .no)) (
 some (.ret (vI t5) h, .no))
def S37 : SFn := fun D m args h u => nou u <| popI .u32 args fun t0 args => endA args (S37_0 D m t0 h)
theorem T37_0 (hE : FX x37 D m E) : S37_0 D m = e37_0 (E c37_e []) := by unfold S37_0; rw [hE c37_e]; kernel_rfl
theorem X37 : XTie S37 x37 := X_of fun D m E hE args h u => by unfold S37; rw [T37_0 hE]; kernel_rfl
/- 38 -/
def c38_e : XC := (.sO [.al p6 (.new Zc)] (.sO [.mv p10 q0 tI, .mv p11 q1 (.i .u64), .mv p12 q2 (.i .u64), .cl p13 60 [q10, q11, q12] .v, .mv p9 q13 .v, .P p14 (.ext q9 0) (.i .u64), .P p15 (.ext q9 1) .b, .mv p7 q14 (.i .u64), .mv p8 q15 .b] (.sO [.mv p16 q7 (.i .u64), .P p17 (.build Zc [⟨0, 1, (ci 2)⟩, ⟨2, 1, q16⟩]) .v, .ss 5 q6 q17] (.s .ret))))
def x38 : XFn := ⟨[tI, (.i .u64), (.i .u64)], false, [(.cells 5 p6)], c38_e⟩
def e38_0 (k t0 t1 t2 h) := kN k [(p0, (vI t0)), (p1, (AV.int .u64 t1)), (p2, (AV.int .u64 t2))] h
def S38_0 (D : CallD) (m : Nat) (t0 t1 t2 : Int) (h : HP) : Res2 :=
 let t6 := AV.ptr (HP.nxQ h) 0
 let h1 := HP.newQ h (.cells true Zc)
 cal D 60 [(vI t0), (AV.int .u64 t1), (AV.int .u64 t2)] h1 fun t13 h2 =>
 extC t13 0 fun vt14 => asI .u64 vt14 fun t14 =>
 extC t13 1 fun vt15 => asB vt15 fun t15 =>
 let t17 := (AV.agg [(vI (Int.ofNat 2)), (vW (Int.ofNat 0)), (AV.int .u64 t14), (vS ([] : LN)), (vI (Int.ofNat 0))])
 stsC 5 t6 t17 h2 fun h3 =>
 cellsC 5 t6 h3 fun t6a =>
 some (.ret t6a h3, .no)
def S38 : SFn := fun D m args h u => nou u <| popI .i64 args fun t0 args => popI .u64 args fun t1 args => popI .u64 args fun t2 args => endA args (S38_0 D m t0 t1 t2 h)
theorem T38_0 (hE : FX x38 D m E) : S38_0 D m = e38_0 (E c38_e []) := by unfold S38_0; rw [hE c38_e]; kernel_rfl
theorem X38 : XTie S38 x38 := X_of fun D m E hE args h u => by unfold S38; rw [T38_0 hE]; kernel_rfl
/- 39 -/
def c39_e : XC := (.sO [.al p6 (.new Zc)] (.sO [.mv p10 q0 tI, .mv p11 q1 (.i .u64), .mv p12 q2 (.i .u64), .cl p13 61 [q10, q11, q12] .v, .mv p9 q13 .v, .P p14 (.ext q9 0) tW, .P p15 (.ext q9 1) .b, .mv p7 q14 tW, .mv p8 q15 .b] (.sO [.mv p16 q7 tW, .P p17 (.build Zc [⟨0, 1, (ci 1)⟩, ⟨1, 1, q16⟩]) .v, .ss 5 q6 q17] (.s .ret))))
def x39 : XFn := ⟨[tI, (.i .u64), (.i .u64)], false, [(.cells 5 p6)], c39_e⟩
def e39_0 (k t0 t1 t2 h) := kN k [(p0, (vI t0)), (p1, (AV.int .u64 t1)), (p2, (AV.int .u64 t2))] h
def S39_0 (D : CallD) (m : Nat) (t0 t1 t2 : Int) (h : HP) : Res2 :=
 let t6 := AV.ptr (HP.nxQ h) 0
 let h1 := HP.newQ h (.cells true Zc)
 cal D 61 [(vI t0), (AV.int .u64 t1), (AV.int .u64 t2)] h1 fun t13 h2 =>
 extC t13 0 fun vt14 => asI .u32 vt14 fun t14 =>
 extC t13 1 fun vt15 => asB vt15 fun t15 =>
 let t17 := (AV.agg [(vI (Int.ofNat 1)), (vW t14), (AV.int .u64 (Int.ofNat 0)), (vS ([] : LN)), (vI (Int.ofNat 0))])
 stsC 5 t6 t17 h2 fun h3 =>
 cellsC 5 t6 h3 fun t6a =>
 some (.ret t6a h3, .no)
def S39 : SFn := fun D m args h u => nou u <| popI .i64 args fun t0 args => popI .u64 args fun t1 args => popI .u64 args fun t2 args => endA args (S39_0 D m t0 t1 t2 h)
theorem T39_0 (hE : FX x39 D m E) : S39_0 D m = e39_0 (E c39_e []) := by unfold S39_0; rw [hE c39_e]; kernel_rfl
theorem X39 : XTie S39 x39 := X_of fun D m E hE args h u => by unfold S39; rw [T39_0 hE]; kernel_rfl
/- 40 -/
def x40 : XFn := ⟨[.v, .v], false, [(.tmp p4)], (.sO [.mv p4 (.c (.flt .f64 0)) .v] (.sO [.mv p5 q0 .v, .P p6 (.xt .fbits [q5]) (.i .u64), .bn p7 .andNot q6 (.c (.int .u64 (.ofNat 9223372036854775808))) (.i .u64), .mv p8 q1 .v, .P p9 (.xt .fbits [q8]) (.i .u64), .bn p10 .and q9 (.c (.int .u64 (.ofNat 9223372036854775808))) (.i .u64), .bn p11 .or q7 q10 (.i .u64), .P p12 (.xt .ffrom [q11]) .v, .mv p4 q12 .v] (.s .ret)))⟩
def S40 : SFn := evFX x40
theorem X40 : XTie S40 x40 := fun _ _ _ _ _ => rfl
/- 41 -/
def c41_e : XC := (.sO [.mv p2 (cb false) .b] (.sO [.mv p7 q0 (.i .u64), .cl p8 42 [q7] .v, .mv p6 q8 .v, .P p9 (.ext q6 0) (.i .u64), .P p10 (.ext q6 1) (.i .u64), .P p11 (.ext q6 2) (.i .u64), .mv p3 q9 (.i .u64), .mv p4 q10 (.i .u64), .mv p5 q11 (.i .u64)] (.sO [.mv p12 q4 (.i .u64), .bn p13 .eql q12 (.c (.int .u64 (.ofNat 2047))) .b, .mv p14 q13 .b, .ge p14 (XL.of [.G p14 true p15 (.mov q5) (.i .u64), .G p14 true p16 (.bin .neq q15 (.c Z64)) .b, .P p17 (.pick q14 q16 (cb false)) .b]) p17 .b, .mv p2 q17 .b] (.s .ret))))
def x41 : XFn := ⟨[(.i .u64)], false, [(.tmp p2)], c41_e⟩
def e41_0 (k t0 h) := kN k [(p0, (AV.int .u64 t0))] h
def S41_0 (D : CallD) (m : Nat) (t0 : Int) (h : HP) : Res2 :=
 cal D 42 [(AV.int .u64 t0)] h fun t8 h1 =>
 extC t8 0 fun vt9 => asI .u64 vt9 fun t9 =>
 extC t8 1 fun vt10 => asI .u64 vt10 fun t10 =>
 extC t8 2 fun vt11 => asI .u64 vt11 fun t11 =>
 let t13 := eqQ t10 (Int.ofNat 2047)
 obB (brV t13 (
 let t16 := notQ (eqQ t11 (Int.ofNat 0))
 some (vB t16)) (
 some (vB false))) fun t17 =>
 some (.ret (vB t17) h1, .no)
def S41 : SFn := fun D m args h u => nou u <| popI .u64 args fun t0 args => endA args (S41_0 D m t0 h)
theorem T41_0 (hE : FX x41 D m E) : S41_0 D m = e41_0 (E c41_e []) := by unfold S41_0; rw [hE c41_e]; kernel_rfl
theorem X41 : XTie S41 x41 := X_of fun D m E hE args h u => by unfold S41; rw [T41_0 hE]; kernel_rfl
/- 42 -/
def c42_e : XC := (.sO [.mv p2 (.c Z64) (.i .u64), .mv p3 (.c Z64) (.i .u64), .mv p4 (.c Z64) (.i .u64)] (.sO [.mv p5 q0 (.i .u64), .bn p6 .quo q5 (.c (.int .u64 (.ofNat 9223372036854775808))) (.i .u64), .mv p7 q0 (.i .u64), .bn p8 .quo q7 (.c (.int .u64 (.ofNat 4503599627370496))) (.i .u64), .bn p9 .rem q8 (.c (.int .u64 (.ofNat 2048))) (.i .u64), .mv p10 q0 (.i .u64), .bn p11 .rem q10 (.c (.int .u64 (.ofNat 4503599627370496))) (.i .u64), .mv p2 q6 (.i .u64), .mv p3 q9 (.i .u64), .mv p4 q11 (.i .u64)] (.s .ret)))
def x42 : XFn := ⟨[(.i .u64)], false, [(.tmp p2), (.tmp p3), (.tmp p4)], c42_e⟩
def e42_0 (k t0 h) := kN k [(p0, (AV.int .u64 t0))] h
def S42_0 (D : CallD) (m : Nat) (t0 : Int) (h : HP) : Res2 :=
 let t6 := wrapF .u64 (Int.tdiv t0 (Int.ofNat 9223372036854775808))
 let t8 := wrapF .u64 (Int.tdiv t0 (Int.ofNat 4503599627370496))
 let t9 := Int.tmod t8 (Int.ofNat 2048)
 let t11 := Int.tmod t0 (Int.ofNat 4503599627370496)
 some (.ret (.tup [(AV.int .u64 t6), (AV.int .u64 t9), (AV.int .u64 t11)]) h, .no)
def S42 : SFn := fun D m args h u => nou u <| popI .u64 args fun t0 args => endA args (S42_0 D m t0 h)
theorem T42_0 (hE : FX x42 D m E) : S42_0 D m = e42_0 (E c42_e []) := by unfold S42_0; rw [hE c42_e]; kernel_rfl
theorem X42 : XTie S42 x42 := X_of fun D m E hE args h u => by unfold S42; rw [T42_0 hE]; kernel_rfl
/- 43 -/
def v43_0 : List Pos := [p0, p1, p2]
def c43_0 : XC := (.sO [.mv p129 q0 tI, .mv p130 q1 tW, .mv p131 q2 tW, .cl p132 67 [q129, q130, q131] .v, .P p133 (.ext q132 0) tW, .P p134 (.ext q132 1) .b, .mv p6 q133 tW, .mv p7 q134 .b] (.s .ret))
def v43_2 : List Pos := [p11]
def c43_2 : XC := (.sO [.mv p67 q11 tI, .P p68 (.conv (.ii .u32) q67) tW, .mv p6 q68 tW, .mv p7 (cb true) .b] (.s .ret))
def v43_1 : List Pos := [p0, p1, p2, p8, p9, p10, p11, p19, p48]
def c43_1 : XC := (.cond q48 (.sj v43_2 (.sO [.mv p51 q0 tI, .bn p52 .eql q51 (ci 4) .b, .mv p53 q52 .b, .ge p53 (XL.of [.G p53 true p54 (.mov q8) tI, .G p53 true p55 (.mov q9) tI, .G p53 true p56 (.bin .lss q54 q55) .b, .P p57 (.pick q53 q56 (cb false)) .b]) p57 .b, .mv p58 q57 .b, .ge p58 (XL.of [.G p58 false p59 (.mov q0) tI, .G p58 false p60 (.bin .eql q59 (ci 5)) .b, .G p58 false p61 (.mov q60) .b, .ge p61 (XL.of [.G p61 true p62 (.mov q1) tW, .G p61 true p63 (.mov q2) tW, .G p61 true p64 (.bin .lss q62 q63) .b, .G p58 false p65 (.pick q61 q64 (cb false)) .b]) p65 .b, .P p66 (.pick q58 (cb true) q65) .b]) p66 .b] (.cond q66 (.s (.oX [.mv p11 (ci 1) tI])) (.s .skip))) c43_2) (.sO [.bn p70 .eql q19 (ci 6) .b, .mv p69 q70 .b] (.cond q69 (.sO [.mv p71 q1 tW, .mv p72 q2 tW, .cl p73 64 [(ci 1), q71, q72] tW, .mv p6 q73 tW, .mv p7 (cb true) .b] (.s .ret)) (.sO [.bn p75 .eql q19 (ci 7) .b, .mv p74 q75 .b] (.cond q74 (.sO [.mv p76 q1 tW, .P p77 (.conv (.ii .i64) q76) tI, .mv p78 q10 tI, .cl p79 63 [q78] tI, .bn p80 .quo q77 q79 tI, .P p81 (.conv (.ii .u32) q80) tW, .mv p6 q81 tW, .mv p7 (cb true) .b] (.s .ret)) (.sO [.bn p83 .eql q19 (ci 8) .b, .mv p82 q83 .b] (.cond q82 (.sO [.mv p84 q8 tI, .mv p85 q10 tI, .cl p86 63 [q85] tI, .cl p87 65 [q84, q86] tI, .cl p88 62 [q87] tW, .mv p6 q88 tW, .mv p7 (cb true) .b] (.s .ret)) (.sO [.bn p90 .eql q19 (ci 9) .b, .mv p89 q90 .b] (.cond q89 (.sO [.mv p91 q1 tW, .mv p92 q2 tW, .cl p93 64 [(ci 2), q91, q92] tW, .mv p6 q93 tW, .mv p7 (cb true) .b] (.s .ret)) (.sO [.bn p95 .eql q19 (ci 10) .b, .mv p94 q95 .b] (.cond q94 (.sO [.mv p96 q1 tW, .mv p97 q2 tW, .cl p98 64 [(ci 3), q96, q97] tW, .mv p6 q98 tW, .mv p7 (cb true) .b] (.s .ret)) (.sO [.bn p100 .eql q19 (ci 11) .b, .mv p99 q100 .b] (.cond q99 (.sO [.mv p101 q1 tW, .P p102 (.conv (.ii .i64) q101) tI, .bn p103 .rem q102 (ci 65536) tI, .mv p104 q2 tW, .P p105 (.conv (.ii .i64) q104) tI, .bn p106 .mul q103 q105 tI, .mv p107 q1 tW, .P p108 (.conv (.ii .i64) q107) tI, .bn p109 .quo q108 (ci 65536) tI, .mv p110 q2 tW, .P p111 (.conv (.ii .i64) q110) tI, .bn p112 .rem q111 (ci 65536) tI, .bn p113 .mul q109 q112 tI, .bn p114 .mul q113 (ci 65536) tI, .bn p115 .add q106 q114 tI, .cl p116 62 [q115] tW, .mv p6 q116 tW, .mv p7 (cb true) .b] (.s .ret)) (.sO [.bn p118 .eql q19 (ci 12) .b, .mv p117 q118 .b] (.cond q117 (.sO [.mv p119 q8 tI, .mv p120 q9 tI, .bn p121 .mul q119 q120 tI, .cl p122 65 [q121, (ci 4294967296)] tI, .cl p123 62 [q122] tW, .mv p6 q123 tW, .mv p7 (cb true) .b] (.s .ret)) (.sO [.bn p125 .eql q19 (ci 13) .b, .mv p124 q125 .b] (.cond q124 (.sO [.mv p126 q1 tW, .mv p127 q2 tW, .cl p128 66 [q126, q127] tW, .mv p6 q128 tW, .mv p7 (cb true) .b] (.s .ret)) (.s .skip))))))))))))))))))
def c43_e : XC := (.sO [.mv p6 (.c Z32) tW, .mv p7 (cb false) .b] (.sO [.mv p12 q1 tW, .cl p13 37 [q12] tI, .mv p14 q2 tW, .cl p15 37 [q14] tI, .mv p8 q13 tI, .mv p9 q15 tI] (.sO [.mv p16 q2 tW, .bn p17 .rem q16 (.c (.int .u32 (.ofNat 32))) tW, .P p18 (.conv (.ii .i64) q17) tI, .mv p10 q18 tI] (.sO [.mv p11 (ci 0) tI] (.sj v43_0 (.sO [.mv p19 q0 tI] (.block 0 (.sO [.bn p21 .eql q19 (ci 1) .b, .mv p20 q21 .b] (.cond q20 (.sO [.mv p22 q1 tW, .P p23 (.conv (.ii .i64) q22) tI, .mv p24 q2 tW, .P p25 (.conv (.ii .i64) q24) tI, .bn p26 .add q23 q25 tI, .cl p27 62 [q26] tW, .mv p6 q27 tW, .mv p7 (cb true) .b] (.s .ret)) (.sO [.bn p29 .eql q19 (ci 2) .b, .mv p28 q29 .b] (.cond q28 (.sO [.mv p30 q1 tW, .P p31 (.conv (.ii .i64) q30) tI, .mv p32 q2 tW, .P p33 (.conv (.ii .i64) q32) tI, .bn p34 .sub q31 q33 tI, .cl p35 62 [q34] tW, .mv p6 q35 tW, .mv p7 (cb true) .b] (.s .ret)) (.sO [.bn p37 .eql q19 (ci 3) .b, .mv p36 q37 .b] (.cond q36 (.seq (.ops true (XL.of [.mv p38 q1 tW, .P p39 (.conv (.ii .i64) q38) tI, .mv p40 q10 tI, .bn p41 .sub (ci 32) q40 tI, .mv p44 q10 tI, .cl p42 63 [q41] tI, .bn p43 .rem q39 q42 tI, .cl p45 63 [q44] tI, .bn p46 .mul q43 q45 tI, .cl p47 62 [q46] tW, .mv p6 q47 tW, .mv p7 (cb true) .b])) (.s .ret)) (.sj v43_1 (.sO [.bn p49 .eql q19 (ci 4) .b, .mv p48 q49 .b] (.cond q48 (.s .skip) (.s (.oX [.bn p50 .eql q19 (ci 5) .b, .mv p48 q50 .b])))) c43_1))))))))) c43_0)))))
def x43 : XFn := ⟨[tI, tW, tW], false, [(.tmp p6), (.tmp p7)], c43_e⟩
def e43_0 (k t0 t1 t2 h) := kN k [(p0, (vI t0)), (p1, (vW t1)), (p2, (vW t2))] h
def S43_0 (D : CallD) (m : Nat) (t0 t1 t2 : Int) (h : HP) : Res2 :=
 cal D 67 [(vI t0), (vW t1), (vW t2)] h fun t132 h6 =>
 extC t132 0 fun vt133 => asI .u32 vt133 fun t133 =>
 extC t132 1 fun vt134 => asB vt134 fun t134 =>
 some (.ret (.tup [(vW t133), (vB t134)]) h6, .no)
def e43_2 (k t11 h) := kN k [(p11, (vI t11))] h
def S43_2 (D : CallD) (m : Nat) (t11 : Int) (h : HP) : Res2 :=
 let t68 := wrapF .u32 t11
 some (.ret (.tup [(vW t68), (vB true)]) h, .no)
def e43_1 (k t0 t1 t2 t8 t9 t10 t11 t19 t48 h) := kN k [(p0, (vI t0)), (p1, (vW t1)), (p2, (vW t2)), (p8, (vI t8)), (p9, (vI t9)), (p10, (vI t10)), (p11, (vI t11)), (p19, (vI t19)), (p48, (vB t48))] h
def S43_1 (D : CallD) (m : Nat) (t0 t1 t2 t8 t9 t10 t11 t19 : Int) (t48 : Bool) (h : HP) : Res2 :=
 br t48 (
 let t52 := eqQ t0 (Int.ofNat 4)
 obB (brV t52 (
 let t56 := ltQ t8 t9
 some (vB t56)) (
 some (vB false))) fun t57 =>
 obB (brV t57 (
 some (vB true)) (
 let t60 := eqQ t0 (Int.ofNat 5)
 obBV (brV t60 (
 binCV .lss (vW t1) (vW t2) fun vt64 => asBV vt64 fun t64 =>
 some (vB t64)) (
 some (vB false))) fun t65 =>
 some (vB t65))) fun t66 =>
 br t66 (
 S43_2 D m (Int.ofNat 1) h) (
 S43_2 D m t11 h)) (
 let t70 := eqQ t19 (Int.ofNat 6)
 br t70 (
 cal D 64 [(vI (Int.ofNat 1)), (vW t1), (vW t2)] h fun t73 h12 =>
 asI .u32 t73 fun t73a =>
 some (.ret (.tup [(vW t73a), (vB true)]) h12, .no)) (
 let t75 := eqQ t19 (Int.ofNat 7)
 br t75 (
 obI .i64 (convV (.ii .i64) (vW t1)) fun t77 =>
 cal D 63 [(vI t10)] h fun t79 h13 =>
 asI .i64 t79 fun t79a =>
 obI .i64 (intBin .quo .i64 t77 t79a) fun t80 =>
 let t81 := wrapF .u32 t80
 some (.ret (.tup [(vW t81), (vB true)]) h13, .no)) (
 let t83 := eqQ t19 (Int.ofNat 8)
 br t83 (
 cal D 63 [(vI t10)] h fun t86 h14 =>
 asI .i64 t86 fun t86a =>
 cal D 65 [(vI t8), (vI t86a)] h14 fun t87 h15 =>
 asI .i64 t87 fun t87a =>
 cal D 62 [(vI t87a)] h15 fun t88 h16 =>
 asI .u32 t88 fun t88a =>
 some (.ret (.tup [(vW t88a), (vB true)]) h16, .no)) (
 let t90 := eqQ t19 (Int.ofNat 9)
 br t90 (
 cal D 64 [(vI (Int.ofNat 2)), (vW t1), (vW t2)] h fun t93 h17 =>
 asI .u32 t93 fun t93a =>
 some (.ret (.tup [(vW t93a), (vB true)]) h17, .no)) (
 let t95 := eqQ t19 (Int.ofNat 10)
 br t95 (
 cal D 64 [(vI (Int.ofNat 3)), (vW t1), (vW t2)] h fun t98 h18 =>
 asI .u32 t98 fun t98a =>
 some (.ret (.tup [(vW t98a), (vB true)]) h18, .no)) (
 let t100 := eqQ t19 (Int.ofNat 11)
 br t100 (
 obI .i64 (convV (.ii .i64) (vW t1)) fun t102 =>
 let t103 := Int.tmod t102 (Int.ofNat 65536)
 obI .i64 (convV (.ii .i64) (vW t2)) fun t105 =>
 let t106 := wrQ .i64 (t103 * t105)
 obI .i64 (convV (.ii .i64) (vW t1)) fun t108 =>
 let t109 := wrapF .i64 (Int.tdiv t108 (Int.ofNat 65536))
 obI .i64 (convV (.ii .i64) (vW t2)) fun t111 =>
 let t112 := Int.tmod t111 (Int.ofNat 65536)
 let t113 := wrQ .i64 (t109 * t112)
 let t114 := wrQ .i64 (t113 * (Int.ofNat 65536))
 let t115 := wrQ .i64 (addQ t106 t114)
 cal D 62 [(vI t115)] h fun t116 h19 =>
 asI .u32 t116 fun t116a =>
 some (.ret (.tup [(vW t116a), (vB true)]) h19, .no)) (
 let t118 := eqQ t19 (Int.ofNat 12)
 br t118 (
 let t121 := wrQ .i64 (t8 * t9)
 cal D 65 [(vI t121), (vI (Int.ofNat 4294967296))] h fun t122 h20 =>
 asI .i64 t122 fun t122a =>
 cal D 62 [(vI t122a)] h20 fun t123 h21 =>
 asI .u32 t123 fun t123a =>
 some (.ret (.tup [(vW t123a), (vB true)]) h21, .no)) (
 let t125 := eqQ t19 (Int.ofNat 13)
 br t125 (
 cal D 66 [(vW t1), (vW t2)] h fun t128 h22 =>
 asI .u32 t128 fun t128a =>
 some (.ret (.tup [(vW t128a), (vB true)]) h22, .no)) (
 S43_0 D m t0 t1 t2 h)))))))))
def e43_3 (k t0 t1 t2 h) := kN k [(p0, (vI t0)), (p1, (vW t1)), (p2, (vW t2))] h
def S43_3 (D : CallD) (m : Nat) (t0 t1 t2 : Int) (h : HP) : Res2 :=
 cal D 37 [(vW t1)] h fun t13 h4 =>
 asI .i64 t13 fun t13a =>
 cal D 37 [(vW t2)] h4 fun t15 h5 =>
 asI .i64 t15 fun t15a =>
 binC .rem (vW t2) (vW (Int.ofNat 32)) fun vt17 => asI .u32 vt17 fun t17 =>
 obI .i64 (convV (.ii .i64) (vW t17)) fun t18 =>
 let t21 := eqQ t0 (Int.ofNat 1)
 br t21 (
 obI .i64 (convV (.ii .i64) (vW t1)) fun t23 =>
 obI .i64 (convV (.ii .i64) (vW t2)) fun t25 =>
 let t26 := wrQ .i64 (addQ t23 t25)
 cal D 62 [(vI t26)] h5 fun t27 h7 =>
 asI .u32 t27 fun t27a =>
 some (.ret (.tup [(vW t27a), (vB true)]) h7, .no)) (
 let t29 := eqQ t0 (Int.ofNat 2)
 br t29 (
 obI .i64 (convV (.ii .i64) (vW t1)) fun t31 =>
 obI .i64 (convV (.ii .i64) (vW t2)) fun t33 =>
 let t34 := wrQ .i64 (t31 - t33)
 cal D 62 [(vI t34)] h5 fun t35 h8 =>
 asI .u32 t35 fun t35a =>
 some (.ret (.tup [(vW t35a), (vB true)]) h8, .no)) (
 let t37 := eqQ t0 (Int.ofNat 3)
 br t37 (
 obI .i64 (convV (.ii .i64) (vW t1)) fun t39 =>
 let t41 := wrQ .i64 ((Int.ofNat 32) - t18)
 cal D 63 [(vI t41)] h5 fun t42 h9 =>
 asI .i64 t42 fun t42a =>
 obI .i64 (intBin .rem .i64 t39 t42a) fun t43 =>
 cal D 63 [(vI t18)] h9 fun t45 h10 =>
 asI .i64 t45 fun t45a =>
 let t46 := wrQ .i64 (t43 * t45a)
 cal D 62 [(vI t46)] h10 fun t47 h11 =>
 asI .u32 t47 fun t47a =>
 some (.ret (.tup [(vW t47a), (vB true)]) h11, .no)) (
 let t49 := eqQ t0 (Int.ofNat 4)
 br t49 (
 S43_1 D m t0 t1 t2 t13a t15a t18 (Int.ofNat 0) t0 t49 h5) (
 let t50 := eqQ t0 (Int.ofNat 5)
 S43_1 D m t0 t1 t2 t13a t15a t18 (Int.ofNat 0) t0 t50 h5))))
def S43 : SFn := fun D m args h u => nou u <| popI .i64 args fun t0 args => popI .u32 args fun t1 args => popI .u32 args fun t2 args => endA args (S43_3 D m t0 t1 t2 h)
theorem T43_0 (hE : FX x43 D m E) : S43_0 D m = e43_0 (E c43_0 []) := by unfold S43_0; rw [hE c43_0]; kernel_rfl
theorem T43_2 (hE : FX x43 D m E) : S43_2 D m = e43_2 (E c43_2 [.blk 0, .sj v43_0 c43_0]) := by unfold S43_2; rw [hE c43_2]; kernel_rfl
theorem T43_1 (hE : FX x43 D m E) : S43_1 D m = e43_1 (E c43_1 [.blk 0, .sj v43_0 c43_0]) := by unfold S43_1; rw [T43_2 hE, T43_0 hE, hE c43_1]; kernel_rfl
theorem T43_3 (hE : FX x43 D m E) : S43_3 D m = e43_3 (E c43_e []) := by unfold S43_3; rw [T43_1 hE, hE c43_e]; kernel_rfl
theorem X43 : XTie S43 x43 := X_of fun D m E hE args h u => by unfold S43; rw [T43_3 hE]; kernel_rfl
/- 44 -/
def c44_e : XC := (.sO [.mv p4 (.c Z32) tW, .mv p5 (.c Z32) tW] (.sO [.mv p7 q0 tW, .P p8 (.conv (.ii .u64) q7) (.i .u64), .mv p9 q1 tW, .P p10 (.conv (.ii .u64) q9) (.i .u64), .bn p11 .mul q8 q10 (.i .u64), .mv p6 q11 (.i .u64)] (.sO [.mv p12 q6 (.i .u64), .bn p13 .shr q12 (.c (.int .u64 (.ofNat 32))) (.i .u64), .P p14 (.conv (.ii .u32) q13) tW, .mv p15 q6 (.i .u64), .P p16 (.conv (.ii .u32) q15) tW, .mv p4 q14 tW, .mv p5 q16 tW] (.s .ret))))
def x44 : XFn := ⟨[tW, tW], false, [(.tmp p4), (.tmp p5)], c44_e⟩
def e44_0 (k t0 t1 h) := kN k [(p0, (vW t0)), (p1, (vW t1))] h
def S44_0 (D : CallD) (m : Nat) (t0 t1 : Int) (h : HP) : Res2 :=
 obI .u64 (convV (.ii .u64) (vW t0)) fun t8 =>
 obI .u64 (convV (.ii .u64) (vW t1)) fun t10 =>
 let t11 := wrQ .u64 (t8 * t10)
 let t13 := shrF .u64 t11 32
 let t14 := wrapF .u32 t13
 let t16 := wrapF .u32 t11
 some (.ret (.tup [(vW t14), (vW t16)]) h, .no)
def S44 : SFn := fun D m args h u => nou u <| popI .u32 args fun t0 args => popI .u32 args fun t1 args => endA args (S44_0 D m t0 t1 h)
theorem T44_0 (hE : FX x44 D m E) : S44_0 D m = e44_0 (E c44_e []) := by unfold S44_0; rw [hE c44_e]; kernel_rfl
theorem X44 : XTie S44 x44 := X_of fun D m E hE args h u => by unfold S44; rw [T44_0 hE]; kernel_rfl
/- 45 -/
def x45 : XFn := ⟨[.v], false, [(.tmp p2)], (.sO [.mv p2 (cb false) .b] (.sO [.mv p3 q0 .v, .mv p4 q0 .v, .bn p5 .neq q3 q4 .b, .mv p2 q5 .b] (.s .ret)))⟩
def S45 : SFn := evFX x45
theorem X45 : XTie S45 x45 := fun _ _ _ _ _ => rfl
/- 48 -/
def x48 : XFn := ⟨[.s], false, [(.cell p2), (.cell p3), (.cell p4)], (.sO [.al p2 (.new [.nils]), .al p3 (.new [(kI 0)]), .al p4 (.new [(kI 0)])] (.seq (.seq (.oX [.mv p6 q0 .s, .P p7 (.lens q6) tI, .bn p8 .gtr q7 (ci 8192) .b]) (.cond q8 (.seq (.oX [.st q2 (.c .nils), .st q3 (ci 0), .st q4 (ci 6)]) .ret) .skip)) (.sO [.P p9 (.mkfn 68 [] [q2, q3, q4]) .v, .o ⟨none, (.defer (.val q9) []), none, []⟩ .v] (.sj [p0, p2, p3, p4] (.sO [.mv p10 q0 .s, .cl p11 69 [q10, (ci 0)] tI, .st q3 q11] (.block 0 (.loop [p0, p2, p3, p4] (.seq (.seq (.oX [.ld p12 q3 tI, .mv p13 q0 .s, .P p14 (.lens q13) tI, .bn p15 .lss q12 q14 .b]) (.cond q15 .skip (.exit 0))) (.seq (.block 1 (.seq (.oX [.mv p19 q0 .s, .ld p20 q3 tI, .cl p21 70 [q19, q20] .v, .al p5 (.new [(kI 0), (.str []), (kI 0)]), .ss 3 q5 q21]) (.seq (.seq (.oX [.ld p22 q2 .v, .P p23 (.lenl q22) tI, .bn p24 .eql q23 (ci 2500) .b]) (.cond q24 (.seq (.ops true (XL.of [.ld p25 q3 tI, .o ⟨none, (.e (.store q2 (.c .nils))), none, [⟨none, .cell q3, p25⟩]⟩ .v, .st q3 q25, .st q4 (ci 5)])) .ret) .skip)) (.seq (.oX [.ld p26 q2 .v, .L p27 (.cells 3 q5) .v, .al p28 (.bsl [(kI 0), (.str []), (kI 0)] 1 [⟨0, 3, q27⟩]), .o ⟨(some p29), (.e (.app 3 32 q26 q28)), none, []⟩ .v, .st q2 q29]) (.oX [.ld p30 q3 tI, .fa p31 1 q5, .ld p32 q31 .s, .P p33 (.lens q32) tI, .bn p34 .add q30 q33 tI, .st q3 q34]))))) (.s (.oX [.mv p16 q0 .s, .ld p17 q3 tI, .cl p18 69 [q16, q17] tI, .st q3 q18]))))))) (.sO [.ld p35 q2 .v, .mv p36 q0 .s, .P p37 (.lens q36) tI, .P p38 (.build [(kI 0), (.str []), (kI 0)] [⟨2, 1, q37⟩]) .v, .al p39 (.bsl [(kI 0), (.str []), (kI 0)] 1 [⟨0, 3, q38⟩]), .o ⟨(some p40), (.e (.app 3 32 q35 q39)), none, []⟩ .v, .st q2 q40, .st q3 (ci 0), .st q4 (ci 0)] (.s .ret))))))⟩
def S48 : SFn := evFX x48
theorem X48 : XTie S48 x48 := fun _ _ _ _ _ => rfl
/- 49 -/
def x49 : XFn := ⟨[.v, .v, .v], true, [], (.sO [.o ⟨(some p6), .recover, none, []⟩ .v, .P p7 (.tassert 103 (.agg [(kI 0), (kI 0)]) true q6) .v, .mv p5 q7 .v, .P p8 (.ext q5 0) .v, .P p9 (.ext q5 1) .b, .al p3 (.new [(kI 0), (kI 0)]), .ss 2 q3 q8, .mv p4 q9 .b] (.sO [.mv p10 q4 .b] (.cond q10 (.s (.ops true (XL.of [.P p11 (.build [.nils] []) .v, .fa p12 0 q3, .ld p13 q12 tI, .fa p14 1 q3, .ld p15 q14 tI, .o ⟨none, (.e (.stores 1 q0 q11)), none, [⟨none, .cell q12, p13⟩, ⟨none, .cell q14, p15⟩]⟩ .v, .o ⟨none, (.e (.store q1 q13)), none, [⟨none, .cell q14, p15⟩]⟩ .v, .st q2 q15]))) (.s .skip))))⟩
def S49 : SFn := evFX x49
theorem X49 : XTie S49 x49 := fun _ _ _ _ _ => rfl
/- 50 -/
def x50 : XFn := ⟨[.v], false, [(.cells 3 p2)], (.sO [.al p2 (.new [(kI 0), (.str []), (kI 0)])] (.seq (.ops true (XL.of [.mv p3 q0 .v, .P p4 (.nilck q3) .v, .fa p5 0 q4, .ld p6 q5 .v, .mv p7 q0 .v, .P p8 (.nilck q7) .v, .fa p9 1 q8, .ld p10 q9 tI, .P p11 (.iaddr (.sl 3) q6 q10) .v, .L p12 (.cells 3 q11) .v, .ss 3 q2 q12])) (.s .ret)))⟩
def S50 : SFn := evFX x50
theorem X50 : XTie S50 x50 := fun _ _ _ _ _ => rfl
/- 51 -/
def x51 : XFn := ⟨[.v], false, [(.cells 17 p2)], (.sO [.al p2 (.new Zd)] (.sO [.al p3 (.new Zd)] (.sj [p0, p2, p3] (.sO [.mv p4 q0 .v, .cl p5 71 [q4, (.c (.str [115, 116, 97, 116, 105, 99]))] .b, .fa p6 1 q3, .st q6 q5] (.sO [.fa p7 1 q3, .ld p8 q7 .b, .P p9 (.un .not q8) .b] (.cond q9 (.s (.oX [.mv p10 q0 .v, .cl p11 71 [q10, (.c (.str [101, 120, 116, 101, 114, 110]))] .b, .fa p12 2 q3, .st q12 q11])) (.s .skip)))) (.sO [.mv p13 q0 .v, .cl p14 50 [q13] .v, .P p15 (.field 2 1 false q14) tI, .fa p16 16 q3, .st q16 q15] (.sO [.mv p17 q0 .v, .cl p18 72 [q17] tI, .fa p19 4 q3, .st q19 q18] (.sO [.mv p20 q0 .v, .cl p21 73 [q20, (ci 1)] .s, .fa p22 3 q3, .st q22 q21] (.sj [p0, p2, p3] (.sO [.mv p23 q0 .v, .cl p24 71 [q23, (.c (.str [40]))] .b] (.cond q24 (.sO [.fa p25 0 q3, .st q25 (cb true)] (.sO [.mv p26 q0 .v, .cl p27 74 [q26, q3] .v] (.sj [p2, p3] (.sO [.mv p28 q0 .v, .al p29 (.bsl [(.str [])] 1 [⟨0, 1, (.c (.str [123]))⟩]), .cl p30 75 [q28, q29] .b] (.cond q30 (.sO [.fa p31 7 q3, .st q31 (cb true)] (.s (.oX [.mv p32 q0 .v, .cl p33 76 [q32] .v, .fa p34 9 q3, .ss 7 q34 q33]))) (.s (.oX [.mv p35 q0 .v, .cl p36 77 [q35, (.c (.str [59]))] .v])))) (.sO [.L p37 (.cells 17 q3) .v, .ss 17 q2 q37] (.s .ret))))) (.s .skip))) (.sO [.mv p38 q0 .v, .cl p39 78 [q38] tI, .fa p40 5 q3, .st q40 q39] (.sj [p0, p2, p3] (.sO [.mv p41 q0 .v, .cl p42 71 [q41, (.c (.str [61]))] .b, .fa p43 7 q3, .st q43 q42] (.sO [.fa p44 7 q3, .ld p45 q44 .b] (.cond q45 (.sj [p0, p2, p3] (.sO [.fa p46 5 q3, .ld p47 q46 tI, .bn p48 .gtr q47 (ci 0) .b] (.cond q48 (.s (.oX [.mv p49 q0 .v, .cl p50 77 [q49, (.c (.str [123]))] .v])) (.s .skip))) (.seq (.ops true (XL.of [.fa p51 6 q3, .ld p52 q51 .v, .mv p53 q0 .v, .P p55 (.lenl q52) tI, .al p56 (.bsl Ze 1 [⟨0, 8, (.c (.agg Ze))⟩]), .o ⟨(some p54), (.call (.fn 79) [q53]), none, [⟨none, .cell q51, p52⟩]⟩ .v, .o ⟨(some p57), (.e (.app 8 96 q52 q56)), none, []⟩ .v, .P p58 (.iaddr (.sl 8) q57 q55) .v, .fa p59 6 q3, .o ⟨none, (.e (.st2 (some 8) none q58 q54 q59 q57)), none, []⟩ .v])) (.sj [p0, p2, p3] (.block 0 (.loop [p0, p2, p3] (.sj [p0, p2, p3] (.opq false (XL.pre [.fa p60 5 q3, .ld p61 q60 tI, .bn p62 .gtr q61 (ci 0) .b, .mv p63 q62 .b, .sp p63, .G p63 true p64 (.mov q0) .v, .o ⟨(some p65), (.call (.fn 71) [q64, (.c (.str [44]))]), (some (p63, true)), []⟩ .b, .P p66 (.pick q63 q65 (cb false)) .b, .jn p63 [p0, p2, p3, p66]] (XL.of [])) (.cond q66 (.s .skip) (.s (.exit 0)))) (.block 1 (.s (.ops true (XL.of [.fa p67 6 q3, .ld p68 q67 .v, .mv p69 q0 .v, .P p71 (.lenl q68) tI, .al p72 (.bsl Ze 1 [⟨0, 8, (.c (.agg Ze))⟩]), .o ⟨(some p70), (.call (.fn 79) [q69]), none, [⟨none, .cell q67, p68⟩]⟩ .v, .o ⟨(some p73), (.e (.app 8 96 q68 q72)), none, []⟩ .v, .P p74 (.iaddr (.sl 8) q73 q71) .v, .fa p75 6 q3, .o ⟨none, (.e (.st2 (some 8) none q74 q70 q75 q73)), none, []⟩ .v]))))))) (.sO [.fa p76 5 q3, .ld p77 q76 tI, .bn p78 .gtr q77 (ci 0) .b] (.cond q78 (.s (.oX [.mv p79 q0 .v, .cl p80 77 [q79, (.c (.str [125]))] .v])) (.s .skip)))))) (.s .skip)))) (.sO [.mv p81 q0 .v, .cl p82 77 [q81, (.c (.str [59]))] .v] (.sO [.L p83 (.cells 17 q3) .v, .ss 17 q2 q83] (.s .ret))))))))))))⟩
def S51 : SFn := evFX x51
theorem X51 : XTie S51 x51 := fun _ _ _ _ _ => rfl
/- 52 -/
def c52_e : XC := (.sO [.o ⟨(some p6), .recover, none, []⟩ .v, .P p7 (.tassert 113 (.agg [(kI 0), (kI 0)]) true q6) .v, .mv p5 q7 .v, .P p8 (.ext q5 0) .v, .P p9 (.ext q5 1) .b, .al p3 (.new [(kI 0), (kI 0)]), .ss 2 q3 q8, .mv p4 q9 .b] (.sO [.mv p10 q4 .b] (.cond q10 (.s (.ops true (XL.of [.P p11 (.build [.nils] []) .v, .fa p12 0 q3, .ld p13 q12 tI, .fa p14 1 q3, .ld p15 q14 tI, .o ⟨none, (.e (.stores 1 q0 q11)), none, [⟨none, .cell q12, p13⟩, ⟨none, .cell q14, p15⟩]⟩ .v, .o ⟨none, (.e (.store q1 q13)), none, [⟨none, .cell q14, p15⟩]⟩ .v, .st q2 q15]))) (.s .skip))))
def x52 : XFn := ⟨[.v, .v, .v], true, [], c52_e⟩
def e52_0 (k : St → Res2) (t0 t1 t2 : AV) (h : HP) (u : AMode) : Res2 := k ⟨mkT [(p0, t0), (p1, t1), (p2, t2)], h, [], u⟩
def S52_0 (D : CallD) (m : Nat) (t0 t1 t2 : AV) (h : HP) (u : AMode) : Res2 :=
 recC u fun t6 u1 =>
 obQ (evP (.tassert 113 (.agg [(kI 0), (kI 0)]) true (.c t6)) .leaf) fun t7 =>
 extC t7 0 fun t8 =>
 extC t7 1 fun vt9 => asB vt9 fun t9 =>
 let t3 := AV.ptr (HP.nxQ h) 0
 let h2 := HP.newQ h (.cells true [(kI 0), (kI 0)])
 stsC 2 t3 t8 h2 fun h3 =>
 br t9 (
 let t11 := (AV.agg [(.nils : AV)])
 let t12 := (AV.ptr (HP.nxQ h) (Nat.add 0 0))
 ldI t12 h3 fun t13 =>
 let t14 := (AV.ptr (HP.nxQ h) (Nat.add 0 1))
 ldI t14 h3 fun t15 =>
 stsC 1 t0 t11 h3 fun h4 =>
 br (againE (.stores 1 q0 q11) [⟨none, .cell q12, p13⟩, ⟨none, .cell q14, p15⟩] (mkT [(p0, t0), (p15, (vI t15)), (p14, t14), (p13, (vI t13)), (p12, t12)]) h4) (
 stoC t1 (vI t13) h4 fun h5 =>
 br (againE (.store q1 q13) [⟨none, .cell q14, p15⟩] (mkT [(p1, t1), (p15, (vI t15)), (p14, t14)]) h5) (
 stoC t2 (vI t15) h5 fun h6 =>
 some (.ret (.tup []) h6, u1)) none) none) (
 some (.ret (.tup []) h3, u1))
def S52 : SFn := fun D m args h u => popV args fun t0 args => popV args fun t1 args => popV args fun t2 args => endA args (S52_0 D m t0 t1 t2 h u)
theorem T52_0 (hE : FX x52 D m E) : S52_0 D m = e52_0 (E c52_e []) := by unfold S52_0; rw [hE c52_e]; kernel_rfl
theorem X52 : XTie S52 x52 := X_of fun D m E hE args h u => by unfold S52; rw [T52_0 hE]; kernel_rfl
/- 53 -/
def x53 : XFn := ⟨[], false, [(.tmp p0)], (.sO [.mv p0 (.c .nilm) .v] (.sO [.al p1 (.mkmap), .P p2 (.build [(.str []), (kI 0), (kI 0)] [⟨1, 1, (ci 1)⟩]) .v, .al p3 (.bsl [(.str []), (kI 0), (kI 0)] 1 [⟨0, 3, q2⟩]), .P p4 (.build Zd [⟨0, 1, (cb true)⟩, ⟨3, 1, (.c (.str [112, 117, 116, 119]))⟩, ⟨8, 1, q3⟩]) .v, .P p5 (.build Zs [⟨0, 17, q4⟩, ⟨17, 1, (.c (.str [112, 117, 116, 119]))⟩]) .v, .o ⟨none, (.e (.mset .str q1 (.c (.str [112, 117, 116, 119])) q5)), none, []⟩ .v, .P p6 (.build [(.str []), (kI 0), (kI 0)] [⟨1, 1, (ci 2)⟩]) .v, .al p7 (.bsl [(.str []), (kI 0), (kI 0)] 1 [⟨0, 3, q6⟩]), .P p8 (.build Zd [⟨0, 1, (cb true)⟩, ⟨3, 1, (.c (.str [112, 117, 116, 100]))⟩, ⟨8, 1, q7⟩]) .v, .P p9 (.build Zs [⟨0, 17, q8⟩, ⟨17, 1, (.c (.str [112, 117, 116, 100]))⟩]) .v, .o ⟨none, (.e (.mset .str q1 (.c (.str [112, 117, 116, 100])) q9)), none, []⟩ .v, .P p10 (.build Zd [⟨0, 1, (cb true)⟩, ⟨3, 1, (.c (.str [103, 101, 116, 119]))⟩, ⟨4, 1, (ci 1)⟩]) .v, .P p11 (.build Zs [⟨0, 17, q10⟩, ⟨17, 1, (.c (.str [103, 101, 116, 119]))⟩]) .v, .o ⟨none, (.e (.mset .str q1 (.c (.str [103, 101, 116, 119])) q11)), none, []⟩ .v, .mv p12 q1 .v, .mv p0 q12 .v] (.s .ret)))⟩
def S53 : SFn := evFX x53
theorem X53 : XTie S53 x53 := fun _ _ _ _ _ => rfl
/- 54 -/
def x54 : XFn := ⟨[.v, .v, .v], false, [(.cells 17 p6)], (.sO [.al p4 (.box q1), .al p6 (.new Zd)] (.seq (.ops true (XL.of [.fa p20 3 q4, .ld p21 q20 .s, .al p7 (.new Zs), .o ⟨(some p19), (.call (.fn 53) []), none, [⟨none, .cell q20, p21⟩]⟩ .v, .L p22 (.look .str (.agg Zs) true q19 q21) .v, .mv p18 q22 .v, .P p23 (.ext q18 0) .v, .P p24 (.ext q18 1) .b, .ss 18 q7 q23, .mv p8 q24 .b])) (.sO [.mv p25 q8 .b, .P p26 (.un .not q25) .b, .fa p27 16 q4, .ld p28 q27 tI, .cl p29 55 [q26, (ci 13), q28] .v] (.sj [p0, p2, p4, p6] (.sO [.mv p30 q2 .v, .P p31 (.lenl q30) tI, .mv p32 (ci 0) tI] (.block 0 (.loop [p0, p2, p4, p6, p30, p31, p32] (.sO [.bn p33 .lss q32 q31 .b] (.seq (.cond q33 .skip (.exit 0)) (.sj [p0, p2, p4, p6, p30, p31, p32] (.block 1 (.sO [.P p34 (.iaddr (.sl 17) q30 q32) .v, .L p35 (.cells 17 q34) .v, .al p10 (.new Zd), .ss 17 q10 q35] (.ops true (XL.pre [.fa p36 3 q10, .ld p37 q36 .s, .fa p38 3 q4, .ld p39 q38 .s, .bn p40 .neq q37 q39 .b, .mv p41 q40 .b, .sp p41, .G p41 false p42 (.faddr 0 q10) .v, .o ⟨(some p43), (.l (.cell q42)), (some (p41, false)), []⟩ .b, .G p41 false p44 (.faddr 0 q4) .v, .o ⟨(some p45), (.l (.cell q44)), (some (p41, false)), []⟩ .b, .G p41 false p46 (.eqb false q43 q45) .b, .G p41 false p47 (.mov q46) .b, .sp p47, .o ⟨(some p48), (.l (.cells 17 q10)), (some (p47, true)), []⟩ .v, .fa p57 16 q4, .ld p58 q57 tI, .o ⟨(some p49), (.call (.fn 80) [q48]), (some (p47, true)), [⟨none, .cell q57, p58⟩]⟩ .b, .G p47 true p50 (.mov q49) .b, .sp p50, .o ⟨(some p51), (.l (.cells 17 q4)), (some (p50, true)), []⟩ .v, .o ⟨(some p52), (.call (.fn 80) [q51]), (some (p50, true)), [⟨none, .cell q57, p58⟩]⟩ .b, .G p47 true p53 (.pick q50 q52 (cb false)) .b, .jn p50 [p0, p2, p4, p6, p30, p31, p32, p41, p47, p53, p58]] (XL.pre [.G p47 true p54 (.un .not q53) .b, .G p41 false p55 (.pick q47 q54 (cb false)) .b, .jn p47 [p0, p2, p4, p6, p30, p31, p32, p41, p55, p58]] (XL.pre [.P p56 (.pick q41 (cb true) q55) .b, .jn p41 [p0, p2, p4, p6, p30, p31, p32, p56, p58]] (XL.of [.cl p59 55 [q56, (ci 13), q58] .v]))))))) (.s (.oX [.bn p60 .add q32 (ci 1) tI, .mv p32 q60 tI])))))))) (.sj [p0, p4, p6] (.sO [.mv p61 q2 .v, .P p62 (.lenl q61) tI, .mv p63 (ci 0) tI] (.block 2 (.loop [p0, p4, p6, p61, p62, p63] (.sO [.bn p64 .lss q63 q62 .b] (.seq (.cond q64 .skip (.exit 2)) (.sj [p0, p4, p6, p61, p62, p63] (.block 3 (.sO [.P p65 (.iaddr (.sl 17) q61 q63) .v, .L p66 (.cells 17 q65) .v, .al p12 (.new Zd), .ss 17 q12 q66] (.ops true (XL.pre [.fa p67 3 q12, .ld p68 q67 .s, .fa p69 3 q4, .ld p70 q69 .s, .bn p71 .neq q68 q70 .b, .mv p72 q71 .b, .sp p72, .o ⟨(some p73), (.l (.cells 17 q12)), (some (p72, false)), []⟩ .v, .o ⟨(some p74), (.l (.cells 17 q4)), (some (p72, false)), []⟩ .v, .fa p77 16 q4, .ld p78 q77 tI, .o ⟨(some p75), (.call (.fn 81) [q73, q74]), (some (p72, false)), [⟨none, .cell q77, p78⟩]⟩ .b, .P p76 (.pick q72 (cb true) q75) .b, .jn p72 [p0, p4, p6, p61, p62, p63, p76, p78]] (XL.of [.cl p79 55 [q76, (ci 14), q78] .v]))))) (.s (.oX [.bn p80 .add q63 (ci 1) tI, .mv p63 q80 tI])))))))) (.opq true (XL.pre [.fa p81 0 q4, .ld p82 q81 .b, .mv p83 q82 .b, .sp p83, .G p83 false p84 (.faddr 4 q4) .v, .o ⟨(some p85), (.l (.cell q84)), (some (p83, false)), []⟩ tI, .G p83 false p86 (.bin .neq q85 (ci 0)) .b, .G p83 false p87 (.mov q86) .b, .sp p87, .G p87 true p88 (.faddr 5 q4) .v, .o ⟨(some p89), (.l (.cell q88)), (some (p87, true)), []⟩ tI, .G p87 true p90 (.bin .eql q89 (ci 0)) .b, .G p87 true p91 (.mov q90) .b, .sp p91, .G p91 false p92 (.faddr 4 q4) .v, .o ⟨(some p93), (.l (.cell q92)), (some (p91, false)), []⟩ tI, .fa p107 16 q4, .ld p108 q107 tI, .o ⟨(some p94), (.call (.fn 82) [q93]), (some (p91, false)), [⟨none, .cell q107, p108⟩]⟩ .b, .G p87 true p95 (.pick q91 (cb true) q94) .b, .jn p91 [p0, p4, p6, p83, p87, p95, p108]] (XL.pre [.G p83 false p96 (.pick q87 q95 (cb false)) .b, .jn p87 [p0, p4, p6, p83, p96, p108]] (XL.pre [.G p83 false p97 (.mov q96) .b, .ge p97 (XL.of [.G p97 true p98 (.faddr 2 q4) .v, .o ⟨(some p99), (.l (.cell q98)), (some (p97, true)), []⟩ .b, .G p97 true p100 (.mov q99) .b, .ge p100 (XL.of [.G p100 true p101 (.faddr 7 q4) .v, .o ⟨(some p102), (.l (.cell q101)), (some (p100, true)), []⟩ .b, .G p97 true p103 (.pick q100 q102 (cb false)) .b]) p103 .b, .G p97 true p104 (.un .not q103) .b, .G p83 false p105 (.pick q97 q104 (cb false)) .b]) p105 .b, .P p106 (.pick q83 (cb true) q105) .b, .jn p83 [p0, p4, p6, p106, p108]] (XL.of [.cl p109 55 [q106, (ci 14), q108] .v])))) (.sO [.fa p110 3 q4, .ld p111 q110 .s, .bn p112 .neq q111 (.c (.str [109, 97, 105, 110])) .b, .mv p113 q112 .b, .ge p113 (XL.of [.G p113 false p114 (.faddr 0 q4) .v, .o ⟨(some p115), (.l (.cell q114)), (some (p113, false)), []⟩ .b, .G p113 false p116 (.mov q115) .b, .ge p116 (XL.of [.G p116 true p117 (.faddr 1 q4) .v, .o ⟨(some p118), (.l (.cell q117)), (some (p116, true)), []⟩ .b, .G p116 true p119 (.un .not q118) .b, .G p113 false p120 (.pick q116 q119 (cb false)) .b]) p120 .b, .G p113 false p121 (.mov q120) .b, .ge p121 (XL.of [.G p121 true p122 (.faddr 4 q4) .v, .o ⟨(some p123), (.l (.cell q122)), (some (p121, true)), []⟩ tI, .G p121 true p124 (.bin .eql q123 (ci 1)) .b, .G p113 false p125 (.pick q121 q124 (cb false)) .b]) p125 .b, .G p113 false p126 (.mov q125) .b, .ge p126 (XL.of [.G p126 true p127 (.faddr 8 q4) .v, .o ⟨(some p128), (.l (.cell q127)), (some (p126, true)), []⟩ .v, .G p126 true p129 (.lenl q128) tI, .G p126 true p130 (.bin .eql q129 (ci 0)) .b, .G p113 false p131 (.pick q126 q130 (cb false)) .b]) p131 .b, .P p132 (.pick q113 (cb true) q131) .b]) p132 .b, .fa p133 16 q4, .ld p134 q133 tI, .cl p135 55 [q132, (ci 14), q134] .v] (.seq (.ops true (XL.of [.mv p136 q0 .v, .P p137 (.nilck q136) .v, .fa p138 0 q137, .ld p139 q138 .v, .P p140 (.iaddr (.sl 1) q139 (ci 1)) .v, .ld p141 q140 .v, .fa p142 3 q4, .ld p143 q142 .s, .L p144 (.cells 17 q4) .v, .fa p145 3 q4, .ld p146 q145 .s, .P p147 (.build Zs [⟨0, 17, q144⟩, ⟨17, 1, q146⟩]) .v, .o ⟨none, (.e (.mset .str q141 q143 q147)), none, []⟩ .v])) (.sO [.mv p148 q0 .v, .mv p149 q0 .v, .P p150 (.nilck q149) .v, .fa p151 0 q150, .ld p152 q151 .v, .al p153 (.mkmap), .al p154 (.bsl [.nilm] 1 [⟨0, 1, q153⟩]), .o ⟨(some p155), (.e (.app 1 8 q152 q154)), none, []⟩ .v, .P p156 (.nilck q148) .v, .fa p157 0 q156, .st q157 q155] (.sO [.mv p158 q0 .v, .mv p159 q0 .v, .mv p160 q0 .v, .fa p161 4 q4, .ld p162 q161 tI, .P p163 (.nilck q158) .v, .fa p164 1 q163, .st q164 q162, .P p165 (.nilck q159) .v, .fa p166 2 q165, .st q166 (ci 0), .P p167 (.nilck q160) .v, .fa p168 3 q167, .st q168 (ci 0)] (.sO [.fa p169 8 q4, .ld p170 q169 .v, .cl p171 83 [q170] .v, .fa p172 8 q4, .st q172 q171] (.sj [p0, p4, p6] (.sO [.fa p173 8 q4, .ld p174 q173 .v, .P p175 (.lenl q174) tI, .mv p176 (ci 0) tI] (.block 4 (.loop [p0, p4, p6, p174, p175, p176] (.sO [.bn p177 .lss q176 q175 .b] (.seq (.cond q177 .skip (.exit 4)) (.seq (.block 5 (.seq (.oX [.mv p178 q176 tI, .P p179 (.iaddr (.sl 3) q174 q176) .v, .L p180 (.cells 3 q179) .v, .al p14 (.new [(.str []), (kI 0), (kI 0)]), .mv p13 q178 tI, .ss 3 q14 q180]) (.seq (.oX [.fa p181 1 q14, .ld p182 q181 tI, .bn p183 .neq q182 (ci 0) .b, .fa p184 2 q14, .ld p185 q184 tI, .cl p186 55 [q183, (ci 14), q185] .v]) (.seq (.ops true (XL.of [.mv p188 q0 .v, .P p189 (.nilck q188) .v, .fa p190 0 q189, .ld p191 q190 .v, .P p192 (.iaddr (.sl 1) q191 (ci 2)) .v, .ld p193 q192 .v, .fa p194 0 q14, .ld p195 q194 .s, .L p196 (.look .str (.agg Zs) true q193 q195) .v, .mv p187 q196 .v, .P p197 (.ext q187 0) .v, .P p198 (.ext q187 1) .b, .al p15 (.new Zs), .ss 18 q15 q197, .mv p16 q198 .b])) (.seq (.oX [.mv p199 q16 .b, .P p200 (.un .not q199) .b, .fa p201 2 q14, .ld p202 q201 tI, .cl p203 55 [q200, (ci 13), q202] .v]) (.ops true (XL.of [.fa p204 8 q4, .ld p205 q204 .v, .mv p206 q13 tI, .mv p207 q0 .v, .fa p208 0 q14, .ld p209 q208 .s, .fa p210 1 q14, .ld p211 q210 tI, .P p212 (.build Zd [⟨3, 1, q209⟩, ⟨4, 1, q211⟩]) .v, .o ⟨(some p213), (.call (.fn 84) [q207, q212]), none, [⟨none, .cell q204, p205⟩]⟩ .s, .P p214 (.iaddr (.sl 3) q205 q206) .v, .fa p215 0 q214, .st q215 q213]))))))) (.s (.oX [.bn p216 .add q176 (ci 1) tI, .mv p176 q216 tI])))))))) (.sO [.fa p217 6 q4, .ld p218 q217 .v, .cl p219 85 [q218] .v, .fa p220 6 q4, .st q220 q219] (.sj [p0, p4, p6] (.sO [.fa p221 6 q4, .ld p222 q221 .v, .P p223 (.lenl q222) tI, .mv p224 (ci 0) tI] (.block 6 (.loop [p0, p4, p6, p223, p224] (.sO [.bn p225 .lss q224 q223 .b] (.seq (.cond q225 .skip (.exit 6)) (.seq (.block 7 (.seq (.oX [.mv p226 q224 tI, .mv p17 q226 tI]) (.seq (.ops true (XL.of [.fa p227 6 q4, .ld p228 q227 .v, .mv p229 q17 tI, .mv p230 q0 .v, .fa p231 6 q4, .ld p232 q231 .v, .mv p233 q17 tI, .P p234 (.iaddr (.sl 8) q232 q233) .v, .L p235 (.cells 8 q234) .v, .fa p236 4 q4, .ld p237 q236 tI, .fa p238 6 q4, .ld p239 q238 .v, .mv p240 q17 tI, .P p241 (.iaddr (.sl 8) q239 q240) .v, .fa p242 7 q241, .ld p243 q242 tI, .o ⟨(some p244), (.call (.fn 86) [q230, q235, q237, q243]), none, [⟨none, .cell q227, p228⟩]⟩ .v, .P p245 (.iaddr (.sl 8) q228 q229) .v, .ss 8 q245 q244])) (.ops true (XL.of [.fa p246 5 q4, .ld p247 q246 tI, .bn p248 .eql q247 (ci 0) .b, .mv p249 q248 .b, .ge p249 (XL.of [.G p249 false p250 (.mov q17) tI, .G p249 false p251 (.faddr 5 q4) .v, .o ⟨(some p252), (.l (.cell q251)), (some (p249, false)), []⟩ tI, .G p249 false p253 (.bin .lss q250 q252) .b, .P p254 (.pick q249 (cb true) q253) .b]) p254 .b, .fa p255 6 q4, .ld p256 q255 .v, .mv p257 q17 tI, .P p258 (.iaddr (.sl 8) q256 q257) .v, .fa p259 7 q258, .ld p260 q259 tI, .cl p261 55 [q254, (ci 1), q260] .v]))))) (.s (.oX [.bn p262 .add q224 (ci 1) tI, .mv p224 q262 tI])))))))) (.sj [p0, p4, p6] (.sO [.fa p263 0 q4, .ld p264 q263 .b, .mv p265 q264 .b, .ge p265 (XL.of [.G p265 true p266 (.faddr 7 q4) .v, .o ⟨(some p267), (.l (.cell q266)), (some (p265, true)), []⟩ .b, .P p268 (.pick q265 q267 (cb false)) .b]) p268 .b] (.cond q268 (.s (.oX [.mv p269 q0 .v, .fa p270 9 q4, .fa p271 2 q270, .ld p272 q271 .v, .cl p273 87 [q269, q272] .v, .fa p274 9 q4, .fa p275 2 q274, .st q275 q273])) (.s .skip))) (.sO [.mv p276 q0 .v, .mv p277 q0 .v, .P p278 (.nilck q277) .v, .fa p279 0 q278, .ld p280 q279 .v, .P p281 (.slice (.sl 1) q280 none (some (ci 2)) none) .v, .P p282 (.nilck q276) .v, .fa p283 0 q282, .st q283 q281] (.sO [.L p284 (.cells 17 q4) .v, .ss 17 q6 q284] (.s .ret))))))))))))))))))⟩
def S54 : SFn := evFX x54
theorem X54 : XTie S54 x54 := fun _ _ _ _ _ => rfl
/- 55 -/
def x55 : XFn := ⟨[.b, tI, tI], false, [], (.sO [.mv p6 q0 .b, .P p7 (.un .not q6) .b] (.cond q7 (.s (.oX [.mv p8 q2 tI, .mv p9 q1 tI, .P p10 (.build [(kI 0), (kI 0)] [⟨0, 1, q8⟩, ⟨1, 1, q9⟩]) .v, .P p11 (.mkif 113 q10) .v, .o ⟨none, (.panic q11), none, []⟩ .v])) (.s .skip)))⟩
def S55 : SFn := evFX x55
theorem X55 : XTie S55 x55 := fun _ _ _ _ _ => rfl
/- 58 -/
def x58 : XFn := ⟨[.v, .v, .v], true, [], (.sO [.o ⟨(some p6), .recover, none, []⟩ .v, .P p7 (.tassert 127 (.agg [(kI 0)]) true q6) .v, .mv p5 q7 .v, .P p8 (.ext q5 0) .v, .P p9 (.ext q5 1) .b, .al p3 (.new [(kI 0)]), .ss 1 q3 q8, .mv p4 q9 .b] (.sO [.mv p10 q4 .b] (.cond q10 (.s (.ops true (XL.of [.P p11 (.build Zc []) .v, .fa p12 0 q3, .ld p13 q12 tI, .o ⟨none, (.e (.stores 5 q0 q11)), none, [⟨none, .cell q12, p13⟩]⟩ .v, .st q1 q13, .st q2 (ci 15)]))) (.s .skip))))⟩
def S58 : SFn := evFX x58
theorem X58 : XTie S58 x58 := fun _ _ _ _ _ => rfl
end
end Go.Proofs.YtakcpnpeadkfpaaGreatDoor.Sx
