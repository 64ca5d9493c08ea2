/- Functions, printed by a program of ours: their code, what they do, and that it is so. -/
import Derived.Test.YtcoldhmbmcdemaaGreatSp
set_option maxRecDepth 8000
set_option linter.unusedVariables false
namespace Go.Proofs.YtcoldhmbmcdemaaGreat.Sx
open Go Go.Proofs.YtcoldhmbmcdemaaGreat.Ev
set_option linter.unusedSectionVars false
noncomputable section
variable [Rho]
variable {D : CallD} {m : Nat} {E : XE}
/- 187 -/
def c187_e : XC := (.sO [.al p5 (.box q1), .mv p8 (ci 0) tI] (.sO [.fa p10 5 q5, .ld p11 q10 .v, .P p12 (.iaddr (.sl 8) q11 (ci 0)) .v, .fa p13 6 q12, .ld p14 q13 tI, .mv p9 q14 tI] (.seq (.block 0 (.seq (.oX [.mv p16 q9 tI, .bn p17 .eql q16 (ci 2) .b, .mv p15 q17 .b]) (.cond q15 (.seq (.oX [.mv p18 q0 .v, .fa p19 1 q5, .ld p20 q19 .s, .mv p21 q2 tI, .mv p22 q3 tI, .cl p23 217 [q18, q20, q21, q22] tI, .mv p8 q23 tI]) .ret) (.seq (.oX [.mv p25 q9 tI, .bn p26 .geq q25 (ci 3) .b, .mv p27 q26 .b, .ge p27 (XL.of [.G p27 true p28 (.faddr 1 q5) .v, .o ⟨(some p29), (.l (.cell q28)), (some (p27, true)), []⟩ .s, .G p27 true p30 (.bin .eql q29 (.c (.str [43]))) .b, .P p31 (.pick q27 q30 (cb false)) .b]) p31 .b, .mv p24 q31 .b]) (.cond q24 (.seq (.oX [.mv p32 q0 .v, .mv p33 q9 tI, .mv p34 q2 tI, .mv p35 q3 tI, .cl p36 218 [q32, q33, q34, q35, (.c (.int .u32 (.ofNat 1)))] tI, .mv p8 q36 tI]) .ret) (.seq (.oX [.mv p38 q9 tI, .bn p39 .geq q38 (ci 3) .b, .mv p40 q39 .b, .ge p40 (XL.of [.G p40 true p41 (.faddr 1 q5) .v, .o ⟨(some p42), (.l (.cell q41)), (some (p40, true)), []⟩ .s, .G p40 true p43 (.bin .eql q42 (.c (.str [45]))) .b, .P p44 (.pick q40 q43 (cb false)) .b]) p44 .b, .mv p37 q44 .b]) (.cond q37 (.seq (.oX [.mv p45 q0 .v, .mv p46 q9 tI, .mv p47 q2 tI, .mv p48 q3 tI, .cl p49 218 [q45, q46, q47, q48, (.c (.int .u32 (.ofNat 2)))] tI, .mv p8 q49 tI]) .ret) .skip))))))) (.seq (.seq (.oX [.fa p50 1 q5, .ld p51 q50 .s]) (.block 1 (.seq (.oX [.bn p53 .eql q51 (.c (.str [61, 61])) .b, .mv p52 q53 .b]) (.cond q52 (.seq (.oX [.mv p54 q0 .v, .mv p55 q0 .v, .mv p56 q2 tI, .mv p57 q3 tI, .cl p58 179 [q55, (.c (.int .u32 (.ofNat 2))), q56, q57] tI, .mv p59 q0 .v, .cl p60 178 [q59, (.c (.int .u32 (.ofNat 1)))] tI, .cl p61 179 [q54, (.c (.int .u32 (.ofNat 5))), q58, q60] tI, .mv p8 q61 tI]) .ret) (.seq (.oX [.bn p63 .eql q51 (.c (.str [33, 61])) .b, .mv p62 q63 .b]) (.cond q62 (.seq (.oX [.mv p64 q0 .v, .mv p65 q0 .v, .cl p66 178 [q65, (.c (.int .u32 (.ofNat 0)))] tI, .mv p67 q0 .v, .mv p68 q2 tI, .mv p69 q3 tI, .cl p70 179 [q67, (.c (.int .u32 (.ofNat 2))), q68, q69] tI, .cl p71 179 [q64, (.c (.int .u32 (.ofNat 5))), q66, q70] tI, .mv p8 q71 tI]) .ret) (.seq (.oX [.bn p73 .eql q51 (.c (.str [60])) .b, .mv p72 q73 .b]) (.cond q72 (.seq (.oX [.mv p74 q0 .v, .mv p75 q2 tI, .mv p76 q3 tI, .cl p77 179 [q74, (.c (.int .u32 (.ofNat 4))), q75, q76] tI, .mv p8 q77 tI]) .ret) (.seq (.oX [.bn p79 .eql q51 (.c (.str [62])) .b, .mv p78 q79 .b]) (.cond q78 (.seq (.oX [.mv p80 q0 .v, .mv p81 q3 tI, .mv p82 q2 tI, .cl p83 179 [q80, (.c (.int .u32 (.ofNat 4))), q81, q82] tI, .mv p8 q83 tI]) .ret) (.seq (.oX [.bn p85 .eql q51 (.c (.str [60, 61])) .b, .mv p84 q85 .b]) (.cond q84 (.seq (.oX [.mv p86 q0 .v, .mv p87 q0 .v, .mv p88 q3 tI, .mv p89 q2 tI, .cl p90 179 [q87, (.c (.int .u32 (.ofNat 4))), q88, q89] tI, .mv p91 q0 .v, .cl p92 178 [q91, (.c (.int .u32 (.ofNat 1)))] tI, .cl p93 179 [q86, (.c (.int .u32 (.ofNat 6))), q90, q92] tI, .mv p8 q93 tI]) .ret) (.seq (.oX [.bn p95 .eql q51 (.c (.str [62, 61])) .b, .mv p94 q95 .b]) (.cond q94 (.seq (.oX [.mv p96 q0 .v, .mv p97 q0 .v, .mv p98 q2 tI, .mv p99 q3 tI, .cl p100 179 [q97, (.c (.int .u32 (.ofNat 4))), q98, q99] tI, .mv p101 q0 .v, .cl p102 178 [q101, (.c (.int .u32 (.ofNat 1)))] tI, .cl p103 179 [q96, (.c (.int .u32 (.ofNat 6))), q100, q102] tI, .mv p8 q103 tI]) .ret) .skip)))))))))))))) (.sO [.mv p104 q0 .v, .al p105 (.mkmap), .o ⟨none, (.e (.mset .str q105 (.c (.str [43])) (.c (.int .u32 (.ofNat 1))))), none, []⟩ .v, .o ⟨none, (.e (.mset .str q105 (.c (.str [45])) (.c (.int .u32 (.ofNat 2))))), none, []⟩ .v, .o ⟨none, (.e (.mset .str q105 (.c (.str [42])) (.c (.int .u32 (.ofNat 11))))), none, []⟩ .v, .o ⟨none, (.e (.mset .str q105 (.c (.str [47])) (.c (.int .u32 (.ofNat 14))))), none, []⟩ .v, .o ⟨none, (.e (.mset .str q105 (.c (.str [37])) (.c (.int .u32 (.ofNat 16))))), none, []⟩ .v, .o ⟨none, (.e (.mset .str q105 (.c (.str [60, 60])) (.c (.int .u32 (.ofNat 3))))), none, []⟩ .v, .o ⟨none, (.e (.mset .str q105 (.c (.str [62, 62])) (.c (.int .u32 (.ofNat 8))))), none, []⟩ .v, .o ⟨none, (.e (.mset .str q105 (.c (.str [38])) (.c (.int .u32 (.ofNat 10))))), none, []⟩ .v, .o ⟨none, (.e (.mset .str q105 (.c (.str [94])) (.c (.int .u32 (.ofNat 6))))), none, []⟩ .v, .o ⟨none, (.e (.mset .str q105 (.c (.str [124])) (.c (.int .u32 (.ofNat 9))))), none, []⟩ .v, .mv p106 q105 .v, .fa p107 1 q5, .ld p108 q107 .s, .L p109 (.look .str (.int .u32 (.ofNat 0)) false q106 q108) tW, .mv p110 q2 tI, .mv p111 q3 tI, .cl p112 179 [q104, q109, q110, q111] tI, .mv p8 q112 tI] (.s .ret))))))
def x187 : XFn := ⟨[.v, .v, tI, tI], false, [(.tmp p8)], c187_e⟩
def e187_0 (k t0 t1 t2 t3 h) := kN k [(p0, t0), (p1, t1), (p2, (vI t2)), (p3, (vI t3))] h
def S187_0 (D : CallD) (m : Nat) (t0 t1 : AV) (t2 t3 : Int) (h : HP) : Res2 :=
 let t5 := AV.ptr (HP.nxQ h) 0
 let h1 := HP.newQ h (.cells true (AV.cells t1))
 let t10 := (AV.ptr (HP.nxQ h) (Nat.add 0 5))
 cellC t10 h1 fun t11 =>
 iasC 8 t11 (vI (Int.ofNat 0)) fun t12 =>
 faC 6 t12 fun t13 =>
 ldI t13 h1 fun t14 =>
 let t17 := eqQ t14 (Int.ofNat 2)
 br t17 (
 let t19 := (AV.ptr (HP.nxQ h) (Nat.add 0 1))
 ldS t19 h1 fun t20 =>
 cal D 217 [t0, (vS t20), (vI t2), (vI t3)] h1 fun t23 h2 =>
 asI .i64 t23 fun t23a =>
 some (.ret (vI t23a) h2, .no)) (
 let t26 := leQ (Int.ofNat 3) t14
 obB (brV t26 (
 let t28 := (AV.ptr (HP.nxQ h) (Nat.add 0 1))
 ldSV t28 h1 fun t29 =>
 let t30 := eqL t29 ([43] : LN)
 some (vB t30)) (
 some (vB false))) fun t31 =>
 br t31 (
 cal D 218 [t0, (vI t14), (vI t2), (vI t3), (vW (Int.ofNat 1))] h1 fun t36 h3 =>
 asI .i64 t36 fun t36a =>
 some (.ret (vI t36a) h3, .no)) (
 let t39 := leQ (Int.ofNat 3) t14
 obB (brV t39 (
 let t41 := (AV.ptr (HP.nxQ h) (Nat.add 0 1))
 ldSV t41 h1 fun t42 =>
 let t43 := eqL t42 ([45] : LN)
 some (vB t43)) (
 some (vB false))) fun t44 =>
 br t44 (
 cal D 218 [t0, (vI t14), (vI t2), (vI t3), (vW (Int.ofNat 2))] h1 fun t49 h4 =>
 asI .i64 t49 fun t49a =>
 some (.ret (vI t49a) h4, .no)) (
 let t50 := (AV.ptr (HP.nxQ h) (Nat.add 0 1))
 ldS t50 h1 fun t51 =>
 let t53 := eqL t51 ([61, 61] : LN)
 br t53 (
 cal D 179 [t0, (vW (Int.ofNat 2)), (vI t2), (vI t3)] h1 fun t58 h5 =>
 asI .i64 t58 fun t58a =>
 cal D 178 [t0, (vW (Int.ofNat 1))] h5 fun t60 h6 =>
 asI .i64 t60 fun t60a =>
 cal D 179 [t0, (vW (Int.ofNat 5)), (vI t58a), (vI t60a)] h6 fun t61 h7 =>
 asI .i64 t61 fun t61a =>
 some (.ret (vI t61a) h7, .no)) (
 let t63 := eqL t51 ([33, 61] : LN)
 br t63 (
 cal D 178 [t0, (vW (Int.ofNat 0))] h1 fun t66 h8 =>
 asI .i64 t66 fun t66a =>
 cal D 179 [t0, (vW (Int.ofNat 2)), (vI t2), (vI t3)] h8 fun t70 h9 =>
 asI .i64 t70 fun t70a =>
 cal D 179 [t0, (vW (Int.ofNat 5)), (vI t66a), (vI t70a)] h9 fun t71 h10 =>
 asI .i64 t71 fun t71a =>
 some (.ret (vI t71a) h10, .no)) (
 let t73 := eqL t51 ([60] : LN)
 br t73 (
 cal D 179 [t0, (vW (Int.ofNat 4)), (vI t2), (vI t3)] h1 fun t77 h11 =>
 asI .i64 t77 fun t77a =>
 some (.ret (vI t77a) h11, .no)) (
 let t79 := eqL t51 ([62] : LN)
 br t79 (
 cal D 179 [t0, (vW (Int.ofNat 4)), (vI t3), (vI t2)] h1 fun t83 h12 =>
 asI .i64 t83 fun t83a =>
 some (.ret (vI t83a) h12, .no)) (
 let t85 := eqL t51 ([60, 61] : LN)
 br t85 (
 cal D 179 [t0, (vW (Int.ofNat 4)), (vI t3), (vI t2)] h1 fun t90 h13 =>
 asI .i64 t90 fun t90a =>
 cal D 178 [t0, (vW (Int.ofNat 1))] h13 fun t92 h14 =>
 asI .i64 t92 fun t92a =>
 cal D 179 [t0, (vW (Int.ofNat 6)), (vI t90a), (vI t92a)] h14 fun t93 h15 =>
 asI .i64 t93 fun t93a =>
 some (.ret (vI t93a) h15, .no)) (
 let t95 := eqL t51 ([62, 61] : LN)
 br t95 (
 cal D 179 [t0, (vW (Int.ofNat 4)), (vI t2), (vI t3)] h1 fun t100 h16 =>
 asI .i64 t100 fun t100a =>
 cal D 178 [t0, (vW (Int.ofNat 1))] h16 fun t102 h17 =>
 asI .i64 t102 fun t102a =>
 cal D 179 [t0, (vW (Int.ofNat 6)), (vI t100a), (vI t102a)] h17 fun t103 h18 =>
 asI .i64 t103 fun t103a =>
 some (.ret (vI t103a) h18, .no)) (
 let t105 := AV.map (HP.nxQ h1)
 let h19 := HP.newQ h1 (.map [] 0)
 eff (.mset .str (.c t105) (.c (vS ([43] : LN))) (.c (vW (Int.ofNat 1)))) h19 fun t0a h20 =>
 eff (.mset .str (.c t105) (.c (vS ([45] : LN))) (.c (vW (Int.ofNat 2)))) h20 fun t0aa h21 =>
 eff (.mset .str (.c t105) (.c (vS ([42] : LN))) (.c (vW (Int.ofNat 11)))) h21 fun t0aaa h22 =>
 eff (.mset .str (.c t105) (.c (vS ([47] : LN))) (.c (vW (Int.ofNat 14)))) h22 fun t0aaaa h23 =>
 eff (.mset .str (.c t105) (.c (vS ([37] : LN))) (.c (vW (Int.ofNat 16)))) h23 fun t0aaaaa h24 =>
 eff (.mset .str (.c t105) (.c (vS ([60, 60] : LN))) (.c (vW (Int.ofNat 3)))) h24 fun t0aaaaaa h25 =>
 eff (.mset .str (.c t105) (.c (vS ([62, 62] : LN))) (.c (vW (Int.ofNat 8)))) h25 fun t0aaaaaaa h26 =>
 eff (.mset .str (.c t105) (.c (vS ([38] : LN))) (.c (vW (Int.ofNat 10)))) h26 fun t0aaaaaaaa h27 =>
 eff (.mset .str (.c t105) (.c (vS ([94] : LN))) (.c (vW (Int.ofNat 6)))) h27 fun t0aaaaaaaaa h28 =>
 eff (.mset .str (.c t105) (.c (vS ([124] : LN))) (.c (vW (Int.ofNat 9)))) h28 fun t0aaaaaaaaaa h29 =>
 let t107 := (AV.ptr (HP.nxQ h) (Nat.add 0 1))
 ldS t107 h29 fun t108 =>
 obI .u32 (evL (.look .str (.int .u32 (.ofNat 0)) false (.c t105) (.c (vS t108))) .leaf h29) fun t109 =>
 cal D 179 [t0, (vW t109), (vI t2), (vI t3)] h29 fun t112 h30 =>
 asI .i64 t112 fun t112a =>
 some (.ret (vI t112a) h30, .no))))))))))
def S187 : SFn := fun D m args h u => nou u <| popV args fun t0 args => popV args fun t1 args => popI .i64 args fun t2 args => popI .i64 args fun t3 args => endA args (S187_0 D m t0 t1 t2 t3 h)
theorem T187_0 (hE : FX x187 D m E) : S187_0 D m = e187_0 (E c187_e []) := by unfold S187_0; rw [hE c187_e]; kernel_rfl
theorem X187 : XTie S187 x187 := X_of fun D m E hE args h u => by unfold S187; rw [T187_0 hE]; kernel_rfl
/- 188 -/
def c188_e : XC := (.sO [.al p3 (.box q1), .mv p4 (ci 0) tI, .mv p5 (ci 0) tI] (.seq (.seq (.oX [.fa p10 0 q3, .ld p11 q10 tI]) (.block 0 (.seq (.oX [.bn p13 .eql q11 (ci 3) .b, .mv p12 q13 .b]) (.cond q12 (.seq (.seq (.ops true (XL.of [.mv p15 q0 .v, .P p16 (.nilck q15) .v, .fa p17 6 q16, .ld p18 q17 .v, .fa p19 2 q3, .ld p20 q19 .s, .L p21 (.look .str (.agg [(kI 0), (kI 0), (kI 0), (kI 0)]) true q18 q20) .v, .mv p14 q21 .v, .P p22 (.ext q14 0) .v, .P p23 (.ext q14 1) .b, .al p6 (.new [(kI 0), (kI 0), (kI 0), (kI 0)]), .ss 4 q6 q22, .mv p7 q23 .b])) (.seq (.oX [.mv p24 q7 .b]) (.cond q24 (.seq (.seq (.oX [.fa p25 0 q6, .ld p26 q25 tI, .bn p27 .geq q26 (ci 0) .b]) (.cond q27 (.seq (.oX [.fa p28 0 q6, .ld p29 q28 tI, .mv p4 q29 tI, .mv p5 (.c (.int .i64 (.negSucc 0))) tI]) .ret) .skip)) (.seq (.oX [.mv p30 q0 .v, .fa p31 1 q6, .ld p32 q31 tI, .cl p33 141 [q30, q32] tI, .mv p4 (.c (.int .i64 (.negSucc 0))) tI, .mv p5 q33 tI]) .ret)) .skip))) (.seq (.oX [.mv p34 q0 .v, .cl p35 90 [q34, (ci 1)] tI, .mv p8 q35 tI]) (.seq (.oX [.mv p36 q0 .v, .mv p37 q8 tI, .fa p38 2 q3, .ld p39 q38 .s, .P p40 (.build [(kI 0), (kI 0), (kI 0), (kI 0), (.int .u32 (.ofNat 0)), (.int .u64 (.ofNat 0)), (.str []), .nils, (kI 0)] [⟨0, 1, (ci 10)⟩, ⟨1, 1, q37⟩, ⟨6, 1, q39⟩]) .v, .cl p41 140 [q36, q40] .v]) (.seq (.oX [.mv p42 q8 tI, .mv p4 (.c (.int .i64 (.negSucc 0))) tI, .mv p5 q42 tI]) .ret)))) (.seq (.oX [.bn p44 .eql q11 (ci 8) .b, .mv p43 q44 .b]) (.cond q43 (.seq (.oX [.mv p45 q0 .v, .fa p46 5 q3, .ld p47 q46 .v, .P p48 (.iaddr (.sl 8) q47 (ci 0)) .v, .L p49 (.cells 8 q48) .v, .cl p50 145 [q45, q49] tI, .mv p9 q50 tI]) (.seq (.ops true (XL.of [.mv p51 q0 .v, .fa p52 5 q3, .ld p53 q52 .v, .P p54 (.iaddr (.sl 8) q53 (ci 0)) .v, .fa p55 6 q54, .ld p56 q55 tI, .mv p57 q9 tI, .mv p58 q0 .v, .fa p59 5 q3, .ld p60 q59 .v, .P p61 (.iaddr (.sl 8) q60 (ci 1)) .v, .L p62 (.cells 8 q61) .v, .o ⟨(some p63), (.call (.fn 145) [q58, q62]), none, [⟨none, .cell q52, p53⟩, ⟨none, .cell q55, p56⟩]⟩ tI, .cl p64 218 [q51, q56, q57, q63, (.c (.int .u32 (.ofNat 1)))] tI, .mv p4 (.c (.int .i64 (.negSucc 0))) tI, .mv p5 q64 tI])) .ret)) .skip)))))) (.sO [.mv p65 q0 .v, .fa p66 5 q3, .ld p67 q66 .v, .P p68 (.iaddr (.sl 8) q67 (ci 0)) .v, .L p69 (.cells 8 q68) .v, .cl p70 145 [q65, q69] tI, .mv p4 (.c (.int .i64 (.negSucc 0))) tI, .mv p5 q70 tI] (.s .ret))))
def x188 : XFn := ⟨[.v, .v], false, [(.tmp p4), (.tmp p5)], c188_e⟩
def e188_0 (k t0 t1 h) := kN k [(p0, t0), (p1, t1)] h
def S188_0 (D : CallD) (m : Nat) (t0 t1 : AV) (h : HP) : Res2 :=
 let t3 := AV.ptr (HP.nxQ h) 0
 let h1 := HP.newQ h (.cells true (AV.cells t1))
 let t10 := (AV.ptr (HP.nxQ h) (Nat.add 0 0))
 ldI t10 h1 fun t11 =>
 let t13 := eqQ t11 (Int.ofNat 3)
 br t13 (
 nilckC t0 fun t16 =>
 faC 6 t16 fun t17 =>
 cellC t17 h1 fun t18 =>
 let t19 := (AV.ptr (HP.nxQ h) (Nat.add 0 2))
 ldS t19 h1 fun t20 =>
 obQ (evL (.look .str (.agg [(kI 0), (kI 0), (kI 0), (kI 0)]) true (.c t18) (.c (vS t20))) .leaf h1) fun t21 =>
 extC t21 0 fun t22 =>
 extC t21 1 fun vt23 => asB vt23 fun t23 =>
 let t6 := AV.ptr (HP.nxQ h1) 0
 let h2 := HP.newQ h1 (.cells true [(kI 0), (kI 0), (kI 0), (kI 0)])
 stsC 4 t6 t22 h2 fun h3 =>
 br t23 (
 let t25 := (AV.ptr (HP.nxQ h1) (Nat.add 0 0))
 ldI t25 h3 fun t26 =>
 let t27 := leQ (Int.ofNat 0) t26
 br t27 (
 let t28 := (AV.ptr (HP.nxQ h1) (Nat.add 0 0))
 ldI t28 h3 fun t29 =>
 some (.ret (.tup [(vI t29), (vI (Int.negSucc 0))]) h3, .no)) (
 let t31 := (AV.ptr (HP.nxQ h1) (Nat.add 0 1))
 ldI t31 h3 fun t32 =>
 cal D 141 [t0, (vI t32)] h3 fun t33 h4 =>
 asI .i64 t33 fun t33a =>
 some (.ret (.tup [(vI (Int.negSucc 0)), (vI t33a)]) h4, .no))) (
 cal D 90 [t0, (vI (Int.ofNat 1))] h3 fun t35 h5 =>
 asI .i64 t35 fun t35a =>
 let t38 := (AV.ptr (HP.nxQ h) (Nat.add 0 2))
 ldS t38 h5 fun t39 =>
 let t40 := (AV.agg [(vI (Int.ofNat 10)), (vI t35a), (vI (Int.ofNat 0)), (vI (Int.ofNat 0)), (vW (Int.ofNat 0)), (AV.int .u64 (Int.ofNat 0)), (vS t39), (.nils : AV), (vI (Int.ofNat 0))])
 cal D 140 [t0, t40] h5 fun t41 h6 =>
 some (.ret (.tup [(vI (Int.negSucc 0)), (vI t35a)]) h6, .no))) (
 let t44 := eqQ t11 (Int.ofNat 8)
 br t44 (
 let t46 := (AV.ptr (HP.nxQ h) (Nat.add 0 5))
 cellC t46 h1 fun t47 =>
 iasC 8 t47 (vI (Int.ofNat 0)) fun t48 =>
 cellsC 8 t48 h1 fun t49 =>
 cal D 145 [t0, t49] h1 fun t50 h7 =>
 asI .i64 t50 fun t50a =>
 let t52 := (AV.ptr (HP.nxQ h) (Nat.add 0 5))
 cellC t52 h7 fun t53 =>
 iasC 8 t53 (vI (Int.ofNat 0)) fun t54 =>
 faC 6 t54 fun t55 =>
 ldI t55 h7 fun t56 =>
 let t59 := (AV.ptr (HP.nxQ h) (Nat.add 0 5))
 cellC t59 h7 fun t60 =>
 iasC 8 t60 (vI (Int.ofNat 1)) fun t61 =>
 cellsC 8 t61 h7 fun t62 =>
 cal D 145 [t0, t62] h7 fun t63 h8 =>
 br (again [⟨none, .cell q52, p53⟩, ⟨none, .cell q55, p56⟩] (mkT [(p56, (vI t56)), (p55, t55), (p53, t53), (p52, t52)]) h8) (
 asI .i64 t63 fun t63a =>
 cal D 218 [t0, (vI t56), (vI t50a), (vI t63a), (vW (Int.ofNat 1))] h8 fun t64 h9 =>
 asI .i64 t64 fun t64a =>
 some (.ret (.tup [(vI (Int.negSucc 0)), (vI t64a)]) h9, .no)) none) (
 let t66 := (AV.ptr (HP.nxQ h) (Nat.add 0 5))
 cellC t66 h1 fun t67 =>
 iasC 8 t67 (vI (Int.ofNat 0)) fun t68 =>
 cellsC 8 t68 h1 fun t69 =>
 cal D 145 [t0, t69] h1 fun t70 h10 =>
 asI .i64 t70 fun t70a =>
 some (.ret (.tup [(vI (Int.negSucc 0)), (vI t70a)]) h10, .no)))
def S188 : SFn := fun D m args h u => nou u <| popV args fun t0 args => popV args fun t1 args => endA args (S188_0 D m t0 t1 h)
theorem T188_0 (hE : FX x188 D m E) : S188_0 D m = e188_0 (E c188_e []) := by unfold S188_0; rw [hE c188_e]; kernel_rfl
theorem X188 : XTie S188 x188 := X_of fun D m E hE args h u => by unfold S188; rw [T188_0 hE]; kernel_rfl
/- 189 -/
def v189_0 : List Pos := [p0, p2, p8, p9]
def c189_0 : XC := (.sO [.mv p27 q0 .v, .mv p28 q9 tI, .mv p29 q8 tI, .mv p30 q2 tI, .P p31 (.build [(kI 0), (kI 0), (kI 0), (kI 0), (.int .u32 (.ofNat 0)), (.int .u64 (.ofNat 0)), (.str []), .nils, (kI 0)] [⟨0, 1, q28⟩, ⟨1, 1, q29⟩, ⟨2, 1, q30⟩]) .v, .cl p32 140 [q27, q31] .v] (.sO [.mv p33 q8 tI, .mv p6 q33 tI] (.s .ret)))
def c189_e : XC := (.sO [.al p4 (.box q1), .mv p6 (ci 0) tI] (.sO [.fa p10 5 q4, .ld p11 q10 .v, .P p12 (.iaddr (.sl 8) q11 (ci 0)) .v, .fa p13 6 q12, .ld p14 q13 tI, .mv p7 q14 tI] (.seq (.seq (.oX [.mv p15 q7 tI, .fa p16 6 q4, .ld p17 q16 tI, .bn p18 .eql q15 q17 .b]) (.cond q18 (.seq (.oX [.mv p19 q2 tI, .mv p6 q19 tI]) .ret) .skip)) (.sO [.mv p20 q0 .v, .fa p21 6 q4, .ld p22 q21 tI, .cl p23 90 [q20, q22] tI, .mv p8 q23 tI] (.sO [.mv p9 (ci 8) tI] (.sj v189_0 (.sO [.fa p24 6 q4, .ld p25 q24 tI, .bn p26 .eql q25 (ci 2) .b] (.cond q26 (.s (.oX [.mv p9 (ci 9) tI])) (.s .skip))) c189_0))))))
def x189 : XFn := ⟨[.v, .v, tI], false, [(.tmp p6)], c189_e⟩
def e189_0 (k t0 t2 t8 t9 h) := kN k [(p0, t0), (p2, (vI t2)), (p8, (vI t8)), (p9, (vI t9))] h
def S189_0 (D : CallD) (m : Nat) (t0 : AV) (t2 t8 t9 : Int) (h : HP) : Res2 :=
 let t31 := (AV.agg [(vI t9), (vI t8), (vI t2), (vI (Int.ofNat 0)), (vW (Int.ofNat 0)), (AV.int .u64 (Int.ofNat 0)), (vS ([] : LN)), (.nils : AV), (vI (Int.ofNat 0))])
 cal D 140 [t0, t31] h fun t32 h4 =>
 some (.ret (vI t8) h4, .no)
def e189_1 (k t0 t1 t2 h) := kN k [(p0, t0), (p1, t1), (p2, (vI t2))] h
def S189_1 (D : CallD) (m : Nat) (t0 t1 : AV) (t2 : Int) (h : HP) : Res2 :=
 let t4 := AV.ptr (HP.nxQ h) 0
 let h2 := HP.newQ h (.cells true (AV.cells t1))
 let t10 := (AV.ptr (HP.nxQ h) (Nat.add 0 5))
 cellC t10 h2 fun t11 =>
 iasC 8 t11 (vI (Int.ofNat 0)) fun t12 =>
 faC 6 t12 fun t13 =>
 ldI t13 h2 fun t14 =>
 let t16 := (AV.ptr (HP.nxQ h) (Nat.add 0 6))
 ldI t16 h2 fun t17 =>
 let t18 := eqQ t14 t17
 br t18 (
 some (.ret (vI t2) h2, .no)) (
 let t21 := (AV.ptr (HP.nxQ h) (Nat.add 0 6))
 ldI t21 h2 fun t22 =>
 cal D 90 [t0, (vI t22)] h2 fun t23 h3 =>
 asI .i64 t23 fun t23a =>
 let t24 := (AV.ptr (HP.nxQ h) (Nat.add 0 6))
 ldI t24 h3 fun t25 =>
 let t26 := eqQ t25 (Int.ofNat 2)
 br t26 (
 S189_0 D m t0 t2 t23a (Int.ofNat 9) h3) (
 S189_0 D m t0 t2 t23a (Int.ofNat 8) h3))
def S189 : SFn := fun D m args h u => nou u <| popV args fun t0 args => popV args fun t1 args => popI .i64 args fun t2 args => endA args (S189_1 D m t0 t1 t2 h)
theorem T189_0 (hE : FX x189 D m E) : S189_0 D m = e189_0 (E c189_0 []) := by unfold S189_0; rw [hE c189_0]; kernel_rfl
theorem T189_1 (hE : FX x189 D m E) : S189_1 D m = e189_1 (E c189_e []) := by unfold S189_1; rw [T189_0 hE, hE c189_e]; kernel_rfl
theorem X189 : XTie S189 x189 := X_of fun D m E hE args h u => by unfold S189; rw [T189_1 hE]; kernel_rfl
/- 190 -/
def v190_1 : List Pos := [p0, p5]
def c190_1 : XC := (.sO [.mv p36 q0 .v, .L p37 (.cells 9 q5) .v, .cl p38 140 [q36, q37] .v] (.sO [.fa p39 1 q5, .ld p40 q39 tI, .mv p4 q40 tI] (.s .ret)))
def v190_0 : List Pos := [p0, p3, p5]
def c190_0 : XC := (.sj v190_1 (.sO [.fa p27 6 q3, .ld p28 q27 tI, .bn p29 .neq q28 (ci 0) .b] (.cond q29 (.s (.oX [.mv p30 q0 .v, .fa p31 6 q3, .ld p32 q31 tI, .cl p33 91 [q32] tI, .cl p34 90 [q30, q33] tI, .fa p35 1 q5, .st q35 q34])) (.s .skip))) c190_1)
def v190_2 : List Pos := [p0, p3, p5, p12, p13, p14]
def c190_2b : XC := (.sO [.bn p15 .lss q14 q13 .b] (.seq (.cond q15 .skip (.exit 0)) (.seq (.block 1 (.seq (.oX [.P p16 (.iaddr (.sl 8) q12 q14) .v, .L p17 (.cells 8 q16) .v, .al p7 (.new [(kI 0), (.str []), (.str []), (.int .u32 (.ofNat 0)), (.int .u64 (.ofNat 0)), .nils, (kI 0), (kI 0)]), .ss 8 q7 q17]) (.ops true (XL.of [.fa p18 7 q5, .ld p19 q18 .v, .mv p20 q0 .v, .L p21 (.cells 8 q7) .v, .o ⟨(some p22), (.call (.fn 145) [q20, q21]), none, [⟨none, .cell q18, p19⟩]⟩ tI, .al p23 (.bsl [(kI 0)] 1 [⟨0, 1, q22⟩]), .o ⟨(some p24), (.e (.app 1 8 q19 q23)), none, []⟩ .v, .fa p25 7 q5, .st q25 q24])))) (.s (.oX [.bn p26 .add q14 (ci 1) tI, .mv p14 q26 tI])))))
def c190_e : XC := (.sO [.al p3 (.box q1), .mv p4 (ci 0) tI] (.sO [.fa p8 2 q3, .ld p9 q8 .s, .P p10 (.build [(kI 0), (kI 0), (kI 0), (kI 0), (.int .u32 (.ofNat 0)), (.int .u64 (.ofNat 0)), (.str []), .nils, (kI 0)] [⟨0, 1, (ci 16)⟩, ⟨1, 1, (.c (.int .i64 (.negSucc 0)))⟩, ⟨6, 1, q9⟩]) .v, .al p5 (.new [(kI 0), (kI 0), (kI 0), (kI 0), (.int .u32 (.ofNat 0)), (.int .u64 (.ofNat 0)), (.str []), .nils, (kI 0)]), .ss 9 q5 q10] (.sj v190_0 (.sO [.fa p11 5 q3, .ld p12 q11 .v, .P p13 (.lenl q12) tI, .mv p14 (ci 0) tI] (.block 0 (.loop v190_2 c190_2b))) c190_0)))
def x190 : XFn := ⟨[.v, .v], false, [(.tmp p4)], c190_e⟩
def e190_1 (k t0 t5 h) := kN k [(p0, t0), (p5, t5)] h
def S190_1 (D : CallD) (m : Nat) (t0 t5 : AV) (h : HP) : Res2 :=
 cellsC 9 t5 h fun t37 =>
 cal D 140 [t0, t37] h fun t38 h7 =>
 faC 1 t5 fun t39 =>
 ldI t39 h7 fun t40 =>
 some (.ret (vI t40) h7, .no)
def e190_0 (k t0 t3 t5 h) := kN k [(p0, t0), (p3, t3), (p5, t5)] h
def S190_0 (D : CallD) (m : Nat) (t0 t3 t5 : AV) (h : HP) : Res2 :=
 faC 6 t3 fun t27 =>
 ldI t27 h fun t28 =>
 let t29 := notQ (eqQ t28 (Int.ofNat 0))
 br t29 (
 faC 6 t3 fun t31 =>
 ldI t31 h fun t32 =>
 cal D 91 [(vI t32)] h fun t33 h8 =>
 asI .i64 t33 fun t33a =>
 cal D 90 [t0, (vI t33a)] h8 fun t34 h9 =>
 asI .i64 t34 fun t34a =>
 faC 1 t5 fun t35 =>
 stoC t35 (vI t34a) h9 fun h10 =>
 S190_1 D m t0 t5 h10) (
 S190_1 D m t0 t5 h)
def e190_2 (k t0 t3 t5 t12 t13 t14 h) := kN k [(p0, t0), (p3, t3), (p5, t5), (p12, t12), (p13, (vI t13)), (p14, (vI t14))] h
def S190_2b (D : CallD) (m : Nat) (g2 : AV → AV → AV → AV → Int → Int → HP → Res2) (t0 t3 t5 t12 : AV) (t13 t14 : Int) (h : HP) : Res2 :=
 let t15 := ltQ t14 t13
 br t15 (
 iasC 8 t12 (vI t14) fun t16 =>
 cellsC 8 t16 h fun t17 =>
 let t7 := AV.ptr (HP.nxQ h) 0
 let h11 := HP.newQ h (.cells true [(kI 0), (.str []), (.str []), (.int .u32 (.ofNat 0)), (.int .u64 (.ofNat 0)), .nils, (kI 0), (kI 0)])
 stsC 8 t7 t17 h11 fun h12 =>
 faC 7 t5 fun t18 =>
 cellC t18 h12 fun t19 =>
 cellsC 8 t7 h12 fun t21 =>
 cal D 145 [t0, t21] h12 fun t22 h13 =>
 br (again [⟨none, .cell q18, p19⟩] (mkT [(p19, t19), (p18, t18)]) h13) (
 asI .i64 t22 fun t22a =>
 let t23 := AV.slice (HP.nxQ h13) 0 1 (.exact 1)
 let h14 := HP.newQ h13 (.cells true [(vI t22a)])
 eff (.app 1 8 (.c t19) (.c t23)) h14 fun t24 h15 =>
 faC 7 t5 fun t25 =>
 stoC t25 t24 h15 fun h16 =>
 let t26 := wrQ .i64 (addQ t14 (Int.ofNat 1))
 g2 t0 t3 t5 t12 t13 t26 h16) none) (
 S190_0 D m t0 t3 t5 h)
def S190_2 (D : CallD) (m : Nat) : AV → AV → AV → AV → Int → Int → HP → Res2 := nrec (fun _ _ _ _ _ _ _ => none) (fun _ g => S190_2b D m g) m
def e190_3 (k t0 t1 h) := kN k [(p0, t0), (p1, t1)] h
def S190_3 (D : CallD) (m : Nat) (t0 t1 : AV) (h : HP) : Res2 :=
 let t3 := AV.ptr (HP.nxQ h) 0
 let h4 := HP.newQ h (.cells true (AV.cells t1))
 let t8 := (AV.ptr (HP.nxQ h) (Nat.add 0 2))
 ldS t8 h4 fun t9 =>
 let t10 := (AV.agg [(vI (Int.ofNat 16)), (vI (Int.negSucc 0)), (vI (Int.ofNat 0)), (vI (Int.ofNat 0)), (vW (Int.ofNat 0)), (AV.int .u64 (Int.ofNat 0)), (vS t9), (.nils : AV), (vI (Int.ofNat 0))])
 let t5 := AV.ptr (HP.nxQ h4) 0
 let h5 := HP.newQ h4 (.cells true [(kI 0), (kI 0), (kI 0), (kI 0), (.int .u32 (.ofNat 0)), (.int .u64 (.ofNat 0)), (.str []), .nils, (kI 0)])
 stsC 9 t5 t10 h5 fun h6 =>
 let t11 := (AV.ptr (HP.nxQ h) (Nat.add 0 5))
 cellC t11 h6 fun t12 =>
 lenC t12 fun vt13 => asI .i64 vt13 fun t13 =>
 S190_2 D m t0 t3 t5 t12 t13 (Int.ofNat 0) h6
def S190 : SFn := fun D m args h u => nou u <| popV args fun t0 args => popV args fun t1 args => endA args (S190_3 D m t0 t1 h)
theorem T190_1 (hE : FX x190 D m E) : S190_1 D m = e190_1 (E c190_1 []) := by unfold S190_1; rw [hE c190_1]; kernel_rfl
theorem T190_0 (hE : FX x190 D m E) : S190_0 D m = e190_0 (E c190_0 []) := by unfold S190_0; rw [T190_1 hE, hE c190_0]; kernel_rfl
theorem T190_2b (hE : FX x190 D m E) (G2) : S190_2b D m (e190_2 G2) = e190_2 (E c190_2b [.lp v190_2 G2, .blk 0, .sj v190_0 c190_0]) := by unfold S190_2b; rw [T190_0 hE, hE c190_2b]; kernel_rfl
theorem T190_2 (hE : FX x190 D m E) : S190_2 D m = e190_2 (nrec (fun _ => none) (fun _ G2 st => E c190_2b [.lp v190_2 G2, .blk 0, .sj v190_0 c190_0] st) m) :=
  nrec_emb e190_2 (fun _ _ _ _ _ _ _ => none) (fun g => S190_2b D m g) (fun G2 st => E c190_2b [.lp v190_2 G2, .blk 0, .sj v190_0 c190_0] st) rfl (fun g => T190_2b hE g) m
theorem T190_3 (hE : FX x190 D m E) : S190_3 D m = e190_3 (E c190_e []) := by unfold S190_3; rw [T190_2 hE, hE c190_e]; kernel_rfl
theorem X190 : XTie S190 x190 := X_of fun D m E hE args h u => by unfold S190; rw [T190_3 hE]; kernel_rfl
/- 199 -/
def v199_0 : List Pos := [p1]
def c199_0 : XC := (.sO [.mv p17 q1 tI, .mv p4 q17 tI] (.s .ret))
def v199_2 : List Pos := [p0, p1]
def c199_2 : XC := (.block 1 (.s (.oX [.mv p15 q1 tI, .bn p16 .add q15 (ci 1) tI, .mv p1 q16 tI])))
def c199_4 : XC := (.cond q14 (.s .skip) (.s (.exit 0)))
def l199_3 : XL := (XL.of [])
def v199_1 : List Pos := [p0, p1]
def c199_1b : XC := (.sj v199_2 (.opq false (XL.pre [.mv p5 q1 tI, .mv p6 q0 .s, .P p7 (.lens q6) tI, .bn p8 .lss q5 q7 .b, .mv p9 q8 .b, .sp p9, .G p9 true p10 (.mov q0) .s, .G p9 true p11 (.mov q1) tI, .G p9 true p12 (.idxs q10 q11) tC, .o ⟨(some p13), (.call (.fn 158) [q12]), (some (p9, true)), []⟩ .b, .P p14 (.pick q9 q13 (cb false)) .b, .jn p9 [p0, p1, p14]] l199_3) c199_4) c199_2)
def c199_e : XC := (.sO [.mv p4 (ci 0) tI] (.sj v199_0 (.block 0 (.loop v199_1 c199_1b)) c199_0))
def x199 : XFn := ⟨[.s, tI], false, [(.tmp p4)], c199_e⟩
def e199_0 (k t1 h) := kN k [(p1, (vI t1))] h
def S199_0 (D : CallD) (m : Nat) (t1 : Int) (h : HP) : Res2 :=
 some (.ret (vI t1) h, .no)
def e199_2 (k t0 t1 h) := kN k [(p0, (vS t0)), (p1, (vI t1))] h
def S199_2 (D : CallD) (m : Nat) (g1 : LN → Int → HP → Res2) (t0 : LN) (t1 : Int) (h : HP) : Res2 :=
 let t16 := wrQ .i64 (addQ t1 (Int.ofNat 1))
 g1 t0 t16 h
def e199_3 (k t0 t1 t14 h) := kN k [(p0, (vS t0)), (p1, (vI t1)), (p14, (vB t14))] h
def S199_3 (D : CallD) (m : Nat) (g1 : LN → Int → HP → Res2) (t0 : LN) (t1 : Int) (t14 : Bool) (h : HP) : Res2 :=
 br t14 (
 S199_2 D m g1 t0 t1 h) (
 S199_0 D m t1 h)
def e199_1 (k t0 t1 h) := kN k [(p0, (vS t0)), (p1, (vI t1))] h
def S199_1b (D : CallD) (m : Nat) (g1 : LN → Int → HP → Res2) (t0 : LN) (t1 : Int) (h : HP) : Res2 :=
 let t7 := Int.ofNat (lenL t0)
 let t8 := ltQ t1 t7
 br t8 (
 ixC (vS t0) (vI t1) fun vt12 => asI .u8 vt12 fun t12 =>
 cal D 158 [(vC t12)] h fun t13 h6 =>
 asB t13 fun t13a =>
 S199_3 D m g1 t0 t1 t13a h6) (
 S199_3 D m g1 t0 t1 false h)
def S199_1 (D : CallD) (m : Nat) : LN → Int → HP → Res2 := nrec (fun _ _ _ => none) (fun _ g => S199_1b D m g) m
def e199_5 (k t0 t1 h) := kN k [(p0, (vS t0)), (p1, (vI t1))] h
def S199_5 (D : CallD) (m : Nat) (t0 : LN) (t1 : Int) (h : HP) : Res2 :=
 S199_1 D m t0 t1 h
def S199 : SFn := fun D m args h u => nou u <| popS args fun t0 args => popI .i64 args fun t1 args => endA args (S199_5 D m t0 t1 h)
theorem T199_0 (hE : FX x199 D m E) : S199_0 D m = e199_0 (E c199_0 []) := by unfold S199_0; rw [hE c199_0]; kernel_rfl
theorem T199_2 (hE : FX x199 D m E) (G1) : S199_2 D m (e199_1 G1) = e199_2 (E c199_2 [.lp v199_1 G1, .blk 0, .sj v199_0 c199_0]) := by unfold S199_2; rw [hE c199_2]; kernel_rfl
theorem T199_3 (hE : FX x199 D m E) (G1) : S199_3 D m (e199_1 G1) = e199_3 (E (.opq false l199_3 c199_4) [.sj v199_2 c199_2, .lp v199_1 G1, .blk 0, .sj v199_0 c199_0]) := by unfold S199_3; rw [T199_2 hE G1, T199_0 hE, hE (.opq false l199_3 c199_4)]; kernel_rfl
theorem T199_1b (hE : FX x199 D m E) (G1) : S199_1b D m (e199_1 G1) = e199_1 (E c199_1b [.lp v199_1 G1, .blk 0, .sj v199_0 c199_0]) := by unfold S199_1b; rw [T199_3 hE G1, hE c199_1b]; kernel_rfl
theorem T199_1 (hE : FX x199 D m E) : S199_1 D m = e199_1 (nrec (fun _ => none) (fun _ G1 st => E c199_1b [.lp v199_1 G1, .blk 0, .sj v199_0 c199_0] st) m) :=
  nrec_emb e199_1 (fun _ _ _ => none) (fun g => S199_1b D m g) (fun G1 st => E c199_1b [.lp v199_1 G1, .blk 0, .sj v199_0 c199_0] st) rfl (fun g => T199_1b hE g) m
theorem T199_5 (hE : FX x199 D m E) : S199_5 D m = e199_5 (E c199_e []) := by unfold S199_5; rw [T199_1 hE, hE c199_e]; kernel_rfl
theorem X199 : XTie S199 x199 := X_of fun D m E hE args h u => by unfold S199; rw [T199_5 hE]; kernel_rfl
/- 201 -/
def v201_4 : List Pos := [p1, p2, p3, p4]
def c201_4 : XC := (.seq (.ops true (XL.of [.L p151 (.cells 5 q1) .v, .L p153 (.cells 7 q4) .v, .o ⟨(some p152), (.call (.fn 123) [q151, (.c (.str [59]))]), none, [⟨none, .cells 7 q4, p153⟩]⟩ .v, .o ⟨none, (.e (.stores 5 q2 q152)), none, [⟨none, .cells 7 q4, p153⟩]⟩ .v, .ss 7 q3 q153])) (.s .ret))
def v201_3 : List Pos := [p1, p2, p3, p4, p5]
def c201_3 : XC := (.sj v201_4 (.sO [.L p140 (.cells 5 q1) .v, .cl p141 117 [q140, (.c (.str [59]))] .b, .P p142 (.un .not q141) .b] (.cond q142 (.sO [.L p144 (.cells 5 q1) .v, .cl p145 125 [q144] .v, .mv p143 q145 .v, .P p146 (.ext q143 0) .v, .P p147 (.ext q143 1) .v, .ss 5 q1 q146, .ss 8 q5 q147] (.s (.oX [.L p148 (.cells 8 q5) .v, .al p149 (.bsl [(kI 0), (.str []), (.str []), (.int .u32 (.ofNat 0)), (.int .u64 (.ofNat 0)), .nils, (kI 0), (kI 0)] 1 [⟨0, 8, q148⟩]), .fa p150 1 q4, .st q150 q149]))) (.s .skip))) c201_4)
def v201_2 : List Pos := [p1, p2, p3, p4, p5]
def c201_2 : XC := (.sO [.fa p134 0 q4, .st q134 (ci 7)] (.sj v201_3 (.sO [.L p135 (.cells 5 q1) .v, .cl p136 117 [q135, (.c (.str [114, 101, 116, 117, 114, 110]))] .b] (.cond q136 (.sO [.fa p137 0 q4, .st q137 (ci 4)] (.s (.oX [.L p138 (.cells 5 q1) .v, .cl p139 118 [q138] .v, .ss 5 q1 q139]))) (.s .skip))) c201_3))
def v201_6 : List Pos := [p1, p2, p3, p4]
def c201_6 : XC := (.seq (.ops true (XL.of [.L p130 (.cells 5 q1) .v, .L p133 (.cells 7 q4) .v, .o ⟨(some p131), (.call (.fn 118) [q130]), none, [⟨none, .cells 7 q4, p133⟩]⟩ .v, .o ⟨(some p132), (.call (.fn 123) [q131, (.c (.str [59]))]), none, [⟨none, .cells 7 q4, p133⟩]⟩ .v, .o ⟨none, (.e (.stores 5 q2 q132)), none, [⟨none, .cells 7 q4, p133⟩]⟩ .v, .ss 7 q3 q133])) (.s .ret))
def c201_7 : XC := (.cond q125 (.sO [.fa p126 0 q4, .st q126 (ci 5)] (.sj v201_6 (.sO [.L p127 (.cells 5 q1) .v, .cl p128 117 [q127, (.c (.str [99, 111, 110, 116, 105, 110, 117, 101]))] .b] (.cond q128 (.s (.oX [.fa p129 0 q4, .st q129 (ci 6)])) (.s .skip))) c201_6)) (.s .skip))
def l201_5 : XL := (XL.of [])
def v201_1 : List Pos := [p1, p2, p3, p4, p5]
def c201_1 : XC := (.sj v201_2 (.opq false (XL.pre [.L p120 (.cells 5 q1) .v, .cl p121 117 [q120, (.c (.str [98, 114, 101, 97, 107]))] .b, .mv p122 q121 .b, .sp p122, .o ⟨(some p123), (.l (.cells 5 q1)), (some (p122, false)), []⟩ .v, .o ⟨(some p124), (.call (.fn 117) [q123, (.c (.str [99, 111, 110, 116, 105, 110, 117, 101]))]), (some (p122, false)), []⟩ .b, .P p125 (.pick q122 (cb true) q124) .b, .jn p122 [p1, p2, p3, p4, p5, p125]] l201_5) c201_7) c201_2)
def v201_10 : List Pos := [p1, p2, p3, p4]
def c201_10 : XC := (.seq (.ops true (XL.of [.L p117 (.cells 5 q1) .v, .L p119 (.cells 7 q4) .v, .o ⟨(some p118), (.call (.fn 123) [q117, (.c (.str [59]))]), none, [⟨none, .cells 7 q4, p119⟩]⟩ .v, .o ⟨none, (.e (.stores 5 q2 q118)), none, [⟨none, .cells 7 q4, p119⟩]⟩ .v, .ss 7 q3 q119])) (.s .ret))
def c201_11 : XC := (.cond q86 (.sO [.fa p87 0 q4, .st q87 (ci 8)] (.sO [.L p89 (.cells 5 q1) .v, .cl p90 119 [q89] .v, .mv p88 q90 .v, .P p91 (.ext q88 0) .v, .P p92 (.ext q88 1) tI, .ss 5 q1 q91, .fa p93 4 q4, .st q93 q92] (.sO [.L p95 (.cells 5 q1) .v, .cl p96 120 [q95, (ci 1)] .v, .mv p94 q96 .v, .P p97 (.ext q94 0) .v, .P p98 (.ext q94 1) .s, .ss 5 q1 q97, .fa p99 3 q4, .st q99 q98] (.sO [.L p101 (.cells 5 q1) .v, .cl p102 124 [q101] .v, .mv p100 q102 .v, .P p103 (.ext q100 0) .v, .P p104 (.ext q100 1) tI, .ss 5 q1 q103, .fa p105 5 q4, .st q105 q104] (.sj v201_10 (.sO [.L p106 (.cells 5 q1) .v, .cl p107 117 [q106, (.c (.str [61]))] .b] (.cond q107 (.sO [.L p109 (.cells 5 q1) .v, .cl p110 118 [q109] .v, .cl p111 125 [q110] .v, .mv p108 q111 .v, .P p112 (.ext q108 0) .v, .P p113 (.ext q108 1) .v, .ss 5 q1 q112, .ss 8 q5 q113] (.s (.oX [.L p114 (.cells 8 q5) .v, .al p115 (.bsl [(kI 0), (.str []), (.str []), (.int .u32 (.ofNat 0)), (.int .u64 (.ofNat 0)), .nils, (kI 0), (kI 0)] 1 [⟨0, 8, q114⟩]), .fa p116 1 q4, .st q116 q115]))) (.s .skip))) c201_10))))) (.s .skip))
def l201_9 : XL := (XL.of [])
def l201_8 : XL := (XL.pre [.mv p83 q82 .b, .sp p83, .o ⟨(some p84), (.l (.cells 5 q1)), (some (p83, false)), []⟩ .v, .o ⟨(some p85), (.call (.fn 117) [q84, (.c (.str [118, 111, 105, 100]))]), (some (p83, false)), []⟩ .b, .P p86 (.pick q83 (cb true) q85) .b, .jn p83 [p1, p2, p3, p4, p5, p86]] l201_9)
def v201_0 : List Pos := [p1, p2, p3, p4, p5]
def c201_0 : XC := (.sj v201_1 (.opq false (XL.pre [.L p77 (.cells 5 q1) .v, .cl p78 117 [q77, (.c (.str [105, 110, 116]))] .b, .mv p79 q78 .b, .sp p79, .o ⟨(some p80), (.l (.cells 5 q1)), (some (p79, false)), []⟩ .v, .o ⟨(some p81), (.call (.fn 117) [q80, (.c (.str [100, 111, 117, 98, 108, 101]))]), (some (p79, false)), []⟩ .b, .P p82 (.pick q79 (cb true) q81) .b, .jn p79 [p1, p2, p3, p4, p5, p82]] l201_8) c201_11) c201_1)
def v201_14 : List Pos := [p1, p2, p3, p4]
def c201_14 : XC := (.seq (.ops true (XL.of [.L p75 (.cells 5 q1) .v, .L p76 (.cells 7 q4) .v, .o ⟨none, (.e (.stores 5 q2 q75)), none, [⟨none, .cells 7 q4, p76⟩]⟩ .v, .ss 7 q3 q76])) (.s .ret))
def c201_16 : XC := (.cond q62 (.sO [.L p64 (.cells 5 q1) .v, .cl p65 118 [q64] .v, .cl p66 162 [q65] .v, .mv p63 q66 .v, .P p67 (.ext q63 0) .v, .P p68 (.ext q63 1) .v, .ss 5 q1 q67, .ss 7 q6 q68] (.s (.oX [.fa p69 2 q4, .ld p70 q69 .v, .L p71 (.cells 7 q6) .v, .al p72 (.bsl [(kI 0), .nils, .nils, (.str []), (kI 0), (kI 0), (kI 0)] 1 [⟨0, 7, q71⟩]), .o ⟨(some p73), (.e (.app 7 96 q70 q72)), none, []⟩ .v, .fa p74 2 q4, .st q74 q73]))) (.s .skip))
def l201_15 : XL := (XL.of [])
def v201_13 : List Pos := [p1, p2, p3, p4, p5, p6]
def c201_13 : XC := (.sO [.L p35 (.cells 5 q1) .v, .cl p36 118 [q35] .v, .cl p37 123 [q36, (.c (.str [40]))] .v, .cl p38 125 [q37] .v, .mv p34 q38 .v, .P p39 (.ext q34 0) .v, .P p40 (.ext q34 1) .v, .ss 5 q1 q39, .ss 8 q5 q40] (.sO [.L p41 (.cells 8 q5) .v, .al p42 (.bsl [(kI 0), (.str []), (.str []), (.int .u32 (.ofNat 0)), (.int .u64 (.ofNat 0)), .nils, (kI 0), (kI 0)] 1 [⟨0, 8, q41⟩]), .fa p43 1 q4, .st q43 q42] (.sO [.L p45 (.cells 5 q1) .v, .cl p46 123 [q45, (.c (.str [41]))] .v, .cl p47 162 [q46] .v, .mv p44 q47 .v, .P p48 (.ext q44 0) .v, .P p49 (.ext q44 1) .v, .ss 5 q1 q48, .ss 7 q6 q49] (.sO [.fa p50 2 q4, .ld p51 q50 .v, .L p52 (.cells 7 q6) .v, .al p53 (.bsl [(kI 0), .nils, .nils, (.str []), (kI 0), (kI 0), (kI 0)] 1 [⟨0, 7, q52⟩]), .o ⟨(some p54), (.e (.app 7 96 q51 q53)), none, []⟩ .v, .fa p55 2 q4, .st q55 q54] (.sj v201_14 (.opq false (XL.pre [.fa p56 0 q4, .ld p57 q56 tI, .bn p58 .eql q57 (ci 2) .b, .mv p59 q58 .b, .sp p59, .o ⟨(some p60), (.l (.cells 5 q1)), (some (p59, true)), []⟩ .v, .o ⟨(some p61), (.call (.fn 117) [q60, (.c (.str [101, 108, 115, 101]))]), (some (p59, true)), []⟩ .b, .P p62 (.pick q59 q61 (cb false)) .b, .jn p59 [p1, p2, p3, p4, p6, p62]] l201_15) c201_16) c201_14)))))
def c201_17 : XC := (.cond q29 (.sO [.fa p30 0 q4, .st q30 (ci 2)] (.sj v201_13 (.sO [.L p31 (.cells 5 q1) .v, .cl p32 117 [q31, (.c (.str [119, 104, 105, 108, 101]))] .b] (.cond q32 (.s (.oX [.fa p33 0 q4, .st q33 (ci 3)])) (.s .skip))) c201_13)) (.s .skip))
def l201_12 : XL := (XL.of [])
def c201_e : XC := (.sO [.al p1 (.box q0), .al p2 (.new [.nils, (kI 0), (kI 0), (kI 0), (kI 0)]), .al p3 (.new [(kI 0), .nils, .nils, (.str []), (kI 0), (kI 0), (kI 0)])] (.sO [.L p7 (.cells 5 q1) .v, .cl p8 82 [q7] .v, .P p9 (.field 2 1 false q8) tI, .P p10 (.build [(kI 0), .nils, .nils, (.str []), (kI 0), (kI 0), (kI 0)] [⟨6, 1, q9⟩]) .v, .al p4 (.new [(kI 0), .nils, .nils, (.str []), (kI 0), (kI 0), (kI 0)]), .ss 7 q4 q10] (.sO [.P p11 (.build [(kI 0), (.str []), (.str []), (.int .u32 (.ofNat 0)), (.int .u64 (.ofNat 0)), .nils, (kI 0), (kI 0)] []) .v, .al p5 (.new [(kI 0), (.str []), (.str []), (.int .u32 (.ofNat 0)), (.int .u64 (.ofNat 0)), .nils, (kI 0), (kI 0)]), .ss 8 q5 q11] (.sO [.P p12 (.build [(kI 0), .nils, .nils, (.str []), (kI 0), (kI 0), (kI 0)] []) .v, .al p6 (.new [(kI 0), .nils, .nils, (.str []), (kI 0), (kI 0), (kI 0)]), .ss 7 q6 q12] (.seq (.seq (.oX [.fa p13 3 q1, .ld p14 q13 tI, .bn p15 .neq q14 (ci 0) .b]) (.cond q15 (.seq (.ops true (XL.of [.L p16 (.cells 5 q1) .v, .L p17 (.cells 7 q4) .v, .o ⟨none, (.e (.stores 5 q2 q16)), none, [⟨none, .cells 7 q4, p17⟩]⟩ .v, .ss 7 q3 q17])) .ret) .skip)) (.seq (.seq (.oX [.L p18 (.cells 5 q1) .v, .cl p19 117 [q18, (.c (.str [123]))] .b]) (.cond q19 (.seq (.oX [.L p20 (.cells 5 q1) .v, .cl p21 122 [q20] .v, .P p22 (.ext q21 0) .v, .P p23 (.ext q21 1) .v, .ss 5 q2 q22, .ss 7 q3 q23]) .ret) .skip)) (.sj v201_0 (.opq false (XL.pre [.L p24 (.cells 5 q1) .v, .cl p25 117 [q24, (.c (.str [105, 102]))] .b, .mv p26 q25 .b, .sp p26, .o ⟨(some p27), (.l (.cells 5 q1)), (some (p26, false)), []⟩ .v, .o ⟨(some p28), (.call (.fn 117) [q27, (.c (.str [119, 104, 105, 108, 101]))]), (some (p26, false)), []⟩ .b, .P p29 (.pick q26 (cb true) q28) .b, .jn p26 [p1, p2, p3, p4, p5, p6, p29]] l201_12) c201_17) c201_0)))))))
def x201 : XFn := ⟨[.v], false, [(.cells 5 p2), (.cells 7 p3)], c201_e⟩
def e201_4 (k t1 t2 t3 t4 h) := kN k [(p1, t1), (p2, t2), (p3, t3), (p4, t4)] h
def S201_4 (D : CallD) (m : Nat) (t1 t2 t3 t4 : AV) (h : HP) : Res2 :=
 cellsC 5 t1 h fun t151 =>
 cellsC 7 t4 h fun t153 =>
 cal D 123 [t151, (vS ([59] : LN))] h fun t152 h36 =>
 br (again [⟨none, .cells 7 q4, p153⟩] (mkT [(p153, t153), (p4, t4)]) h36) (
 stsC 5 t2 t152 h36 fun h37 =>
 br (againE (.stores 5 q2 q152) [⟨none, .cells 7 q4, p153⟩] (mkT [(p2, t2), (p153, t153), (p4, t4)]) h37) (
 stsC 7 t3 t153 h37 fun h38 =>
 cellsC 5 t2 h38 fun t2a =>
 cellsC 7 t3 h38 fun t3a =>
 some (.ret (.tup [t2a, t3a]) h38, .no)) none) none
def e201_3 (k t1 t2 t3 t4 t5 h) := kN k [(p1, t1), (p2, t2), (p3, t3), (p4, t4), (p5, t5)] h
def S201_3 (D : CallD) (m : Nat) (t1 t2 t3 t4 t5 : AV) (h : HP) : Res2 :=
 cellsC 5 t1 h fun t140 =>
 cal D 117 [t140, (vS ([59] : LN))] h fun t141 h39 =>
 asB t141 fun t141a =>
 let t142 := !t141a
 br t142 (
 cellsC 5 t1 h39 fun t144 =>
 cal D 125 [t144] h39 fun t145 h40 =>
 extC t145 0 fun t146 =>
 extC t145 1 fun t147 =>
 stsC 5 t1 t146 h40 fun h41 =>
 stsC 8 t5 t147 h41 fun h42 =>
 cellsC 8 t5 h42 fun t148 =>
 obQ (evA (.bsl [(kI 0), (.str []), (.str []), (.int .u32 (.ofNat 0)), (.int .u64 (.ofNat 0)), .nils, (kI 0), (kI 0)] 1 [⟨0, 8, (.c t148)⟩]) .leaf) fun r43 =>
 let t149 := vkV r43.2 (HP.nxQ h42)
 let h44 := HP.newQ h42 r43.1
 faC 1 t4 fun t150 =>
 stoC t150 t149 h44 fun h45 =>
 S201_4 D m t1 t2 t3 t4 h45) (
 S201_4 D m t1 t2 t3 t4 h39)
def e201_2 (k t1 t2 t3 t4 t5 h) := kN k [(p1, t1), (p2, t2), (p3, t3), (p4, t4), (p5, t5)] h
def S201_2 (D : CallD) (m : Nat) (t1 t2 t3 t4 t5 : AV) (h : HP) : Res2 :=
 faC 0 t4 fun t134 =>
 stoC t134 (vI (Int.ofNat 7)) h fun h35 =>
 cellsC 5 t1 h35 fun t135 =>
 cal D 117 [t135, (vS ([114, 101, 116, 117, 114, 110] : LN))] h35 fun t136 h46 =>
 asB t136 fun t136a =>
 br t136a (
 faC 0 t4 fun t137 =>
 stoC t137 (vI (Int.ofNat 4)) h46 fun h47 =>
 cellsC 5 t1 h47 fun t138 =>
 cal D 118 [t138] h47 fun t139 h48 =>
 stsC 5 t1 t139 h48 fun h49 =>
 S201_3 D m t1 t2 t3 t4 t5 h49) (
 S201_3 D m t1 t2 t3 t4 t5 h46)
def e201_6 (k t1 t2 t3 t4 h) := kN k [(p1, t1), (p2, t2), (p3, t3), (p4, t4)] h
def S201_6 (D : CallD) (m : Nat) (t1 t2 t3 t4 : AV) (h : HP) : Res2 :=
 cellsC 5 t1 h fun t130 =>
 cellsC 7 t4 h fun t133 =>
 cal D 118 [t130] h fun t131 h52 =>
 br (again [⟨none, .cells 7 q4, p133⟩] (mkT [(p133, t133), (p4, t4)]) h52) (
 cal D 123 [t131, (vS ([59] : LN))] h52 fun t132 h53 =>
 br (again [⟨none, .cells 7 q4, p133⟩] (mkT [(p133, t133), (p4, t4)]) h53) (
 stsC 5 t2 t132 h53 fun h54 =>
 br (againE (.stores 5 q2 q132) [⟨none, .cells 7 q4, p133⟩] (mkT [(p2, t2), (p133, t133), (p4, t4)]) h54) (
 stsC 7 t3 t133 h54 fun h55 =>
 cellsC 5 t2 h55 fun t2a =>
 cellsC 7 t3 h55 fun t3a =>
 some (.ret (.tup [t2a, t3a]) h55, .no)) none) none) none
def e201_5 (k t1 t2 t3 t4 t5 t125 h) := kN k [(p1, t1), (p2, t2), (p3, t3), (p4, t4), (p5, t5), (p125, (vB t125))] h
def S201_5 (D : CallD) (m : Nat) (t1 t2 t3 t4 t5 : AV) (t125 : Bool) (h : HP) : Res2 :=
 br t125 (
 faC 0 t4 fun t126 =>
 stoC t126 (vI (Int.ofNat 5)) h fun h51 =>
 cellsC 5 t1 h51 fun t127 =>
 cal D 117 [t127, (vS ([99, 111, 110, 116, 105, 110, 117, 101] : LN))] h51 fun t128 h56 =>
 asB t128 fun t128a =>
 br t128a (
 faC 0 t4 fun t129 =>
 stoC t129 (vI (Int.ofNat 6)) h56 fun h57 =>
 S201_6 D m t1 t2 t3 t4 h57) (
 S201_6 D m t1 t2 t3 t4 h56)) (
 S201_2 D m t1 t2 t3 t4 t5 h)
def e201_1 (k t1 t2 t3 t4 t5 h) := kN k [(p1, t1), (p2, t2), (p3, t3), (p4, t4), (p5, t5)] h
def S201_1 (D : CallD) (m : Nat) (t1 t2 t3 t4 t5 : AV) (h : HP) : Res2 :=
 cellsC 5 t1 h fun t120 =>
 cal D 117 [t120, (vS ([98, 114, 101, 97, 107] : LN))] h fun t121 h50 =>
 asB t121 fun t121a =>
 br t121a (
 S201_5 D m t1 t2 t3 t4 t5 true h50) (
 cellsC 5 t1 h50 fun t123 =>
 cal D 117 [t123, (vS ([99, 111, 110, 116, 105, 110, 117, 101] : LN))] h50 fun t124 h58 =>
 asB t124 fun t124a =>
 S201_5 D m t1 t2 t3 t4 t5 t124a h58)
def e201_10 (k t1 t2 t3 t4 h) := kN k [(p1, t1), (p2, t2), (p3, t3), (p4, t4)] h
def S201_10 (D : CallD) (m : Nat) (t1 t2 t3 t4 : AV) (h : HP) : Res2 :=
 cellsC 5 t1 h fun t117 =>
 cellsC 7 t4 h fun t119 =>
 cal D 123 [t117, (vS ([59] : LN))] h fun t118 h70 =>
 br (again [⟨none, .cells 7 q4, p119⟩] (mkT [(p119, t119), (p4, t4)]) h70) (
 stsC 5 t2 t118 h70 fun h71 =>
 br (againE (.stores 5 q2 q118) [⟨none, .cells 7 q4, p119⟩] (mkT [(p2, t2), (p119, t119), (p4, t4)]) h71) (
 stsC 7 t3 t119 h71 fun h72 =>
 cellsC 5 t2 h72 fun t2a =>
 cellsC 7 t3 h72 fun t3a =>
 some (.ret (.tup [t2a, t3a]) h72, .no)) none) none
def e201_9 (k t1 t2 t3 t4 t5 t86 h) := kN k [(p1, t1), (p2, t2), (p3, t3), (p4, t4), (p5, t5), (p86, (vB t86))] h
def S201_9 (D : CallD) (m : Nat) (t1 t2 t3 t4 t5 : AV) (t86 : Bool) (h : HP) : Res2 :=
 br t86 (
 faC 0 t4 fun t87 =>
 stoC t87 (vI (Int.ofNat 8)) h fun h60 =>
 cellsC 5 t1 h60 fun t89 =>
 cal D 119 [t89] h60 fun t90 h61 =>
 extC t90 0 fun t91 =>
 extC t90 1 fun vt92 => asI .i64 vt92 fun t92 =>
 stsC 5 t1 t91 h61 fun h62 =>
 faC 4 t4 fun t93 =>
 stoC t93 (vI t92) h62 fun h63 =>
 cellsC 5 t1 h63 fun t95 =>
 cal D 120 [t95, (vI (Int.ofNat 1))] h63 fun t96 h64 =>
 extC t96 0 fun t97 =>
 extC t96 1 fun vt98 => asS vt98 fun t98 =>
 stsC 5 t1 t97 h64 fun h65 =>
 faC 3 t4 fun t99 =>
 stoC t99 (vS t98) h65 fun h66 =>
 cellsC 5 t1 h66 fun t101 =>
 cal D 124 [t101] h66 fun t102 h67 =>
 extC t102 0 fun t103 =>
 extC t102 1 fun vt104 => asI .i64 vt104 fun t104 =>
 stsC 5 t1 t103 h67 fun h68 =>
 faC 5 t4 fun t105 =>
 stoC t105 (vI t104) h68 fun h69 =>
 cellsC 5 t1 h69 fun t106 =>
 cal D 117 [t106, (vS ([61] : LN))] h69 fun t107 h73 =>
 asB t107 fun t107a =>
 br t107a (
 cellsC 5 t1 h73 fun t109 =>
 cal D 118 [t109] h73 fun t110 h74 =>
 cal D 125 [t110] h74 fun t111 h75 =>
 extC t111 0 fun t112 =>
 extC t111 1 fun t113 =>
 stsC 5 t1 t112 h75 fun h76 =>
 stsC 8 t5 t113 h76 fun h77 =>
 cellsC 8 t5 h77 fun t114 =>
 obQ (evA (.bsl [(kI 0), (.str []), (.str []), (.int .u32 (.ofNat 0)), (.int .u64 (.ofNat 0)), .nils, (kI 0), (kI 0)] 1 [⟨0, 8, (.c t114)⟩]) .leaf) fun r78 =>
 let t115 := vkV r78.2 (HP.nxQ h77)
 let h79 := HP.newQ h77 r78.1
 faC 1 t4 fun t116 =>
 stoC t116 t115 h79 fun h80 =>
 S201_10 D m t1 t2 t3 t4 h80) (
 S201_10 D m t1 t2 t3 t4 h73)) (
 S201_1 D m t1 t2 t3 t4 t5 h)
def e201_8 (k t1 t2 t3 t4 t5 t82 h) := kN k [(p1, t1), (p2, t2), (p3, t3), (p4, t4), (p5, t5), (p82, (vB t82))] h
def S201_8 (D : CallD) (m : Nat) (t1 t2 t3 t4 t5 : AV) (t82 : Bool) (h : HP) : Res2 :=
 br t82 (
 S201_9 D m t1 t2 t3 t4 t5 true h) (
 cellsC 5 t1 h fun t84 =>
 cal D 117 [t84, (vS ([118, 111, 105, 100] : LN))] h fun t85 h81 =>
 asB t85 fun t85a =>
 S201_9 D m t1 t2 t3 t4 t5 t85a h81)
def e201_0 (k t1 t2 t3 t4 t5 h) := kN k [(p1, t1), (p2, t2), (p3, t3), (p4, t4), (p5, t5)] h
def S201_0 (D : CallD) (m : Nat) (t1 t2 t3 t4 t5 : AV) (h : HP) : Res2 :=
 cellsC 5 t1 h fun t77 =>
 cal D 117 [t77, (vS ([105, 110, 116] : LN))] h fun t78 h59 =>
 asB t78 fun t78a =>
 br t78a (
 S201_8 D m t1 t2 t3 t4 t5 true h59) (
 cellsC 5 t1 h59 fun t80 =>
 cal D 117 [t80, (vS ([100, 111, 117, 98, 108, 101] : LN))] h59 fun t81 h82 =>
 asB t81 fun t81a =>
 S201_8 D m t1 t2 t3 t4 t5 t81a h82)
def e201_14 (k t1 t2 t3 t4 h) := kN k [(p1, t1), (p2, t2), (p3, t3), (p4, t4)] h
def S201_14 (D : CallD) (m : Nat) (t1 t2 t3 t4 : AV) (h : HP) : Res2 :=
 cellsC 5 t1 h fun t75 =>
 cellsC 7 t4 h fun t76 =>
 stsC 5 t2 t75 h fun h101 =>
 br (againE (.stores 5 q2 q75) [⟨none, .cells 7 q4, p76⟩] (mkT [(p2, t2), (p76, t76), (p4, t4)]) h101) (
 stsC 7 t3 t76 h101 fun h102 =>
 cellsC 5 t2 h102 fun t2a =>
 cellsC 7 t3 h102 fun t3a =>
 some (.ret (.tup [t2a, t3a]) h102, .no)) none
def e201_15 (k t1 t2 t3 t4 t6 t62 h) := kN k [(p1, t1), (p2, t2), (p3, t3), (p4, t4), (p6, t6), (p62, (vB t62))] h
def S201_15 (D : CallD) (m : Nat) (t1 t2 t3 t4 t6 : AV) (t62 : Bool) (h : HP) : Res2 :=
 br t62 (
 cellsC 5 t1 h fun t64 =>
 cal D 118 [t64] h fun t65 h104 =>
 cal D 162 [t65] h104 fun t66 h105 =>
 extC t66 0 fun t67 =>
 extC t66 1 fun t68 =>
 stsC 5 t1 t67 h105 fun h106 =>
 stsC 7 t6 t68 h106 fun h107 =>
 faC 2 t4 fun t69 =>
 cellC t69 h107 fun t70 =>
 cellsC 7 t6 h107 fun t71 =>
 obQ (evA (.bsl [(kI 0), .nils, .nils, (.str []), (kI 0), (kI 0), (kI 0)] 1 [⟨0, 7, (.c t71)⟩]) .leaf) fun r108 =>
 let t72 := vkV r108.2 (HP.nxQ h107)
 let h109 := HP.newQ h107 r108.1
 eff (.app 7 96 (.c t70) (.c t72)) h109 fun t73 h110 =>
 faC 2 t4 fun t74 =>
 stoC t74 t73 h110 fun h111 =>
 S201_14 D m t1 t2 t3 t4 h111) (
 S201_14 D m t1 t2 t3 t4 h)
def e201_13 (k t1 t2 t3 t4 t5 t6 h) := kN k [(p1, t1), (p2, t2), (p3, t3), (p4, t4), (p5, t5), (p6, t6)] h
def S201_13 (D : CallD) (m : Nat) (t1 t2 t3 t4 t5 t6 : AV) (h : HP) : Res2 :=
 cellsC 5 t1 h fun t35 =>
 cal D 118 [t35] h fun t36 h85 =>
 cal D 123 [t36, (vS ([40] : LN))] h85 fun t37 h86 =>
 cal D 125 [t37] h86 fun t38 h87 =>
 extC t38 0 fun t39 =>
 extC t38 1 fun t40 =>
 stsC 5 t1 t39 h87 fun h88 =>
 stsC 8 t5 t40 h88 fun h89 =>
 cellsC 8 t5 h89 fun t41 =>
 obQ (evA (.bsl [(kI 0), (.str []), (.str []), (.int .u32 (.ofNat 0)), (.int .u64 (.ofNat 0)), .nils, (kI 0), (kI 0)] 1 [⟨0, 8, (.c t41)⟩]) .leaf) fun r90 =>
 let t42 := vkV r90.2 (HP.nxQ h89)
 let h91 := HP.newQ h89 r90.1
 faC 1 t4 fun t43 =>
 stoC t43 t42 h91 fun h92 =>
 cellsC 5 t1 h92 fun t45 =>
 cal D 123 [t45, (vS ([41] : LN))] h92 fun t46 h93 =>
 cal D 162 [t46] h93 fun t47 h94 =>
 extC t47 0 fun t48 =>
 extC t47 1 fun t49 =>
 stsC 5 t1 t48 h94 fun h95 =>
 stsC 7 t6 t49 h95 fun h96 =>
 faC 2 t4 fun t50 =>
 cellC t50 h96 fun t51 =>
 cellsC 7 t6 h96 fun t52 =>
 obQ (evA (.bsl [(kI 0), .nils, .nils, (.str []), (kI 0), (kI 0), (kI 0)] 1 [⟨0, 7, (.c t52)⟩]) .leaf) fun r97 =>
 let t53 := vkV r97.2 (HP.nxQ h96)
 let h98 := HP.newQ h96 r97.1
 eff (.app 7 96 (.c t51) (.c t53)) h98 fun t54 h99 =>
 faC 2 t4 fun t55 =>
 stoC t55 t54 h99 fun h100 =>
 faC 0 t4 fun t56 =>
 ldI t56 h100 fun t57 =>
 let t58 := eqQ t57 (Int.ofNat 2)
 br t58 (
 cellsC 5 t1 h100 fun t60 =>
 cal D 117 [t60, (vS ([101, 108, 115, 101] : LN))] h100 fun t61 h103 =>
 asB t61 fun t61a =>
 S201_15 D m t1 t2 t3 t4 t6 t61a h103) (
 S201_15 D m t1 t2 t3 t4 t6 false h100)
def e201_12 (k t1 t2 t3 t4 t5 t6 t29 h) := kN k [(p1, t1), (p2, t2), (p3, t3), (p4, t4), (p5, t5), (p6, t6), (p29, (vB t29))] h
def S201_12 (D : CallD) (m : Nat) (t1 t2 t3 t4 t5 t6 : AV) (t29 : Bool) (h : HP) : Res2 :=
 br t29 (
 faC 0 t4 fun t30 =>
 stoC t30 (vI (Int.ofNat 2)) h fun h84 =>
 cellsC 5 t1 h84 fun t31 =>
 cal D 117 [t31, (vS ([119, 104, 105, 108, 101] : LN))] h84 fun t32 h112 =>
 asB t32 fun t32a =>
 br t32a (
 faC 0 t4 fun t33 =>
 stoC t33 (vI (Int.ofNat 3)) h112 fun h113 =>
 S201_13 D m t1 t2 t3 t4 t5 t6 h113) (
 S201_13 D m t1 t2 t3 t4 t5 t6 h112)) (
 S201_0 D m t1 t2 t3 t4 t5 h)
def e201_18 (k t0 h) := kN k [(p0, t0)] h
def S201_18 (D : CallD) (m : Nat) (t0 : AV) (h : HP) : Res2 :=
 let t1 := AV.ptr (HP.nxQ h) 0
 let h19 := HP.newQ h (.cells true (AV.cells t0))
 let t2 := AV.ptr (HP.nxQ h19) 0
 let h20 := HP.newQ h19 (.cells true [.nils, (kI 0), (kI 0), (kI 0), (kI 0)])
 let t3 := AV.ptr (HP.nxQ h20) 0
 let h21 := HP.newQ h20 (.cells true [(kI 0), .nils, .nils, (.str []), (kI 0), (kI 0), (kI 0)])
 cellsC 5 t1 h21 fun t7 =>
 cal D 82 [t7] h21 fun t8 h22 =>
 fldC 2 1 false t8 fun vt9 => asI .i64 vt9 fun t9 =>
 let t10 := (AV.agg [(vI (Int.ofNat 0)), (.nils : AV), (.nils : AV), (vS ([] : LN)), (vI (Int.ofNat 0)), (vI (Int.ofNat 0)), (vI t9)])
 let t4 := AV.ptr (HP.nxQ h22) 0
 let h23 := HP.newQ h22 (.cells true [(kI 0), .nils, .nils, (.str []), (kI 0), (kI 0), (kI 0)])
 stsC 7 t4 t10 h23 fun h24 =>
 let t11 := (AV.agg [(vI (Int.ofNat 0)), (vS ([] : LN)), (vS ([] : LN)), (vW (Int.ofNat 0)), (AV.int .u64 (Int.ofNat 0)), (.nils : AV), (vI (Int.ofNat 0)), (vI (Int.ofNat 0))])
 let t5 := AV.ptr (HP.nxQ h24) 0
 let h25 := HP.newQ h24 (.cells true [(kI 0), (.str []), (.str []), (.int .u32 (.ofNat 0)), (.int .u64 (.ofNat 0)), .nils, (kI 0), (kI 0)])
 stsC 8 t5 t11 h25 fun h26 =>
 let t12 := (AV.agg [(vI (Int.ofNat 0)), (.nils : AV), (.nils : AV), (vS ([] : LN)), (vI (Int.ofNat 0)), (vI (Int.ofNat 0)), (vI (Int.ofNat 0))])
 let t6 := AV.ptr (HP.nxQ h26) 0
 let h27 := HP.newQ h26 (.cells true [(kI 0), .nils, .nils, (.str []), (kI 0), (kI 0), (kI 0)])
 stsC 7 t6 t12 h27 fun h28 =>
 let t13 := (AV.ptr (HP.nxQ h) (Nat.add 0 3))
 ldI t13 h28 fun t14 =>
 let t15 := notQ (eqQ t14 (Int.ofNat 0))
 br t15 (
 cellsC 5 t1 h28 fun t16 =>
 cellsC 7 t4 h28 fun t17 =>
 stsC 5 t2 t16 h28 fun h29 =>
 br (againE (.stores 5 q2 q16) [⟨none, .cells 7 q4, p17⟩] (mkT [(p2, t2), (p17, t17), (p4, t4)]) h29) (
 stsC 7 t3 t17 h29 fun h30 =>
 cellsC 5 t2 h30 fun t2a =>
 cellsC 7 t3 h30 fun t3a =>
 some (.ret (.tup [t2a, t3a]) h30, .no)) none) (
 cellsC 5 t1 h28 fun t18 =>
 cal D 117 [t18, (vS ([123] : LN))] h28 fun t19 h31 =>
 asB t19 fun t19a =>
 br t19a (
 cellsC 5 t1 h31 fun t20 =>
 cal D 122 [t20] h31 fun t21 h32 =>
 extC t21 0 fun t22 =>
 extC t21 1 fun t23 =>
 stsC 5 t2 t22 h32 fun h33 =>
 stsC 7 t3 t23 h33 fun h34 =>
 cellsC 5 t2 h34 fun t2a =>
 cellsC 7 t3 h34 fun t3a =>
 some (.ret (.tup [t2a, t3a]) h34, .no)) (
 cellsC 5 t1 h31 fun t24 =>
 cal D 117 [t24, (vS ([105, 102] : LN))] h31 fun t25 h83 =>
 asB t25 fun t25a =>
 br t25a (
 S201_12 D m t1 t2 t3 t4 t5 t6 true h83) (
 cellsC 5 t1 h83 fun t27 =>
 cal D 117 [t27, (vS ([119, 104, 105, 108, 101] : LN))] h83 fun t28 h114 =>
 asB t28 fun t28a =>
 S201_12 D m t1 t2 t3 t4 t5 t6 t28a h114)))
def S201 : SFn := fun D m args h u => nou u <| popV args fun t0 args => endA args (S201_18 D m t0 h)
theorem T201_4 (hE : FX x201 D m E) : S201_4 D m = e201_4 (E c201_4 []) := by unfold S201_4; rw [hE c201_4]; kernel_rfl
theorem T201_3 (hE : FX x201 D m E) : S201_3 D m = e201_3 (E c201_3 []) := by unfold S201_3; rw [T201_4 hE, hE c201_3]; kernel_rfl
theorem T201_2 (hE : FX x201 D m E) : S201_2 D m = e201_2 (E c201_2 []) := by unfold S201_2; rw [T201_3 hE, hE c201_2]; kernel_rfl
theorem T201_6 (hE : FX x201 D m E) : S201_6 D m = e201_6 (E c201_6 [.sj v201_2 c201_2]) := by unfold S201_6; rw [hE c201_6]; kernel_rfl
theorem T201_5 (hE : FX x201 D m E) : S201_5 D m = e201_5 (E (.opq false l201_5 c201_7) [.sj v201_2 c201_2]) := by unfold S201_5; rw [T201_6 hE, T201_2 hE, hE (.opq false l201_5 c201_7)]; kernel_rfl
theorem T201_1 (hE : FX x201 D m E) : S201_1 D m = e201_1 (E c201_1 []) := by unfold S201_1; rw [T201_5 hE, hE c201_1]; kernel_rfl
theorem T201_10 (hE : FX x201 D m E) : S201_10 D m = e201_10 (E c201_10 [.sj v201_1 c201_1]) := by unfold S201_10; rw [hE c201_10]; kernel_rfl
theorem T201_9 (hE : FX x201 D m E) : S201_9 D m = e201_9 (E (.opq false l201_9 c201_11) [.sj v201_1 c201_1]) := by unfold S201_9; rw [T201_10 hE, T201_1 hE, hE (.opq false l201_9 c201_11)]; kernel_rfl
theorem T201_8 (hE : FX x201 D m E) : S201_8 D m = e201_8 (E (.opq false l201_8 c201_11) [.sj v201_1 c201_1]) := by unfold S201_8; rw [T201_9 hE, hE (.opq false l201_8 c201_11)]; kernel_rfl
theorem T201_0 (hE : FX x201 D m E) : S201_0 D m = e201_0 (E c201_0 []) := by unfold S201_0; rw [T201_8 hE, hE c201_0]; kernel_rfl
theorem T201_14 (hE : FX x201 D m E) : S201_14 D m = e201_14 (E c201_14 [.sj v201_0 c201_0]) := by unfold S201_14; rw [hE c201_14]; kernel_rfl
theorem T201_15 (hE : FX x201 D m E) : S201_15 D m = e201_15 (E (.opq false l201_15 c201_16) [.sj v201_14 c201_14, .sj v201_0 c201_0]) := by unfold S201_15; rw [T201_14 hE, hE (.opq false l201_15 c201_16)]; kernel_rfl
theorem T201_13 (hE : FX x201 D m E) : S201_13 D m = e201_13 (E c201_13 [.sj v201_0 c201_0]) := by unfold S201_13; rw [T201_15 hE, hE c201_13]; kernel_rfl
theorem T201_12 (hE : FX x201 D m E) : S201_12 D m = e201_12 (E (.opq false l201_12 c201_17) [.sj v201_0 c201_0]) := by unfold S201_12; rw [T201_13 hE, T201_0 hE, hE (.opq false l201_12 c201_17)]; kernel_rfl
theorem T201_18 (hE : FX x201 D m E) : S201_18 D m = e201_18 (E c201_e []) := by unfold S201_18; rw [T201_12 hE, hE c201_e]; kernel_rfl
theorem X201 : XTie S201 x201 := X_of fun D m E hE args h u => by unfold S201; rw [T201_18 hE]; kernel_rfl
/- 202 -/
def c202_e : XC := (.sO [.al p1 (.box q0), .al p2 (.new [.nils, (kI 0), (kI 0), (kI 0), (kI 0)]), .al p3 (.new [(kI 0), (.str []), (.str []), (.int .u32 (.ofNat 0)), (.int .u64 (.ofNat 0)), .nils, (kI 0), (kI 0)])] (.sO [.L p6 (.cells 5 q1) .v, .cl p7 165 [q6] .v, .cl p8 222 [q7] .v, .mv p5 q8 .v, .P p9 (.ext q5 0) .v, .P p10 (.ext q5 1) .v, .al p4 (.new [(kI 0), (.str []), (.str []), (.int .u32 (.ofNat 0)), (.int .u64 (.ofNat 0)), .nils, (kI 0), (kI 0)]), .ss 5 q1 q9, .ss 8 q4 q10] (.seq (.ops true (XL.of [.L p11 (.cells 5 q1) .v, .L p13 (.cells 8 q4) .v, .o ⟨(some p12), (.call (.fn 166) [q11]), none, [⟨none, .cells 8 q4, p13⟩]⟩ .v, .o ⟨none, (.e (.stores 5 q2 q12)), none, [⟨none, .cells 8 q4, p13⟩]⟩ .v, .ss 8 q3 q13])) (.s .ret))))
def x202 : XFn := ⟨[.v], false, [(.cells 5 p2), (.cells 8 p3)], c202_e⟩
def e202_0 (k t0 h) := kN k [(p0, t0)] h
def S202_0 (D : CallD) (m : Nat) (t0 : AV) (h : HP) : Res2 :=
 let t1 := AV.ptr (HP.nxQ h) 0
 let h1 := HP.newQ h (.cells true (AV.cells t0))
 let t2 := AV.ptr (HP.nxQ h1) 0
 let h2 := HP.newQ h1 (.cells true [.nils, (kI 0), (kI 0), (kI 0), (kI 0)])
 let t3 := AV.ptr (HP.nxQ h2) 0
 let h3 := HP.newQ h2 (.cells true [(kI 0), (.str []), (.str []), (.int .u32 (.ofNat 0)), (.int .u64 (.ofNat 0)), .nils, (kI 0), (kI 0)])
 cellsC 5 t1 h3 fun t6 =>
 cal D 165 [t6] h3 fun t7 h4 =>
 cal D 222 [t7] h4 fun t8 h5 =>
 extC t8 0 fun t9 =>
 extC t8 1 fun t10 =>
 let t4 := AV.ptr (HP.nxQ h5) 0
 let h6 := HP.newQ h5 (.cells true [(kI 0), (.str []), (.str []), (.int .u32 (.ofNat 0)), (.int .u64 (.ofNat 0)), .nils, (kI 0), (kI 0)])
 stsC 5 t1 t9 h6 fun h7 =>
 stsC 8 t4 t10 h7 fun h8 =>
 cellsC 5 t1 h8 fun t11 =>
 cellsC 8 t4 h8 fun t13 =>
 cal D 166 [t11] h8 fun t12 h9 =>
 br (again [⟨none, .cells 8 q4, p13⟩] (mkT [(p13, t13), (p4, t4)]) h9) (
 stsC 5 t2 t12 h9 fun h10 =>
 br (againE (.stores 5 q2 q12) [⟨none, .cells 8 q4, p13⟩] (mkT [(p2, t2), (p13, t13), (p4, t4)]) h10) (
 stsC 8 t3 t13 h10 fun h11 =>
 cellsC 5 t2 h11 fun t2a =>
 cellsC 8 t3 h11 fun t3a =>
 some (.ret (.tup [t2a, t3a]) h11, .no)) none) none
def S202 : SFn := fun D m args h u => nou u <| popV args fun t0 args => endA args (S202_0 D m t0 h)
theorem T202_0 (hE : FX x202 D m E) : S202_0 D m = e202_0 (E c202_e []) := by unfold S202_0; rw [hE c202_e]; kernel_rfl
theorem X202 : XTie S202 x202 := X_of fun D m E hE args h u => by unfold S202; rw [T202_0 hE]; kernel_rfl
/- 203 -/
def v203_0 : List Pos := []
def c203_0 : XC := (.sO [.mv p2 (.c (.int .i64 (.negSucc 0))) tI] (.s .ret))
def v203_5 : List Pos := [p28]
def c203_5 : XC := (.cond q28 (.sO [.mv p2 (ci 9) tI] (.s .ret)) (.s .skip))
def v203_4 : List Pos := [p3, p25]
def c203_4 : XC := (.cond q25 (.sO [.mv p2 (ci 8) tI] (.s .ret)) (.sj v203_5 (.sO [.bn p29 .eql q3 (.c (.str [42])) .b, .mv p28 q29 .b] (.cond q28 (.s .skip) (.sO [.bn p30 .eql q3 (.c (.str [47])) .b, .mv p28 q30 .b] (.cond q28 (.s .skip) (.s (.oX [.bn p31 .eql q3 (.c (.str [37])) .b, .mv p28 q31 .b])))))) c203_5))
def v203_3 : List Pos := [p3, p22]
def c203_3 : XC := (.cond q22 (.sO [.mv p2 (ci 7) tI] (.s .ret)) (.sj v203_4 (.sO [.bn p26 .eql q3 (.c (.str [43])) .b, .mv p25 q26 .b] (.cond q25 (.s .skip) (.s (.oX [.bn p27 .eql q3 (.c (.str [45])) .b, .mv p25 q27 .b])))) c203_4))
def v203_2 : List Pos := [p3, p17]
def c203_2 : XC := (.cond q17 (.sO [.mv p2 (ci 6) tI] (.s .ret)) (.sj v203_3 (.sO [.bn p23 .eql q3 (.c (.str [60, 60])) .b, .mv p22 q23 .b] (.cond q22 (.s .skip) (.s (.oX [.bn p24 .eql q3 (.c (.str [62, 62])) .b, .mv p22 q24 .b])))) c203_3))
def v203_1 : List Pos := [p3, p14]
def c203_1 : XC := (.cond q14 (.sO [.mv p2 (ci 5) tI] (.s .ret)) (.sj v203_2 (.sO [.bn p18 .eql q3 (.c (.str [60])) .b, .mv p17 q18 .b] (.cond q17 (.s .skip) (.sO [.bn p19 .eql q3 (.c (.str [60, 61])) .b, .mv p17 q19 .b] (.cond q17 (.s .skip) (.sO [.bn p20 .eql q3 (.c (.str [62])) .b, .mv p17 q20 .b] (.cond q17 (.s .skip) (.s (.oX [.bn p21 .eql q3 (.c (.str [62, 61])) .b, .mv p17 q21 .b])))))))) c203_2))
def c203_e : XC := (.sO [.mv p2 (ci 0) tI] (.sj v203_0 (.sO [.mv p3 q0 .s] (.block 0 (.sO [.bn p5 .eql q3 (.c (.str [124, 124])) .b, .mv p4 q5 .b] (.cond q4 (.sO [.mv p2 (ci 0) tI] (.s .ret)) (.sO [.bn p7 .eql q3 (.c (.str [38, 38])) .b, .mv p6 q7 .b] (.cond q6 (.sO [.mv p2 (ci 1) tI] (.s .ret)) (.sO [.bn p9 .eql q3 (.c (.str [124])) .b, .mv p8 q9 .b] (.cond q8 (.sO [.mv p2 (ci 2) tI] (.s .ret)) (.sO [.bn p11 .eql q3 (.c (.str [94])) .b, .mv p10 q11 .b] (.cond q10 (.sO [.mv p2 (ci 3) tI] (.s .ret)) (.sO [.bn p13 .eql q3 (.c (.str [38])) .b, .mv p12 q13 .b] (.cond q12 (.sO [.mv p2 (ci 4) tI] (.s .ret)) (.sj v203_1 (.sO [.bn p15 .eql q3 (.c (.str [61, 61])) .b, .mv p14 q15 .b] (.cond q14 (.s .skip) (.s (.oX [.bn p16 .eql q3 (.c (.str [33, 61])) .b, .mv p14 q16 .b])))) c203_1))))))))))))) c203_0))
def x203 : XFn := ⟨[.s], false, [(.tmp p2)], c203_e⟩
def e203_0 (k h) := kN k [] h
def S203_0 (D : CallD) (m : Nat) (h : HP) : Res2 :=
 some (.ret (vI (Int.negSucc 0)) h, .no)
def e203_5 (k t28 h) := kN k [(p28, (vB t28))] h
def S203_5 (D : CallD) (m : Nat) (t28 : Bool) (h : HP) : Res2 :=
 br t28 (
 some (.ret (vI (Int.ofNat 9)) h, .no)) (
 S203_0 D m h)
def e203_4 (k t3 t25 h) := kN k [(p3, (vS t3)), (p25, (vB t25))] h
def S203_4 (D : CallD) (m : Nat) (t3 : LN) (t25 : Bool) (h : HP) : Res2 :=
 br t25 (
 some (.ret (vI (Int.ofNat 8)) h, .no)) (
 let t29 := eqL t3 ([42] : LN)
 br t29 (
 S203_5 D m t29 h) (
 let t30 := eqL t3 ([47] : LN)
 br t30 (
 S203_5 D m t30 h) (
 let t31 := eqL t3 ([37] : LN)
 S203_5 D m t31 h)))
def e203_3 (k t3 t22 h) := kN k [(p3, (vS t3)), (p22, (vB t22))] h
def S203_3 (D : CallD) (m : Nat) (t3 : LN) (t22 : Bool) (h : HP) : Res2 :=
 br t22 (
 some (.ret (vI (Int.ofNat 7)) h, .no)) (
 let t26 := eqL t3 ([43] : LN)
 br t26 (
 S203_4 D m t3 t26 h) (
 let t27 := eqL t3 ([45] : LN)
 S203_4 D m t3 t27 h))
def e203_2 (k t3 t17 h) := kN k [(p3, (vS t3)), (p17, (vB t17))] h
def S203_2 (D : CallD) (m : Nat) (t3 : LN) (t17 : Bool) (h : HP) : Res2 :=
 br t17 (
 some (.ret (vI (Int.ofNat 6)) h, .no)) (
 let t23 := eqL t3 ([60, 60] : LN)
 br t23 (
 S203_3 D m t3 t23 h) (
 let t24 := eqL t3 ([62, 62] : LN)
 S203_3 D m t3 t24 h))
def e203_1 (k t3 t14 h) := kN k [(p3, (vS t3)), (p14, (vB t14))] h
def S203_1 (D : CallD) (m : Nat) (t3 : LN) (t14 : Bool) (h : HP) : Res2 :=
 br t14 (
 some (.ret (vI (Int.ofNat 5)) h, .no)) (
 let t18 := eqL t3 ([60] : LN)
 br t18 (
 S203_2 D m t3 t18 h) (
 let t19 := eqL t3 ([60, 61] : LN)
 br t19 (
 S203_2 D m t3 t19 h) (
 let t20 := eqL t3 ([62] : LN)
 br t20 (
 S203_2 D m t3 t20 h) (
 let t21 := eqL t3 ([62, 61] : LN)
 S203_2 D m t3 t21 h))))
def e203_6 (k t0 h) := kN k [(p0, (vS t0))] h
def S203_6 (D : CallD) (m : Nat) (t0 : LN) (h : HP) : Res2 :=
 let t5 := eqL t0 ([124, 124] : LN)
 br t5 (
 some (.ret (vI (Int.ofNat 0)) h, .no)) (
 let t7 := eqL t0 ([38, 38] : LN)
 br t7 (
 some (.ret (vI (Int.ofNat 1)) h, .no)) (
 let t9 := eqL t0 ([124] : LN)
 br t9 (
 some (.ret (vI (Int.ofNat 2)) h, .no)) (
 let t11 := eqL t0 ([94] : LN)
 br t11 (
 some (.ret (vI (Int.ofNat 3)) h, .no)) (
 let t13 := eqL t0 ([38] : LN)
 br t13 (
 some (.ret (vI (Int.ofNat 4)) h, .no)) (
 let t15 := eqL t0 ([61, 61] : LN)
 br t15 (
 S203_1 D m t0 t15 h) (
 let t16 := eqL t0 ([33, 61] : LN)
 S203_1 D m t0 t16 h))))))
def S203 : SFn := fun D m args h u => nou u <| popS args fun t0 args => endA args (S203_6 D m t0 h)
theorem T203_0 (hE : FX x203 D m E) : S203_0 D m = e203_0 (E c203_0 []) := by unfold S203_0; rw [hE c203_0]; kernel_rfl
theorem T203_5 (hE : FX x203 D m E) : S203_5 D m = e203_5 (E c203_5 [.blk 0, .sj v203_0 c203_0]) := by unfold S203_5; rw [T203_0 hE, hE c203_5]; kernel_rfl
theorem T203_4 (hE : FX x203 D m E) : S203_4 D m = e203_4 (E c203_4 [.blk 0, .sj v203_0 c203_0]) := by unfold S203_4; rw [T203_5 hE, hE c203_4]; kernel_rfl
theorem T203_3 (hE : FX x203 D m E) : S203_3 D m = e203_3 (E c203_3 [.blk 0, .sj v203_0 c203_0]) := by unfold S203_3; rw [T203_4 hE, hE c203_3]; kernel_rfl
theorem T203_2 (hE : FX x203 D m E) : S203_2 D m = e203_2 (E c203_2 [.blk 0, .sj v203_0 c203_0]) := by unfold S203_2; rw [T203_3 hE, hE c203_2]; kernel_rfl
theorem T203_1 (hE : FX x203 D m E) : S203_1 D m = e203_1 (E c203_1 [.blk 0, .sj v203_0 c203_0]) := by unfold S203_1; rw [T203_2 hE, hE c203_1]; kernel_rfl
theorem T203_6 (hE : FX x203 D m E) : S203_6 D m = e203_6 (E c203_e []) := by unfold S203_6; rw [T203_1 hE, hE c203_e]; kernel_rfl
theorem X203 : XTie S203 x203 := X_of fun D m E hE args h u => by unfold S203; rw [T203_6 hE]; kernel_rfl
/- 205 -/
def v205_3 : List Pos := [p1, p2]
def c205_3 : XC := (.sO [.L p207 (.cells 8 q1) .v, .ss 8 q2 q207, .mv p3 (ci 0) tI] (.s .ret))
def v205_6 : List Pos := [p1, p2, p6]
def c205_6 : XC := (.sO [.al p150 (.bsl [(.str []), (.str []), (.str []), (.str []), (.str []), (.str []), (.str []), (.str [])] 8 [⟨0, 1, (.c (.str [37]))⟩, ⟨1, 1, (.c (.str [60, 60]))⟩, ⟨2, 1, (.c (.str [62, 62]))⟩, ⟨3, 1, (.c (.str [38]))⟩, ⟨4, 1, (.c (.str [94]))⟩, ⟨5, 1, (.c (.str [124]))⟩, ⟨6, 1, (.c (.str [38, 38]))⟩, ⟨7, 1, (.c (.str [124, 124]))⟩]), .fa p151 1 q1, .ld p152 q151 .s, .cl p153 224 [q150, q152] .b, .mv p154 q153 .b, .ge p154 (XL.of [.G p154 true p155 (.mov q6) .b, .P p156 (.pick q154 q155 (cb false)) .b]) p156 .b] (.cond q156 (.sO [.L p157 (.cells 8 q1) .v, .ss 8 q2 q157, .mv p3 (ci 1) tI] (.s .ret)) (.s .skip)))
def v205_7 : List Pos := [p1, p2, p6, p8]
def c205_7 : XC := (.sO [.mv p148 q8 .b] (.cond q148 (.sO [.L p149 (.cells 8 q1) .v, .ss 8 q2 q149, .mv p3 (ci 1) tI] (.s .ret)) (.s .skip)))
def v205_5 : List Pos := [p1, p2, p4, p5, p6, p7]
def c205_5 : XC := (.seq (.seq (.oX [.al p105 (.bsl [(.str []), (.str []), (.str []), (.str [])] 4 [⟨0, 1, (.c (.str [60]))⟩, ⟨1, 1, (.c (.str [60, 61]))⟩, ⟨2, 1, (.c (.str [62]))⟩, ⟨3, 1, (.c (.str [62, 61]))⟩]), .fa p106 1 q1, .ld p107 q106 .s, .cl p108 224 [q105, q107] .b, .mv p109 q108 .b, .ge p109 (XL.of [.G p109 true p110 (.mov q7) .b, .P p111 (.pick q109 q110 (cb false)) .b]) p111 .b]) (.cond q111 (.seq (.oX [.L p112 (.cells 8 q1) .v, .ss 8 q2 q112, .mv p3 (ci 1) tI]) .ret) .skip)) (.sj v205_6 (.sO [.al p113 (.bsl [(.str []), (.str [])] 2 [⟨0, 1, (.c (.str [61, 61]))⟩, ⟨1, 1, (.c (.str [33, 61]))⟩]), .fa p114 1 q1, .ld p115 q114 .s, .cl p116 224 [q113, q115] .b] (.cond q116 (.sO [.mv p117 q7 .b, .mv p8 q117 .b] (.sj v205_7 (.sO [.mv p118 q4 tI, .cl p119 206 [q118] tI, .bn p120 .neq q119 (ci 0) .b] (.cond q120 (.s (.ops true (XL.of [.fa p122 5 q1, .ld p123 q122 .v, .fa p124 5 q1, .ld p125 q124 .v, .P p126 (.iaddr (.sl 8) q125 (ci 1)) .v, .L p127 (.cells 8 q126) .v, .mv p128 q4 tI, .o ⟨(some p129), (.call (.fn 168) [q127, q128]), none, [⟨none, .cell q122, p123⟩]⟩ .v, .mv p121 q129 .v, .P p130 (.ext q121 0) .v, .P p131 (.ext q121 1) .b, .P p132 (.iaddr (.sl 8) q123 (ci 1)) .v, .ss 8 q132 q130, .mv p8 q131 .b]))) (.sO [.mv p133 q5 tI, .cl p134 206 [q133] tI, .bn p135 .neq q134 (ci 0) .b] (.cond q135 (.s (.ops true (XL.of [.fa p137 5 q1, .ld p138 q137 .v, .fa p139 5 q1, .ld p140 q139 .v, .P p141 (.iaddr (.sl 8) q140 (ci 0)) .v, .L p142 (.cells 8 q141) .v, .mv p143 q5 tI, .o ⟨(some p144), (.call (.fn 168) [q142, q143]), none, [⟨none, .cell q137, p138⟩]⟩ .v, .mv p136 q144 .v, .P p145 (.ext q136 0) .v, .P p146 (.ext q136 1) .b, .P p147 (.iaddr (.sl 8) q138 (ci 0)) .v, .ss 8 q147 q145, .mv p8 q146 .b]))) (.s .skip))))) c205_7)) (.s .skip))) c205_6))
def c205_11 : XC := (.cond q102 (.sO [.L p103 (.cells 8 q1) .v, .mv p104 q4 tI, .ss 8 q2 q103, .mv p3 q104 tI] (.s .ret)) (.s .skip))
def l205_10 : XL := (XL.of [])
def l205_9 : XL := (XL.pre [.mv p94 q93 .b, .sp p94, .o ⟨(some p95), (.a (.bsl [(.str []), (.str [])] 2 [⟨0, 1, (.c (.str [42]))⟩, ⟨1, 1, (.c (.str [47]))⟩])), (some (p94, false)), []⟩ .v, .G p94 false p96 (.faddr 1 q1) .v, .o ⟨(some p97), (.l (.cell q96)), (some (p94, false)), []⟩ .s, .o ⟨(some p98), (.call (.fn 224) [q95, q97]), (some (p94, false)), []⟩ .b, .G p94 false p99 (.mov q98) .b, .ge p99 (XL.of [.G p99 true p100 (.mov q7) .b, .G p94 false p101 (.pick q99 q100 (cb false)) .b]) p101 .b, .P p102 (.pick q94 (cb true) q101) .b, .jn p94 [p1, p2, p4, p5, p6, p7, p102]] l205_10)
def l205_8 : XL := (XL.pre [.P p93 (.pick q82 q92 (cb false)) .b, .jn p82 [p1, p2, p4, p5, p6, p7, p93]] l205_9)
def c205_13 : XC := (.cond q179 (.sO [.L p180 (.cells 8 q1) .v, .mv p181 q4 tI, .ss 8 q2 q180, .mv p3 q181 tI] (.s .ret)) (.s .skip))
def l205_12 : XL := (XL.of [])
def v205_4 : List Pos := [p1, p2, p4, p5, p6, p7, p41, p42]
def c205_4 : XC := (.cond q42 (.seq (.ops true (XL.of [.L p45 (.cells 8 q1) .v, .fa p46 0 q1, .ld p47 q46 tI, .o ⟨none, (.e (.stores 8 q2 q45)), none, [⟨none, .cell q46, p47⟩]⟩ .v, .mv p3 q47 tI])) (.s .ret)) (.sO [.bn p49 .eql q41 (ci 4) .b, .mv p48 q49 .b] (.cond q48 (.sO [.fa p50 1 q1, .ld p51 q50 .s] (.block 1 (.sO [.bn p56 .eql q51 (.c (.str [45])) .b, .mv p55 q56 .b] (.cond q55 (.sO [.mv p57 q4 tI, .cl p58 128 [q57] .b] (.cond q58 (.sO [.L p59 (.cells 8 q1) .v, .mv p60 q4 tI, .ss 8 q2 q59, .mv p3 q60 tI] (.s .ret)) (.s .skip))) (.sO [.bn p62 .eql q51 (.c (.str [42])) .b, .mv p61 q62 .b] (.cond q61 (.seq (.ops true (XL.of [.L p63 (.cells 8 q1) .v, .mv p64 q4 tI, .o ⟨(some p65), (.call (.fn 206) [q64]), none, [⟨none, .cells 8 q1, p63⟩]⟩ tI, .ss 8 q2 q63, .mv p3 q65 tI])) (.s .ret)) (.sO [.bn p67 .eql q51 (.c (.str [38])) .b, .mv p66 q67 .b] (.cond q66 (.sO [.fa p68 5 q1, .ld p69 q68 .v, .P p70 (.iaddr (.sl 8) q69 (ci 0)) .v, .L p71 (.cells 8 q70) .v, .cl p72 223 [q71] .b] (.cond q72 (.seq (.ops true (XL.of [.L p73 (.cells 8 q1) .v, .mv p74 q4 tI, .o ⟨(some p75), (.call (.fn 204) [q74]), none, [⟨none, .cells 8 q1, p73⟩]⟩ tI, .ss 8 q2 q73, .mv p3 q75 tI])) (.s .ret)) (.s .skip))) (.sO [.mv p52 q4 tI, .bn p53 .eql q52 (ci 1) .b] (.cond q53 (.sO [.L p54 (.cells 8 q1) .v, .ss 8 q2 q54, .mv p3 (ci 1) tI] (.s .ret)) (.s .skip))))))))))) (.sO [.bn p77 .eql q41 (ci 5) .b, .mv p76 q77 .b] (.cond q76 (.sj v205_5 (.opq false (XL.pre [.al p78 (.bsl [(.str []), (.str [])] 2 [⟨0, 1, (.c (.str [43]))⟩, ⟨1, 1, (.c (.str [45]))⟩]), .fa p79 1 q1, .ld p80 q79 .s, .cl p81 224 [q78, q80] .b, .mv p82 q81 .b, .sp p82, .G p82 true p83 (.mov q7) .b, .G p82 true p84 (.mov q83) .b, .sp p84, .G p84 false p85 (.mov q4) tI, .o ⟨(some p86), (.call (.fn 206) [q85]), (some (p84, false)), []⟩ tI, .G p84 false p87 (.bin .neq q86 (ci 0)) .b, .G p84 false p88 (.mov q87) .b, .ge p88 (XL.of [.G p88 true p89 (.mov q5) tI, .G p88 true p90 (.bin .eql q89 (ci 1)) .b, .G p84 false p91 (.pick q88 q90 (cb false)) .b]) p91 .b, .G p82 true p92 (.pick q84 (cb true) q91) .b, .jn p84 [p1, p2, p4, p5, p6, p7, p82, p92]] l205_8) c205_11) c205_5) (.sO [.bn p159 .eql q41 (ci 6) .b, .mv p158 q159 .b] (.cond q158 (.seq (.ops true (XL.of [.fa p161 5 q1, .ld p162 q161 .v, .fa p163 5 q1, .ld p164 q163 .v, .P p165 (.iaddr (.sl 8) q164 (ci 1)) .v, .L p166 (.cells 8 q165) .v, .mv p167 q4 tI, .o ⟨(some p168), (.call (.fn 168) [q166, q167]), none, [⟨none, .cell q161, p162⟩]⟩ .v, .mv p160 q168 .v, .P p169 (.ext q160 0) .v, .P p170 (.ext q160 1) .b, .P p171 (.iaddr (.sl 8) q162 (ci 1)) .v, .ss 8 q171 q169, .mv p8 q170 .b])) (.opq false (XL.pre [.mv p172 q8 .b, .mv p173 q172 .b, .sp p173, .G p173 true p174 (.faddr 5 q1) .v, .o ⟨(some p175), (.l (.cell q174)), (some (p173, true)), []⟩ .v, .G p173 true p176 (.iaddr (.sl 8) q175 (ci 0)) .v, .o ⟨(some p177), (.l (.cells 8 q176)), (some (p173, true)), []⟩ .v, .o ⟨(some p178), (.call (.fn 223) [q177]), (some (p173, true)), []⟩ .b, .P p179 (.pick q173 q178 (cb false)) .b, .jn p173 [p1, p2, p4, p179]] l205_12) c205_13)) (.sO [.bn p183 .eql q41 (ci 8) .b, .mv p182 q183 .b] (.cond q182 (.sO [.mv p184 q5 tI, .bn p185 .eql q184 (ci 1) .b] (.cond q185 (.seq (.ops true (XL.of [.L p186 (.cells 8 q1) .v, .mv p187 q4 tI, .o ⟨(some p188), (.call (.fn 206) [q187]), none, [⟨none, .cells 8 q1, p186⟩]⟩ tI, .ss 8 q2 q186, .mv p3 q188 tI])) (.s .ret)) (.s .skip))) (.sO [.bn p190 .eql q41 (ci 9) .b, .mv p189 q190 .b] (.cond q189 (.sO [.mv p191 q4 tI, .cl p192 128 [q191] .b, .mv p193 q192 .b, .ge p193 (XL.of [.G p193 true p194 (.faddr 3 q1) .v, .o ⟨(some p195), (.l (.cell q194)), (some (p193, true)), []⟩ tW, .G p193 true p196 (.bin .eql q195 (.c (.int .u32 (.ofNat 1)))) .b, .G p193 true p197 (.mov q196) .b, .ge p197 (XL.of [.G p197 false p198 (.faddr 3 q1) .v, .o ⟨(some p199), (.l (.cell q198)), (some (p197, false)), []⟩ tW, .G p197 false p200 (.bin .eql q199 (.c (.int .u32 (.ofNat 2)))) .b, .G p193 true p201 (.pick q197 (cb true) q200) .b]) p201 .b, .P p202 (.pick q193 q201 (cb false)) .b]) p202 .b] (.cond q202 (.seq (.ops true (XL.of [.L p203 (.cells 8 q1) .v, .fa p204 3 q1, .ld p205 q204 tW, .P p206 (.conv (.ii .i64) q205) tI, .o ⟨none, (.e (.stores 8 q2 q203)), none, [⟨none, .cell q204, p205⟩]⟩ .v, .mv p3 q206 tI])) (.s .ret)) (.s .skip))) (.s .skip))))))))))))
def c205_14 : XC := (.sO [.mv p8 (cb false) .b] (.sj v205_3 (.sO [.fa p40 0 q1, .ld p41 q40 tI] (.block 0 (.sj v205_4 (.sO [.bn p43 .eql q41 (ci 1) .b, .mv p42 q43 .b] (.cond q42 (.s .skip) (.s (.oX [.bn p44 .eql q41 (ci 2) .b, .mv p42 q44 .b])))) c205_4))) c205_3))
def l205_2 : XL := (XL.of [.mv p6 q32 .b, .mv p7 q39 .b])
def v205_1 : List Pos := [p1, p2, p4, p5]
def c205_1 : XC := (.opq false (XL.pre [.mv p27 q4 tI, .bn p28 .eql q27 (ci 1) .b, .mv p29 q28 .b, .ge p29 (XL.of [.G p29 true p30 (.mov q5) tI, .G p29 true p31 (.bin .eql q30 (ci 1)) .b, .P p32 (.pick q29 q31 (cb false)) .b]) p32 .b, .mv p33 q4 tI, .mv p34 q5 tI, .bn p35 .eql q33 q34 .b, .mv p36 q35 .b, .sp p36, .G p36 true p37 (.mov q4) tI, .o ⟨(some p38), (.call (.fn 128) [q37]), (some (p36, true)), []⟩ .b, .P p39 (.pick q36 q38 (cb false)) .b, .jn p36 [p1, p2, p4, p5, p32, p39]] l205_2) c205_14)
def v205_0 : List Pos := [p1, p2, p4, p5]
def c205_0 : XC := (.sj v205_1 (.sO [.fa p18 5 q1, .ld p19 q18 .v, .P p20 (.lenl q19) tI, .bn p21 .gtr q20 (ci 1) .b] (.cond q21 (.s (.oX [.fa p22 5 q1, .ld p23 q22 .v, .P p24 (.iaddr (.sl 8) q23 (ci 1)) .v, .fa p25 6 q24, .ld p26 q25 tI, .mv p5 q26 tI])) (.s .skip))) c205_1)
def c205_e : XC := (.sO [.al p1 (.box q0), .al p2 (.new [(kI 0), (.str []), (.str []), (.int .u32 (.ofNat 0)), (.int .u64 (.ofNat 0)), .nils, (kI 0), (kI 0)]), .mv p3 (ci 0) tI] (.sO [.mv p4 (ci 0) tI, .mv p5 (ci 0) tI] (.sj v205_0 (.sO [.fa p9 5 q1, .ld p10 q9 .v, .P p11 (.lenl q10) tI, .bn p12 .gtr q11 (ci 0) .b] (.cond q12 (.s (.oX [.fa p13 5 q1, .ld p14 q13 .v, .P p15 (.iaddr (.sl 8) q14 (ci 0)) .v, .fa p16 6 q15, .ld p17 q16 tI, .mv p4 q17 tI])) (.s .skip))) c205_0)))
def x205 : XFn := ⟨[.v], false, [(.cells 8 p2), (.tmp p3)], c205_e⟩
def e205_3 (k t1 t2 h) := kN k [(p1, t1), (p2, t2)] h
def S205_3 (D : CallD) (m : Nat) (t1 t2 : AV) (h : HP) : Res2 :=
 cellsC 8 t1 h fun t207 =>
 stsC 8 t2 t207 h fun h19 =>
 cellsC 8 t2 h19 fun t2a =>
 some (.ret (.tup [t2a, (vI (Int.ofNat 0))]) h19, .no)
def e205_6 (k t1 t2 t6 h) := kN k [(p1, t1), (p2, t2), (p6, (vB t6))] h
def S205_6 (D : CallD) (m : Nat) (t1 t2 : AV) (t6 : Bool) (h : HP) : Res2 :=
 let t150 := AV.slice (HP.nxQ h) 0 8 (.exact 8)
 let h32 := HP.newQ h (.cells true [(vS ([37] : LN)), (vS ([60, 60] : LN)), (vS ([62, 62] : LN)), (vS ([38] : LN)), (vS ([94] : LN)), (vS ([124] : LN)), (vS ([38, 38] : LN)), (vS ([124, 124] : LN))])
 faC 1 t1 fun t151 =>
 ldS t151 h32 fun t152 =>
 cal D 224 [t150, (vS t152)] h32 fun t153 h33 =>
 asB t153 fun t153a =>
 obB (brV t153a (
 some (vB t6)) (
 some (vB false))) fun t156 =>
 br t156 (
 cellsC 8 t1 h33 fun t157 =>
 stsC 8 t2 t157 h33 fun h34 =>
 cellsC 8 t2 h34 fun t2a =>
 some (.ret (.tup [t2a, (vI (Int.ofNat 1))]) h34, .no)) (
 S205_3 D m t1 t2 h33)
def e205_7 (k t1 t2 t6 t8 h) := kN k [(p1, t1), (p2, t2), (p6, (vB t6)), (p8, (vB t8))] h
def S205_7 (D : CallD) (m : Nat) (t1 t2 : AV) (t6 t8 : Bool) (h : HP) : Res2 :=
 br t8 (
 cellsC 8 t1 h fun t149 =>
 stsC 8 t2 t149 h fun h37 =>
 cellsC 8 t2 h37 fun t2a =>
 some (.ret (.tup [t2a, (vI (Int.ofNat 1))]) h37, .no)) (
 S205_6 D m t1 t2 t6 h)
def e205_5 (k t1 t2 t4 t5 t6 t7 h) := kN k [(p1, t1), (p2, t2), (p4, (vI t4)), (p5, (vI t5)), (p6, (vB t6)), (p7, (vB t7))] h
def S205_5 (D : CallD) (m : Nat) (t1 t2 : AV) (t4 t5 : Int) (t6 t7 : Bool) (h : HP) : Res2 :=
 let t105 := AV.slice (HP.nxQ h) 0 4 (.exact 4)
 let h29 := HP.newQ h (.cells true [(vS ([60] : LN)), (vS ([60, 61] : LN)), (vS ([62] : LN)), (vS ([62, 61] : LN))])
 faC 1 t1 fun t106 =>
 ldS t106 h29 fun t107 =>
 cal D 224 [t105, (vS t107)] h29 fun t108 h30 =>
 asB t108 fun t108a =>
 obB (brV t108a (
 some (vB t7)) (
 some (vB false))) fun t111 =>
 br t111 (
 cellsC 8 t1 h30 fun t112 =>
 stsC 8 t2 t112 h30 fun h31 =>
 cellsC 8 t2 h31 fun t2a =>
 some (.ret (.tup [t2a, (vI (Int.ofNat 1))]) h31, .no)) (
 let t113 := AV.slice (HP.nxQ h30) 0 2 (.exact 2)
 let h35 := HP.newQ h30 (.cells true [(vS ([61, 61] : LN)), (vS ([33, 61] : LN))])
 faC 1 t1 fun t114 =>
 ldS t114 h35 fun t115 =>
 cal D 224 [t113, (vS t115)] h35 fun t116 h36 =>
 asB t116 fun t116a =>
 br t116a (
 cal D 206 [(vI t4)] h36 fun t119 h38 =>
 asI .i64 t119 fun t119a =>
 let t120 := notQ (eqQ t119a (Int.ofNat 0))
 br t120 (
 faC 5 t1 fun t122 =>
 cellC t122 h38 fun t123 =>
 faC 5 t1 fun t124 =>
 cellC t124 h38 fun t125 =>
 iasC 8 t125 (vI (Int.ofNat 1)) fun t126 =>
 cellsC 8 t126 h38 fun t127 =>
 cal D 168 [t127, (vI t4)] h38 fun t129 h39 =>
 br (again [⟨none, .cell q122, p123⟩] (mkT [(p123, t123), (p122, t122)]) h39) (
 extC t129 0 fun t130 =>
 extC t129 1 fun vt131 => asB vt131 fun t131 =>
 iasC 8 t123 (vI (Int.ofNat 1)) fun t132 =>
 stsC 8 t132 t130 h39 fun h40 =>
 S205_7 D m t1 t2 t6 t131 h40) none) (
 cal D 206 [(vI t5)] h38 fun t134 h41 =>
 asI .i64 t134 fun t134a =>
 let t135 := notQ (eqQ t134a (Int.ofNat 0))
 br t135 (
 faC 5 t1 fun t137 =>
 cellC t137 h41 fun t138 =>
 faC 5 t1 fun t139 =>
 cellC t139 h41 fun t140 =>
 iasC 8 t140 (vI (Int.ofNat 0)) fun t141 =>
 cellsC 8 t141 h41 fun t142 =>
 cal D 168 [t142, (vI t5)] h41 fun t144 h42 =>
 br (again [⟨none, .cell q137, p138⟩] (mkT [(p138, t138), (p137, t137)]) h42) (
 extC t144 0 fun t145 =>
 extC t144 1 fun vt146 => asB vt146 fun t146 =>
 iasC 8 t138 (vI (Int.ofNat 0)) fun t147 =>
 stsC 8 t147 t145 h42 fun h43 =>
 S205_7 D m t1 t2 t6 t146 h43) none) (
 S205_7 D m t1 t2 t6 t7 h41))) (
 S205_6 D m t1 t2 t6 h36))
def e205_10 (k t1 t2 t4 t5 t6 t7 t102 h) := kN k [(p1, t1), (p2, t2), (p4, (vI t4)), (p5, (vI t5)), (p6, (vB t6)), (p7, (vB t7)), (p102, (vB t102))] h
def S205_10 (D : CallD) (m : Nat) (t1 t2 : AV) (t4 t5 : Int) (t6 t7 t102 : Bool) (h : HP) : Res2 :=
 br t102 (
 cellsC 8 t1 h fun t103 =>
 stsC 8 t2 t103 h fun h46 =>
 cellsC 8 t2 h46 fun t2a =>
 some (.ret (.tup [t2a, (vI t4)]) h46, .no)) (
 S205_5 D m t1 t2 t4 t5 t6 t7 h)
def e205_9 (k t1 t2 t4 t5 t6 t7 t93 h) := kN k [(p1, t1), (p2, t2), (p4, (vI t4)), (p5, (vI t5)), (p6, (vB t6)), (p7, (vB t7)), (p93, (vB t93))] h
def S205_9 (D : CallD) (m : Nat) (t1 t2 : AV) (t4 t5 : Int) (t6 t7 t93 : Bool) (h : HP) : Res2 :=
 br t93 (
 S205_10 D m t1 t2 t4 t5 t6 t7 true h) (
 let t95 := AV.slice (HP.nxQ h) 0 2 (.exact 2)
 let h47 := HP.newQ h (.cells true [(vS ([42] : LN)), (vS ([47] : LN))])
 faC 1 t1 fun t96 =>
 ldS t96 h47 fun t97 =>
 cal D 224 [t95, (vS t97)] h47 fun t98 h48 =>
 asB t98 fun t98a =>
 obB (brV t98a (
 some (vB t7)) (
 some (vB false))) fun t101 =>
 S205_10 D m t1 t2 t4 t5 t6 t7 t101 h48)
def e205_8 (k t1 t2 t4 t5 t6 t7 t82 t92 h) := kN k [(p1, t1), (p2, t2), (p4, (vI t4)), (p5, (vI t5)), (p6, (vB t6)), (p7, (vB t7)), (p82, (vB t82)), (p92, (vB t92))] h
def S205_8 (D : CallD) (m : Nat) (t1 t2 : AV) (t4 t5 : Int) (t6 t7 t82 t92 : Bool) (h : HP) : Res2 :=
 obB (brV t82 (some (vB t92)) (some (vB false))) fun t93 =>
 S205_9 D m t1 t2 t4 t5 t6 t7 t93 h
def e205_12 (k t1 t2 t4 t179 h) := kN k [(p1, t1), (p2, t2), (p4, (vI t4)), (p179, (vB t179))] h
def S205_12 (D : CallD) (m : Nat) (t1 t2 : AV) (t4 : Int) (t179 : Bool) (h : HP) : Res2 :=
 br t179 (
 cellsC 8 t1 h fun t180 =>
 stsC 8 t2 t180 h fun h53 =>
 cellsC 8 t2 h53 fun t2a =>
 some (.ret (.tup [t2a, (vI t4)]) h53, .no)) (
 S205_3 D m t1 t2 h)
def e205_4 (k t1 t2 t4 t5 t6 t7 t41 t42 h) := kN k [(p1, t1), (p2, t2), (p4, (vI t4)), (p5, (vI t5)), (p6, (vB t6)), (p7, (vB t7)), (p41, (vI t41)), (p42, (vB t42))] h
def S205_4 (D : CallD) (m : Nat) (t1 t2 : AV) (t4 t5 : Int) (t6 t7 : Bool) (t41 : Int) (t42 : Bool) (h : HP) : Res2 :=
 br t42 (
 cellsC 8 t1 h fun t45 =>
 faC 0 t1 fun t46 =>
 ldI t46 h fun t47 =>
 stsC 8 t2 t45 h fun h20 =>
 br (againE (.stores 8 q2 q45) [⟨none, .cell q46, p47⟩] (mkT [(p2, t2), (p47, (vI t47)), (p46, t46)]) h20) (
 cellsC 8 t2 h20 fun t2a =>
 some (.ret (.tup [t2a, (vI t47)]) h20, .no)) none) (
 let t49 := eqQ t41 (Int.ofNat 4)
 br t49 (
 faC 1 t1 fun t50 =>
 ldS t50 h fun t51 =>
 let t56 := eqL t51 ([45] : LN)
 br t56 (
 cal D 128 [(vI t4)] h fun t58 h21 =>
 asB t58 fun t58a =>
 br t58a (
 cellsC 8 t1 h21 fun t59 =>
 stsC 8 t2 t59 h21 fun h22 =>
 cellsC 8 t2 h22 fun t2a =>
 some (.ret (.tup [t2a, (vI t4)]) h22, .no)) (
 S205_3 D m t1 t2 h21)) (
 let t62 := eqL t51 ([42] : LN)
 br t62 (
 cellsC 8 t1 h fun t63 =>
 cal D 206 [(vI t4)] h fun t65 h23 =>
 br (again [⟨none, .cells 8 q1, p63⟩] (mkT [(p63, t63), (p1, t1)]) h23) (
 asI .i64 t65 fun t65a =>
 stsC 8 t2 t63 h23 fun h24 =>
 cellsC 8 t2 h24 fun t2a =>
 some (.ret (.tup [t2a, (vI t65a)]) h24, .no)) none) (
 let t67 := eqL t51 ([38] : LN)
 br t67 (
 faC 5 t1 fun t68 =>
 cellC t68 h fun t69 =>
 iasC 8 t69 (vI (Int.ofNat 0)) fun t70 =>
 cellsC 8 t70 h fun t71 =>
 cal D 223 [t71] h fun t72 h25 =>
 asB t72 fun t72a =>
 br t72a (
 cellsC 8 t1 h25 fun t73 =>
 cal D 204 [(vI t4)] h25 fun t75 h26 =>
 br (again [⟨none, .cells 8 q1, p73⟩] (mkT [(p73, t73), (p1, t1)]) h26) (
 asI .i64 t75 fun t75a =>
 stsC 8 t2 t73 h26 fun h27 =>
 cellsC 8 t2 h27 fun t2a =>
 some (.ret (.tup [t2a, (vI t75a)]) h27, .no)) none) (
 S205_3 D m t1 t2 h25)) (
 let t53 := eqQ t4 (Int.ofNat 1)
 br t53 (
 cellsC 8 t1 h fun t54 =>
 stsC 8 t2 t54 h fun h28 =>
 cellsC 8 t2 h28 fun t2a =>
 some (.ret (.tup [t2a, (vI (Int.ofNat 1))]) h28, .no)) (
 S205_3 D m t1 t2 h))))) (
 let t77 := eqQ t41 (Int.ofNat 5)
 br t77 (
 let t78 := AV.slice (HP.nxQ h) 0 2 (.exact 2)
 let h44 := HP.newQ h (.cells true [(vS ([43] : LN)), (vS ([45] : LN))])
 faC 1 t1 fun t79 =>
 ldS t79 h44 fun t80 =>
 cal D 224 [t78, (vS t80)] h44 fun t81 h45 =>
 asB t81 fun t81a =>
 br t81a (
 br t7 (
 S205_8 D m t1 t2 t4 t5 t6 t7 true true h45) (
 cal D 206 [(vI t4)] h45 fun t86 h49 =>
 asI .i64 t86 fun t86a =>
 let t87 := notQ (eqQ t86a (Int.ofNat 0))
 obB (brV t87 (
 let t90 := eqQ t5 (Int.ofNat 1)
 some (vB t90)) (
 some (vB false))) fun t91 =>
 S205_8 D m t1 t2 t4 t5 t6 t7 true t91 h49)) (
 S205_9 D m t1 t2 t4 t5 t6 t7 false h45)) (
 let t159 := eqQ t41 (Int.ofNat 6)
 br t159 (
 faC 5 t1 fun t161 =>
 cellC t161 h fun t162 =>
 faC 5 t1 fun t163 =>
 cellC t163 h fun t164 =>
 iasC 8 t164 (vI (Int.ofNat 1)) fun t165 =>
 cellsC 8 t165 h fun t166 =>
 cal D 168 [t166, (vI t4)] h fun t168 h50 =>
 br (again [⟨none, .cell q161, p162⟩] (mkT [(p162, t162), (p161, t161)]) h50) (
 extC t168 0 fun t169 =>
 extC t168 1 fun vt170 => asB vt170 fun t170 =>
 iasC 8 t162 (vI (Int.ofNat 1)) fun t171 =>
 stsC 8 t171 t169 h50 fun h51 =>
 br t170 (
 faC 5 t1 fun t174 =>
 cellC t174 h51 fun t175 =>
 iasC 8 t175 (vI (Int.ofNat 0)) fun t176 =>
 cellsC 8 t176 h51 fun t177 =>
 cal D 223 [t177] h51 fun t178 h52 =>
 asB t178 fun t178a =>
 S205_12 D m t1 t2 t4 t178a h52) (
 S205_12 D m t1 t2 t4 false h51)) none) (
 let t183 := eqQ t41 (Int.ofNat 8)
 br t183 (
 let t185 := eqQ t5 (Int.ofNat 1)
 br t185 (
 cellsC 8 t1 h fun t186 =>
 cal D 206 [(vI t4)] h fun t188 h54 =>
 br (again [⟨none, .cells 8 q1, p186⟩] (mkT [(p186, t186), (p1, t1)]) h54) (
 asI .i64 t188 fun t188a =>
 stsC 8 t2 t186 h54 fun h55 =>
 cellsC 8 t2 h55 fun t2a =>
 some (.ret (.tup [t2a, (vI t188a)]) h55, .no)) none) (
 S205_3 D m t1 t2 h)) (
 let t190 := eqQ t41 (Int.ofNat 9)
 br t190 (
 cal D 128 [(vI t4)] h fun t192 h56 =>
 asB t192 fun t192a =>
 obB (brV t192a (
 faCV 3 t1 fun t194 =>
 ldWV t194 h56 fun t195 =>
 binCV .eql (vW t195) (vW (Int.ofNat 1)) fun vt196 => asBV vt196 fun t196 =>
 obBV (brV t196 (
 some (vB true)) (
 faCV 3 t1 fun t198 =>
 ldWV t198 h56 fun t199 =>
 binCV .eql (vW t199) (vW (Int.ofNat 2)) fun vt200 => asBV vt200 fun t200 =>
 some (vB t200))) fun t201 =>
 some (vB t201)) (
 some (vB false))) fun t202 =>
 br t202 (
 cellsC 8 t1 h56 fun t203 =>
 faC 3 t1 fun t204 =>
 ldW t204 h56 fun t205 =>
 obI .i64 (convV (.ii .i64) (vW t205)) fun t206 =>
 stsC 8 t2 t203 h56 fun h57 =>
 br (againE (.stores 8 q2 q203) [⟨none, .cell q204, p205⟩] (mkT [(p2, t2), (p205, (vW t205)), (p204, t204)]) h57) (
 cellsC 8 t2 h57 fun t2a =>
 some (.ret (.tup [t2a, (vI t206)]) h57, .no)) none) (
 S205_3 D m t1 t2 h56)) (
 S205_3 D m t1 t2 h))))))
def e205_2 (k t1 t2 t4 t5 t32 t39 h) := kN k [(p1, t1), (p2, t2), (p4, (vI t4)), (p5, (vI t5)), (p32, (vB t32)), (p39, (vB t39))] h
def S205_2 (D : CallD) (m : Nat) (t1 t2 : AV) (t4 t5 : Int) (t32 t39 : Bool) (h : HP) : Res2 :=
 faC 0 t1 fun t40 =>
 ldI t40 h fun t41 =>
 let t43 := eqQ t41 (Int.ofNat 1)
 br t43 (
 S205_4 D m t1 t2 t4 t5 t32 t39 t41 t43 h) (
 let t44 := eqQ t41 (Int.ofNat 2)
 S205_4 D m t1 t2 t4 t5 t32 t39 t41 t44 h)
def e205_1 (k t1 t2 t4 t5 h) := kN k [(p1, t1), (p2, t2), (p4, (vI t4)), (p5, (vI t5))] h
def S205_1 (D : CallD) (m : Nat) (t1 t2 : AV) (t4 t5 : Int) (h : HP) : Res2 :=
 let t28 := eqQ t4 (Int.ofNat 1)
 obB (brV t28 (
 let t31 := eqQ t5 (Int.ofNat 1)
 some (vB t31)) (
 some (vB false))) fun t32 =>
 let t35 := eqQ t4 t5
 br t35 (
 cal D 128 [(vI t4)] h fun t38 h18 =>
 asB t38 fun t38a =>
 S205_2 D m t1 t2 t4 t5 t32 t38a h18) (
 S205_2 D m t1 t2 t4 t5 t32 false h)
def e205_0 (k t1 t2 t4 t5 h) := kN k [(p1, t1), (p2, t2), (p4, (vI t4)), (p5, (vI t5))] h
def S205_0 (D : CallD) (m : Nat) (t1 t2 : AV) (t4 t5 : Int) (h : HP) : Res2 :=
 faC 5 t1 fun t18 =>
 cellC t18 h fun t19 =>
 lenC t19 fun vt20 => asI .i64 vt20 fun t20 =>
 let t21 := ltQ (Int.ofNat 1) t20
 br t21 (
 faC 5 t1 fun t22 =>
 cellC t22 h fun t23 =>
 iasC 8 t23 (vI (Int.ofNat 1)) fun t24 =>
 faC 6 t24 fun t25 =>
 ldI t25 h fun t26 =>
 S205_1 D m t1 t2 t4 t26 h) (
 S205_1 D m t1 t2 t4 t5 h)
def e205_15 (k t0 h) := kN k [(p0, t0)] h
def S205_15 (D : CallD) (m : Nat) (t0 : AV) (h : HP) : Res2 :=
 let t1 := AV.ptr (HP.nxQ h) 0
 let h16 := HP.newQ h (.cells true (AV.cells t0))
 let t2 := AV.ptr (HP.nxQ h16) 0
 let h17 := HP.newQ h16 (.cells true [(kI 0), (.str []), (.str []), (.int .u32 (.ofNat 0)), (.int .u64 (.ofNat 0)), .nils, (kI 0), (kI 0)])
 let t9 := (AV.ptr (HP.nxQ h) (Nat.add 0 5))
 cellC t9 h17 fun t10 =>
 lenC t10 fun vt11 => asI .i64 vt11 fun t11 =>
 let t12 := ltQ (Int.ofNat 0) t11
 br t12 (
 let t13 := (AV.ptr (HP.nxQ h) (Nat.add 0 5))
 cellC t13 h17 fun t14 =>
 iasC 8 t14 (vI (Int.ofNat 0)) fun t15 =>
 faC 6 t15 fun t16 =>
 ldI t16 h17 fun t17 =>
 S205_0 D m t1 t2 t17 (Int.ofNat 0) h17) (
 S205_0 D m t1 t2 (Int.ofNat 0) (Int.ofNat 0) h17)
def S205 : SFn := fun D m args h u => nou u <| popV args fun t0 args => endA args (S205_15 D m t0 h)
theorem T205_3 (hE : FX x205 D m E) : S205_3 D m = e205_3 (E c205_3 []) := by unfold S205_3; rw [hE c205_3]; kernel_rfl
theorem T205_6 (hE : FX x205 D m E) : S205_6 D m = e205_6 (E c205_6 [.blk 0, .sj v205_3 c205_3]) := by unfold S205_6; rw [T205_3 hE, hE c205_6]; kernel_rfl
theorem T205_7 (hE : FX x205 D m E) : S205_7 D m = e205_7 (E c205_7 [.sj v205_6 c205_6, .blk 0, .sj v205_3 c205_3]) := by unfold S205_7; rw [T205_6 hE, hE c205_7]; kernel_rfl
theorem T205_5 (hE : FX x205 D m E) : S205_5 D m = e205_5 (E c205_5 [.blk 0, .sj v205_3 c205_3]) := by unfold S205_5; rw [T205_7 hE, T205_6 hE, hE c205_5]; kernel_rfl
theorem T205_10 (hE : FX x205 D m E) : S205_10 D m = e205_10 (E (.opq false l205_10 c205_11) [.sj v205_5 c205_5, .blk 0, .sj v205_3 c205_3]) := by unfold S205_10; rw [T205_5 hE, hE (.opq false l205_10 c205_11)]; kernel_rfl
theorem T205_9 (hE : FX x205 D m E) : S205_9 D m = e205_9 (E (.opq false l205_9 c205_11) [.sj v205_5 c205_5, .blk 0, .sj v205_3 c205_3]) := by unfold S205_9; rw [T205_10 hE, hE (.opq false l205_9 c205_11)]; kernel_rfl
theorem T205_8 (hE : FX x205 D m E) : S205_8 D m = e205_8 (E (.opq false l205_8 c205_11) [.sj v205_5 c205_5, .blk 0, .sj v205_3 c205_3]) := by unfold S205_8; rw [T205_9 hE, hE (.opq false l205_8 c205_11)]; kernel_rfl
theorem T205_12 (hE : FX x205 D m E) : S205_12 D m = e205_12 (E (.opq false l205_12 c205_13) [.blk 0, .sj v205_3 c205_3]) := by unfold S205_12; rw [T205_3 hE, hE (.opq false l205_12 c205_13)]; kernel_rfl
theorem T205_4 (hE : FX x205 D m E) : S205_4 D m = e205_4 (E c205_4 [.blk 0, .sj v205_3 c205_3]) := by unfold S205_4; rw [T205_3 hE, T205_8 hE, T205_9 hE, T205_12 hE, hE c205_4]; kernel_rfl
theorem T205_2 (hE : FX x205 D m E) : S205_2 D m = e205_2 (E (.opq false l205_2 c205_14) []) := by unfold S205_2; rw [T205_4 hE, hE (.opq false l205_2 c205_14)]; kernel_rfl
theorem T205_1 (hE : FX x205 D m E) : S205_1 D m = e205_1 (E c205_1 []) := by unfold S205_1; rw [T205_2 hE, hE c205_1]; kernel_rfl
theorem T205_0 (hE : FX x205 D m E) : S205_0 D m = e205_0 (E c205_0 []) := by unfold S205_0; rw [T205_1 hE, hE c205_0]; kernel_rfl
theorem T205_15 (hE : FX x205 D m E) : S205_15 D m = e205_15 (E c205_e []) := by unfold S205_15; rw [T205_0 hE, hE c205_e]; kernel_rfl
theorem X205 : XTie S205 x205 := X_of fun D m E hE args h u => by unfold S205; rw [T205_15 hE]; kernel_rfl
/- 206 -/
def c206_e : XC := (.sO [.mv p2 (ci 0) tI] (.seq (.seq (.oX [.mv p3 q0 tI, .bn p4 .eql q3 (ci 3) .b, .mv p5 q4 .b, .ge p5 (XL.of [.G p5 false p6 (.mov q0) tI, .G p5 false p7 (.bin .eql q6 (ci 4)) .b, .P p8 (.pick q5 (cb true) q7) .b]) p8 .b]) (.cond q8 (.seq (.oX [.mv p9 q0 tI, .bn p10 .sub q9 (ci 2) tI, .mv p2 q10 tI]) .ret) .skip)) (.sO [.mv p2 (ci 0) tI] (.s .ret))))
def x206 : XFn := ⟨[tI], false, [(.tmp p2)], c206_e⟩
def e206_0 (k t0 h) := kN k [(p0, (vI t0))] h
def S206_0 (D : CallD) (m : Nat) (t0 : Int) (h : HP) : Res2 :=
 let t4 := eqQ t0 (Int.ofNat 3)
 obB (brV t4 (
 some (vB true)) (
 let t7 := eqQ t0 (Int.ofNat 4)
 some (vB t7))) fun t8 =>
 br t8 (
 let t10 := wrQ .i64 (t0 - (Int.ofNat 2))
 some (.ret (vI t10) h, .no)) (
 some (.ret (vI (Int.ofNat 0)) h, .no))
def S206 : SFn := fun D m args h u => nou u <| popI .i64 args fun t0 args => endA args (S206_0 D m t0 h)
theorem T206_0 (hE : FX x206 D m E) : S206_0 D m = e206_0 (E c206_e []) := by unfold S206_0; rw [hE c206_e]; kernel_rfl
theorem X206 : XTie S206 x206 := X_of fun D m E hE args h u => by unfold S206; rw [T206_0 hE]; kernel_rfl
/- 217 -/
def v217_0 : List Pos := [p0, p1, p2, p3]
def c217_0 : XC := (.sO [.mv p37 q0 .v, .cl p38 90 [q37, (ci 1)] tI, .mv p11 q38 tI] (.sO [.al p39 (.mkmap), .o ⟨none, (.e (.mset .str q39 (.c (.str [61, 61])) (.c (.int .u32 (.ofNat 51))))), none, []⟩ .v, .o ⟨none, (.e (.mset .str q39 (.c (.str [33, 61])) (.c (.int .u32 (.ofNat 51))))), none, []⟩ .v, .o ⟨none, (.e (.mset .str q39 (.c (.str [60])) (.c (.int .u32 (.ofNat 52))))), none, []⟩ .v, .o ⟨none, (.e (.mset .str q39 (.c (.str [62])) (.c (.int .u32 (.ofNat 52))))), none, []⟩ .v, .o ⟨none, (.e (.mset .str q39 (.c (.str [60, 61])) (.c (.int .u32 (.ofNat 53))))), none, []⟩ .v, .o ⟨none, (.e (.mset .str q39 (.c (.str [62, 61])) (.c (.int .u32 (.ofNat 53))))), none, []⟩ .v, .mv p40 q39 .v, .mv p41 q1 .s, .L p42 (.look .str (.int .u32 (.ofNat 0)) false q40 q41) tW, .mv p12 q42 tW] (.sO [.mv p43 q0 .v, .mv p44 q11 tI, .mv p45 q2 tI, .mv p46 q3 tI, .mv p47 q12 tW, .P p48 (.build [(kI 0), (kI 0), (kI 0), (kI 0), (.int .u32 (.ofNat 0)), (.int .u64 (.ofNat 0)), (.str []), .nils, (kI 0)] [⟨0, 1, (ci 6)⟩, ⟨1, 1, q44⟩, ⟨2, 1, q45⟩, ⟨3, 1, q46⟩, ⟨4, 1, q47⟩]) .v, .cl p49 140 [q43, q48] .v] (.seq (.seq (.oX [.mv p50 q1 .s, .bn p51 .eql q50 (.c (.str [33, 61])) .b]) (.cond q51 (.seq (.oX [.mv p52 q0 .v, .mv p53 q11 tI, .mv p54 q0 .v, .cl p55 178 [q54, (.c (.int .u32 (.ofNat 1)))] tI, .cl p56 179 [q52, (.c (.int .u32 (.ofNat 6))), q53, q55] tI, .mv p8 q56 tI]) .ret) .skip)) (.sO [.mv p57 q11 tI, .mv p8 q57 tI] (.s .ret))))))
def c217_e : XC := (.sO [.mv p8 (ci 0) tI] (.seq (.seq (.oX [.al p13 (.mkmap), .o ⟨none, (.e (.mset .str q13 (.c (.str [43])) (.c (.int .u32 (.ofNat 45))))), none, []⟩ .v, .o ⟨none, (.e (.mset .str q13 (.c (.str [45])) (.c (.int .u32 (.ofNat 46))))), none, []⟩ .v, .o ⟨none, (.e (.mset .str q13 (.c (.str [42])) (.c (.int .u32 (.ofNat 47))))), none, []⟩ .v, .o ⟨none, (.e (.mset .str q13 (.c (.str [47])) (.c (.int .u32 (.ofNat 48))))), none, []⟩ .v, .mv p14 q13 .v, .mv p15 q1 .s, .L p16 (.look .str (.int .u32 (.ofNat 0)) false q14 q15) tW, .mv p9 q16 tW]) (.seq (.oX [.mv p17 q9 tW, .bn p18 .neq q17 (.c (.int .u32 (.ofNat 0))) .b]) (.cond q18 (.seq (.oX [.mv p19 q0 .v, .cl p20 90 [q19, (ci 2)] tI, .mv p10 q20 tI]) (.seq (.oX [.mv p21 q0 .v, .mv p22 q10 tI, .mv p23 q2 tI, .mv p24 q3 tI, .mv p25 q9 tW, .P p26 (.build [(kI 0), (kI 0), (kI 0), (kI 0), (.int .u32 (.ofNat 0)), (.int .u64 (.ofNat 0)), (.str []), .nils, (kI 0)] [⟨0, 1, (ci 5)⟩, ⟨1, 1, q22⟩, ⟨2, 1, q23⟩, ⟨3, 1, q24⟩, ⟨4, 1, q25⟩]) .v, .cl p27 140 [q21, q26] .v]) (.seq (.oX [.mv p28 q10 tI, .mv p8 q28 tI]) .ret))) .skip))) (.sj v217_0 (.sO [.mv p29 q1 .s, .bn p30 .eql q29 (.c (.str [62])) .b, .mv p31 q30 .b, .ge p31 (XL.of [.G p31 false p32 (.mov q1) .s, .G p31 false p33 (.bin .eql q32 (.c (.str [62, 61]))) .b, .P p34 (.pick q31 (cb true) q33) .b]) p34 .b] (.cond q34 (.s (.oX [.mv p35 q3 tI, .mv p36 q2 tI, .mv p2 q35 tI, .mv p3 q36 tI])) (.s .skip))) c217_0)))
def x217 : XFn := ⟨[.v, .s, tI, tI], false, [(.tmp p8)], c217_e⟩
def e217_0 (k t0 t1 t2 t3 h) := kN k [(p0, t0), (p1, (vS t1)), (p2, (vI t2)), (p3, (vI t3))] h
def S217_0 (D : CallD) (m : Nat) (t0 : AV) (t1 : LN) (t2 t3 : Int) (h : HP) : Res2 :=
 cal D 90 [t0, (vI (Int.ofNat 1))] h fun t38 h9 =>
 asI .i64 t38 fun t38a =>
 let t39 := AV.map (HP.nxQ h9)
 let h10 := HP.newQ h9 (.map [] 0)
 eff (.mset .str (.c t39) (.c (vS ([61, 61] : LN))) (.c (vW (Int.ofNat 51)))) h10 fun t0a h11 =>
 eff (.mset .str (.c t39) (.c (vS ([33, 61] : LN))) (.c (vW (Int.ofNat 51)))) h11 fun t0aa h12 =>
 eff (.mset .str (.c t39) (.c (vS ([60] : LN))) (.c (vW (Int.ofNat 52)))) h12 fun t0aaa h13 =>
 eff (.mset .str (.c t39) (.c (vS ([62] : LN))) (.c (vW (Int.ofNat 52)))) h13 fun t0aaaa h14 =>
 eff (.mset .str (.c t39) (.c (vS ([60, 61] : LN))) (.c (vW (Int.ofNat 53)))) h14 fun t0aaaaa h15 =>
 eff (.mset .str (.c t39) (.c (vS ([62, 61] : LN))) (.c (vW (Int.ofNat 53)))) h15 fun t0aaaaaa h16 =>
 obI .u32 (evL (.look .str (.int .u32 (.ofNat 0)) false (.c t39) (.c (vS t1))) .leaf h16) fun t42 =>
 let t48 := (AV.agg [(vI (Int.ofNat 6)), (vI t38a), (vI t2), (vI t3), (vW t42), (AV.int .u64 (Int.ofNat 0)), (vS ([] : LN)), (.nils : AV), (vI (Int.ofNat 0))])
 cal D 140 [t0, t48] h16 fun t49 h17 =>
 let t51 := eqL t1 ([33, 61] : LN)
 br t51 (
 cal D 178 [t0, (vW (Int.ofNat 1))] h17 fun t55 h18 =>
 asI .i64 t55 fun t55a =>
 cal D 179 [t0, (vW (Int.ofNat 6)), (vI t38a), (vI t55a)] h18 fun t56 h19 =>
 asI .i64 t56 fun t56a =>
 some (.ret (vI t56a) h19, .no)) (
 some (.ret (vI t38a) h17, .no))
def e217_1 (k t0 t1 t2 t3 h) := kN k [(p0, t0), (p1, (vS t1)), (p2, (vI t2)), (p3, (vI t3))] h
def S217_1 (D : CallD) (m : Nat) (t0 : AV) (t1 : LN) (t2 t3 : Int) (h : HP) : Res2 :=
 let t13 := AV.map (HP.nxQ h)
 let h2 := HP.newQ h (.map [] 0)
 eff (.mset .str (.c t13) (.c (vS ([43] : LN))) (.c (vW (Int.ofNat 45)))) h2 fun t0a h3 =>
 eff (.mset .str (.c t13) (.c (vS ([45] : LN))) (.c (vW (Int.ofNat 46)))) h3 fun t0aa h4 =>
 eff (.mset .str (.c t13) (.c (vS ([42] : LN))) (.c (vW (Int.ofNat 47)))) h4 fun t0aaa h5 =>
 eff (.mset .str (.c t13) (.c (vS ([47] : LN))) (.c (vW (Int.ofNat 48)))) h5 fun t0aaaa h6 =>
 obI .u32 (evL (.look .str (.int .u32 (.ofNat 0)) false (.c t13) (.c (vS t1))) .leaf h6) fun t16 =>
 binC .neq (vW t16) (vW (Int.ofNat 0)) fun vt18 => asB vt18 fun t18 =>
 br t18 (
 cal D 90 [t0, (vI (Int.ofNat 2))] h6 fun t20 h7 =>
 asI .i64 t20 fun t20a =>
 let t26 := (AV.agg [(vI (Int.ofNat 5)), (vI t20a), (vI t2), (vI t3), (vW t16), (AV.int .u64 (Int.ofNat 0)), (vS ([] : LN)), (.nils : AV), (vI (Int.ofNat 0))])
 cal D 140 [t0, t26] h7 fun t27 h8 =>
 some (.ret (vI t20a) h8, .no)) (
 let t30 := eqL t1 ([62] : LN)
 obB (brV t30 (
 some (vB true)) (
 let t33 := eqL t1 ([62, 61] : LN)
 some (vB t33))) fun t34 =>
 br t34 (
 S217_0 D m t0 t1 t3 t2 h6) (
 S217_0 D m t0 t1 t2 t3 h6))
def S217 : SFn := fun D m args h u => nou u <| popV args fun t0 args => popS args fun t1 args => popI .i64 args fun t2 args => popI .i64 args fun t3 args => endA args (S217_1 D m t0 t1 t2 t3 h)
theorem T217_0 (hE : FX x217 D m E) : S217_0 D m = e217_0 (E c217_0 []) := by unfold S217_0; rw [hE c217_0]; kernel_rfl
theorem T217_1 (hE : FX x217 D m E) : S217_1 D m = e217_1 (E c217_e []) := by unfold S217_1; rw [T217_0 hE, hE c217_e]; kernel_rfl
theorem X217 : XTie S217 x217 := X_of fun D m E hE args h u => by unfold S217; rw [T217_1 hE]; kernel_rfl
/- 222 -/
def v222_1 : List Pos := [p1, p2, p3, p5]
def c222_1 : XC := (.seq (.ops true (XL.of [.L p109 (.cells 5 q1) .v, .L p110 (.cells 8 q5) .v, .o ⟨none, (.e (.stores 5 q2 q109)), none, [⟨none, .cells 8 q5, p110⟩]⟩ .v, .ss 8 q3 q110])) (.s .ret))
def v222_2 : List Pos := [p1, p2, p3, p5]
def c222_2b : XC := (.seq (.seq (.oX [.L p92 (.cells 5 q1) .v, .cl p93 117 [q92, (.c (.str [91]))] .b]) (.cond q93 .skip (.exit 0))) (.block 1 (.sO [.P p94 (.build [(kI 0), (.str []), (.str []), (.int .u32 (.ofNat 0)), (.int .u64 (.ofNat 0)), .nils, (kI 0), (kI 0)] []) .v, .al p9 (.new [(kI 0), (.str []), (.str []), (.int .u32 (.ofNat 0)), (.int .u64 (.ofNat 0)), .nils, (kI 0), (kI 0)]), .ss 8 q9 q94] (.sO [.L p96 (.cells 5 q1) .v, .cl p97 118 [q96] .v, .cl p98 125 [q97] .v, .mv p95 q98 .v, .P p99 (.ext q95 0) .v, .P p100 (.ext q95 1) .v, .ss 5 q1 q99, .ss 8 q9 q100] (.sO [.L p101 (.cells 8 q5) .v, .L p102 (.cells 8 q9) .v, .al p103 (.bsl [(kI 0), (.str []), (.str []), (.int .u32 (.ofNat 0)), (.int .u64 (.ofNat 0)), .nils, (kI 0), (kI 0), (kI 0), (.str []), (.str []), (.int .u32 (.ofNat 0)), (.int .u64 (.ofNat 0)), .nils, (kI 0), (kI 0)] 2 [⟨0, 8, q101⟩, ⟨8, 8, q102⟩]), .fa p104 7 q5, .ld p105 q104 tI, .P p106 (.build [(kI 0), (.str []), (.str []), (.int .u32 (.ofNat 0)), (.int .u64 (.ofNat 0)), .nils, (kI 0), (kI 0)] [⟨0, 1, (ci 8)⟩, ⟨5, 1, q103⟩, ⟨7, 1, q105⟩]) .v, .ss 8 q5 q106] (.s (.oX [.L p107 (.cells 5 q1) .v, .cl p108 123 [q107, (.c (.str [93]))] .v, .ss 5 q1 q108])))))))
def v222_0 : List Pos := [p1, p2, p3, p4, p5]
def c222_0 : XC := (.seq (.seq (.oX [.L p53 (.cells 5 q1) .v, .cl p54 117 [q53, (.c (.str [40]))] .b, .mv p55 q54 .b, .ge p55 (XL.of [.G p55 true p56 (.faddr 0 q1) .v, .o ⟨(some p57), (.l (.cell q56)), (some (p55, true)), []⟩ .v, .G p55 true p58 (.faddr 1 q1) .v, .o ⟨(some p59), (.l (.cell q58)), (some (p55, true)), []⟩ tI, .G p55 true p60 (.bin .add q59 (ci 1)) tI, .G p55 true p61 (.iaddr (.sl 3) q57 q60) .v, .G p55 true p62 (.faddr 0 q61) .v, .o ⟨(some p63), (.l (.cell q62)), (some (p55, true)), []⟩ tI, .G p55 true p64 (.bin .eql q63 (ci 5)) .b, .P p65 (.pick q55 q64 (cb false)) .b]) p65 .b]) (.cond q65 (.seq (.oX [.P p66 (.build [(kI 0), (.str []), (.str []), (.int .u32 (.ofNat 0)), (.int .u64 (.ofNat 0)), .nils, (kI 0), (kI 0)] []) .v, .al p7 (.new [(kI 0), (.str []), (.str []), (.int .u32 (.ofNat 0)), (.int .u64 (.ofNat 0)), .nils, (kI 0), (kI 0)]), .ss 8 q7 q66]) (.seq (.oX [.mv p8 (ci 0) tI]) (.seq (.oX [.L p68 (.cells 5 q1) .v, .cl p69 118 [q68] .v, .cl p70 119 [q69] .v, .mv p67 q70 .v, .P p71 (.ext q67 0) .v, .P p72 (.ext q67 1) tI, .ss 5 q1 q71, .mv p8 q72 tI]) (.seq (.oX [.L p74 (.cells 5 q1) .v, .cl p75 123 [q74, (.c (.str [41]))] .v, .cl p76 202 [q75] .v, .mv p73 q76 .v, .P p77 (.ext q73 0) .v, .P p78 (.ext q73 1) .v, .ss 5 q1 q77, .ss 8 q7 q78]) (.seq (.ops true (XL.of [.L p79 (.cells 5 q1) .v, .mv p80 q8 tI, .P p81 (.conv (.ii .u32) q80) tW, .L p82 (.cells 8 q7) .v, .al p83 (.bsl [(kI 0), (.str []), (.str []), (.int .u32 (.ofNat 0)), (.int .u64 (.ofNat 0)), .nils, (kI 0), (kI 0)] 1 [⟨0, 8, q82⟩]), .fa p84 2 q4, .ld p85 q84 tI, .P p86 (.build [(kI 0), (.str []), (.str []), (.int .u32 (.ofNat 0)), (.int .u64 (.ofNat 0)), .nils, (kI 0), (kI 0)] [⟨0, 1, (ci 9)⟩, ⟨3, 1, q81⟩, ⟨5, 1, q83⟩, ⟨7, 1, q85⟩]) .v, .o ⟨none, (.e (.stores 5 q2 q79)), none, [⟨none, .cells 8 q7, p82⟩, ⟨none, .cell q84, p85⟩]⟩ .v, .ss 8 q3 q86])) .ret))))) .skip)) (.sO [.L p88 (.cells 5 q1) .v, .cl p89 236 [q88] .v, .mv p87 q89 .v, .P p90 (.ext q87 0) .v, .P p91 (.ext q87 1) .v, .ss 5 q1 q90, .ss 8 q5 q91] (.sj v222_1 (.block 0 (.loop v222_2 c222_2b)) c222_1)))
def c222_7 : XC := (.cond q37 (.sO [.P p38 (.build [(kI 0), (.str []), (.str []), (.int .u32 (.ofNat 0)), (.int .u64 (.ofNat 0)), .nils, (kI 0), (kI 0)] []) .v, .al p6 (.new [(kI 0), (.str []), (.str []), (.int .u32 (.ofNat 0)), (.int .u64 (.ofNat 0)), .nils, (kI 0), (kI 0)]), .ss 8 q6 q38] (.sO [.L p40 (.cells 5 q1) .v, .cl p41 118 [q40] .v, .cl p42 202 [q41] .v, .mv p39 q42 .v, .P p43 (.ext q39 0) .v, .P p44 (.ext q39 1) .v, .ss 5 q1 q43, .ss 8 q6 q44] (.seq (.ops true (XL.of [.L p45 (.cells 5 q1) .v, .fa p46 1 q4, .ld p47 q46 .s, .L p48 (.cells 8 q6) .v, .al p49 (.bsl [(kI 0), (.str []), (.str []), (.int .u32 (.ofNat 0)), (.int .u64 (.ofNat 0)), .nils, (kI 0), (kI 0)] 1 [⟨0, 8, q48⟩]), .fa p50 2 q4, .ld p51 q50 tI, .P p52 (.build [(kI 0), (.str []), (.str []), (.int .u32 (.ofNat 0)), (.int .u64 (.ofNat 0)), .nils, (kI 0), (kI 0)] [⟨0, 1, (ci 4)⟩, ⟨1, 1, q47⟩, ⟨5, 1, q49⟩, ⟨7, 1, q51⟩]) .v, .o ⟨none, (.e (.stores 5 q2 q45)), none, [⟨none, .cell q46, p47⟩, ⟨none, .cells 8 q6, p48⟩, ⟨none, .cell q50, p51⟩]⟩ .v, .ss 8 q3 q52])) (.s .ret)))) (.s .skip))
def l222_6 : XL := (XL.of [])
def l222_5 : XL := (XL.pre [.mv p34 q33 .b, .sp p34, .o ⟨(some p35), (.l (.cells 5 q1)), (some (p34, false)), []⟩ .v, .o ⟨(some p36), (.call (.fn 117) [q35, (.c (.str [38]))]), (some (p34, false)), []⟩ .b, .P p37 (.pick q34 (cb true) q36) .b, .jn p34 [p1, p2, p3, p4, p5, p37]] l222_6)
def l222_4 : XL := (XL.pre [.mv p30 q29 .b, .sp p30, .o ⟨(some p31), (.l (.cells 5 q1)), (some (p30, false)), []⟩ .v, .o ⟨(some p32), (.call (.fn 117) [q31, (.c (.str [42]))]), (some (p30, false)), []⟩ .b, .P p33 (.pick q30 (cb true) q32) .b, .jn p30 [p1, p2, p3, p4, p5, p33]] l222_5)
def l222_3 : XL := (XL.pre [.mv p26 q25 .b, .sp p26, .o ⟨(some p27), (.l (.cells 5 q1)), (some (p26, false)), []⟩ .v, .o ⟨(some p28), (.call (.fn 117) [q27, (.c (.str [126]))]), (some (p26, false)), []⟩ .b, .P p29 (.pick q26 (cb true) q28) .b, .jn p26 [p1, p2, p3, p4, p5, p29]] l222_4)
def c222_e : XC := (.sO [.al p1 (.box q0), .al p2 (.new [.nils, (kI 0), (kI 0), (kI 0), (kI 0)]), .al p3 (.new [(kI 0), (.str []), (.str []), (.int .u32 (.ofNat 0)), (.int .u64 (.ofNat 0)), .nils, (kI 0), (kI 0)])] (.sO [.L p10 (.cells 5 q1) .v, .cl p11 82 [q10] .v, .al p4 (.new [(kI 0), (.str []), (kI 0)]), .ss 3 q4 q11] (.sO [.fa p12 2 q4, .ld p13 q12 tI, .P p14 (.build [(kI 0), (.str []), (.str []), (.int .u32 (.ofNat 0)), (.int .u64 (.ofNat 0)), .nils, (kI 0), (kI 0)] [⟨7, 1, q13⟩]) .v, .al p5 (.new [(kI 0), (.str []), (.str []), (.int .u32 (.ofNat 0)), (.int .u64 (.ofNat 0)), .nils, (kI 0), (kI 0)]), .ss 8 q5 q14] (.seq (.seq (.oX [.fa p15 3 q1, .ld p16 q15 tI, .bn p17 .neq q16 (ci 0) .b]) (.cond q17 (.seq (.ops true (XL.of [.L p18 (.cells 5 q1) .v, .L p19 (.cells 8 q5) .v, .o ⟨none, (.e (.stores 5 q2 q18)), none, [⟨none, .cells 8 q5, p19⟩]⟩ .v, .ss 8 q3 q19])) .ret) .skip)) (.sj v222_0 (.opq false (XL.pre [.L p20 (.cells 5 q1) .v, .cl p21 117 [q20, (.c (.str [45]))] .b, .mv p22 q21 .b, .sp p22, .o ⟨(some p23), (.l (.cells 5 q1)), (some (p22, false)), []⟩ .v, .o ⟨(some p24), (.call (.fn 117) [q23, (.c (.str [33]))]), (some (p22, false)), []⟩ .b, .P p25 (.pick q22 (cb true) q24) .b, .jn p22 [p1, p2, p3, p4, p5, p25]] l222_3) c222_7) c222_0)))))
def x222 : XFn := ⟨[.v], false, [(.cells 5 p2), (.cells 8 p3)], c222_e⟩
def e222_1 (k t1 t2 t3 t5 h) := kN k [(p1, t1), (p2, t2), (p3, t3), (p5, t5)] h
def S222_1 (D : CallD) (m : Nat) (t1 t2 t3 t5 : AV) (h : HP) : Res2 :=
 cellsC 5 t1 h fun t109 =>
 cellsC 8 t5 h fun t110 =>
 stsC 5 t2 t109 h fun h36 =>
 br (againE (.stores 5 q2 q109) [⟨none, .cells 8 q5, p110⟩] (mkT [(p2, t2), (p110, t110), (p5, t5)]) h36) (
 stsC 8 t3 t110 h36 fun h37 =>
 cellsC 5 t2 h37 fun t2a =>
 cellsC 8 t3 h37 fun t3a =>
 some (.ret (.tup [t2a, t3a]) h37, .no)) none
def e222_2 (k t1 t2 t3 t5 h) := kN k [(p1, t1), (p2, t2), (p3, t3), (p5, t5)] h
def S222_2b (D : CallD) (m : Nat) (g2 : AV → AV → AV → AV → HP → Res2) (t1 t2 t3 t5 : AV) (h : HP) : Res2 :=
 cellsC 5 t1 h fun t92 =>
 cal D 117 [t92, (vS ([91] : LN))] h fun t93 h38 =>
 asB t93 fun t93a =>
 br t93a (
 let t94 := (AV.agg [(vI (Int.ofNat 0)), (vS ([] : LN)), (vS ([] : LN)), (vW (Int.ofNat 0)), (AV.int .u64 (Int.ofNat 0)), (.nils : AV), (vI (Int.ofNat 0)), (vI (Int.ofNat 0))])
 let t9 := AV.ptr (HP.nxQ h38) 0
 let h39 := HP.newQ h38 (.cells true [(kI 0), (.str []), (.str []), (.int .u32 (.ofNat 0)), (.int .u64 (.ofNat 0)), .nils, (kI 0), (kI 0)])
 stsC 8 t9 t94 h39 fun h40 =>
 cellsC 5 t1 h40 fun t96 =>
 cal D 118 [t96] h40 fun t97 h41 =>
 cal D 125 [t97] h41 fun t98 h42 =>
 extC t98 0 fun t99 =>
 extC t98 1 fun t100 =>
 stsC 5 t1 t99 h42 fun h43 =>
 stsC 8 t9 t100 h43 fun h44 =>
 cellsC 8 t5 h44 fun t101 =>
 cellsC 8 t9 h44 fun t102 =>
 obQ (evA (.bsl [(kI 0), (.str []), (.str []), (.int .u32 (.ofNat 0)), (.int .u64 (.ofNat 0)), .nils, (kI 0), (kI 0), (kI 0), (.str []), (.str []), (.int .u32 (.ofNat 0)), (.int .u64 (.ofNat 0)), .nils, (kI 0), (kI 0)] 2 [⟨0, 8, (.c t101)⟩, ⟨8, 8, (.c t102)⟩]) .leaf) fun r45 =>
 let t103 := vkV r45.2 (HP.nxQ h44)
 let h46 := HP.newQ h44 r45.1
 faC 7 t5 fun t104 =>
 ldI t104 h46 fun t105 =>
 obQ (evP (.build [(kI 0), (.str []), (.str []), (.int .u32 (.ofNat 0)), (.int .u64 (.ofNat 0)), .nils, (kI 0), (kI 0)] [⟨0, 1, (.c (vI (Int.ofNat 8)))⟩, ⟨5, 1, (.c t103)⟩, ⟨7, 1, (.c (vI t105))⟩]) .leaf) fun t106 =>
 stsC 8 t5 t106 h46 fun h47 =>
 cellsC 5 t1 h47 fun t107 =>
 cal D 123 [t107, (vS ([93] : LN))] h47 fun t108 h48 =>
 stsC 5 t1 t108 h48 fun h49 =>
 g2 t1 t2 t3 t5 h49) (
 S222_1 D m t1 t2 t3 t5 h38)
def S222_2 (D : CallD) (m : Nat) : AV → AV → AV → AV → HP → Res2 := nrec (fun _ _ _ _ _ => none) (fun _ g => S222_2b D m g) m
def e222_0 (k t1 t2 t3 t4 t5 h) := kN k [(p1, t1), (p2, t2), (p3, t3), (p4, t4), (p5, t5)] h
def S222_0 (D : CallD) (m : Nat) (t1 t2 t3 t4 t5 : AV) (h : HP) : Res2 :=
 cellsC 5 t1 h fun t53 =>
 cal D 117 [t53, (vS ([40] : LN))] h fun t54 h19 =>
 asB t54 fun t54a =>
 obB (brV t54a (
 faCV 0 t1 fun t56 =>
 cellCV t56 h19 fun t57 =>
 faCV 1 t1 fun t58 =>
 ldIV t58 h19 fun t59 =>
 let t60 := wrQ .i64 (addQ t59 (Int.ofNat 1))
 iasCV 3 t57 (vI t60) fun t61 =>
 faCV 0 t61 fun t62 =>
 ldIV t62 h19 fun t63 =>
 let t64 := eqQ t63 (Int.ofNat 5)
 some (vB t64)) (
 some (vB false))) fun t65 =>
 br t65 (
 let t66 := (AV.agg [(vI (Int.ofNat 0)), (vS ([] : LN)), (vS ([] : LN)), (vW (Int.ofNat 0)), (AV.int .u64 (Int.ofNat 0)), (.nils : AV), (vI (Int.ofNat 0)), (vI (Int.ofNat 0))])
 let t7 := AV.ptr (HP.nxQ h19) 0
 let h20 := HP.newQ h19 (.cells true [(kI 0), (.str []), (.str []), (.int .u32 (.ofNat 0)), (.int .u64 (.ofNat 0)), .nils, (kI 0), (kI 0)])
 stsC 8 t7 t66 h20 fun h21 =>
 cellsC 5 t1 h21 fun t68 =>
 cal D 118 [t68] h21 fun t69 h22 =>
 cal D 119 [t69] h22 fun t70 h23 =>
 extC t70 0 fun t71 =>
 extC t70 1 fun vt72 => asI .i64 vt72 fun t72 =>
 stsC 5 t1 t71 h23 fun h24 =>
 cellsC 5 t1 h24 fun t74 =>
 cal D 123 [t74, (vS ([41] : LN))] h24 fun t75 h25 =>
 cal D 202 [t75] h25 fun t76 h26 =>
 extC t76 0 fun t77 =>
 extC t76 1 fun t78 =>
 stsC 5 t1 t77 h26 fun h27 =>
 stsC 8 t7 t78 h27 fun h28 =>
 cellsC 5 t1 h28 fun t79 =>
 let t81 := wrapF .u32 t72
 cellsC 8 t7 h28 fun t82 =>
 obQ (evA (.bsl [(kI 0), (.str []), (.str []), (.int .u32 (.ofNat 0)), (.int .u64 (.ofNat 0)), .nils, (kI 0), (kI 0)] 1 [⟨0, 8, (.c t82)⟩]) .leaf) fun r29 =>
 let t83 := vkV r29.2 (HP.nxQ h28)
 let h30 := HP.newQ h28 r29.1
 faC 2 t4 fun t84 =>
 ldI t84 h30 fun t85 =>
 obQ (evP (.build [(kI 0), (.str []), (.str []), (.int .u32 (.ofNat 0)), (.int .u64 (.ofNat 0)), .nils, (kI 0), (kI 0)] [⟨0, 1, (.c (vI (Int.ofNat 9)))⟩, ⟨3, 1, (.c (vW t81))⟩, ⟨5, 1, (.c t83)⟩, ⟨7, 1, (.c (vI t85))⟩]) .leaf) fun t86 =>
 stsC 5 t2 t79 h30 fun h31 =>
 br (againE (.stores 5 q2 q79) [⟨none, .cells 8 q7, p82⟩, ⟨none, .cell q84, p85⟩] (mkT [(p2, t2), (p85, (vI t85)), (p84, t84), (p82, t82), (p7, t7)]) h31) (
 stsC 8 t3 t86 h31 fun h32 =>
 cellsC 5 t2 h32 fun t2a =>
 cellsC 8 t3 h32 fun t3a =>
 some (.ret (.tup [t2a, t3a]) h32, .no)) none) (
 cellsC 5 t1 h19 fun t88 =>
 cal D 236 [t88] h19 fun t89 h33 =>
 extC t89 0 fun t90 =>
 extC t89 1 fun t91 =>
 stsC 5 t1 t90 h33 fun h34 =>
 stsC 8 t5 t91 h34 fun h35 =>
 S222_2 D m t1 t2 t3 t5 h35)
def e222_6 (k t1 t2 t3 t4 t5 t37 h) := kN k [(p1, t1), (p2, t2), (p3, t3), (p4, t4), (p5, t5), (p37, (vB t37))] h
def S222_6 (D : CallD) (m : Nat) (t1 t2 t3 t4 t5 : AV) (t37 : Bool) (h : HP) : Res2 :=
 br t37 (
 let t38 := (AV.agg [(vI (Int.ofNat 0)), (vS ([] : LN)), (vS ([] : LN)), (vW (Int.ofNat 0)), (AV.int .u64 (Int.ofNat 0)), (.nils : AV), (vI (Int.ofNat 0)), (vI (Int.ofNat 0))])
 let t6 := AV.ptr (HP.nxQ h) 0
 let h51 := HP.newQ h (.cells true [(kI 0), (.str []), (.str []), (.int .u32 (.ofNat 0)), (.int .u64 (.ofNat 0)), .nils, (kI 0), (kI 0)])
 stsC 8 t6 t38 h51 fun h52 =>
 cellsC 5 t1 h52 fun t40 =>
 cal D 118 [t40] h52 fun t41 h53 =>
 cal D 202 [t41] h53 fun t42 h54 =>
 extC t42 0 fun t43 =>
 extC t42 1 fun t44 =>
 stsC 5 t1 t43 h54 fun h55 =>
 stsC 8 t6 t44 h55 fun h56 =>
 cellsC 5 t1 h56 fun t45 =>
 faC 1 t4 fun t46 =>
 ldS t46 h56 fun t47 =>
 cellsC 8 t6 h56 fun t48 =>
 obQ (evA (.bsl [(kI 0), (.str []), (.str []), (.int .u32 (.ofNat 0)), (.int .u64 (.ofNat 0)), .nils, (kI 0), (kI 0)] 1 [⟨0, 8, (.c t48)⟩]) .leaf) fun r57 =>
 let t49 := vkV r57.2 (HP.nxQ h56)
 let h58 := HP.newQ h56 r57.1
 faC 2 t4 fun t50 =>
 ldI t50 h58 fun t51 =>
 obQ (evP (.build [(kI 0), (.str []), (.str []), (.int .u32 (.ofNat 0)), (.int .u64 (.ofNat 0)), .nils, (kI 0), (kI 0)] [⟨0, 1, (.c (vI (Int.ofNat 4)))⟩, ⟨1, 1, (.c (vS t47))⟩, ⟨5, 1, (.c t49)⟩, ⟨7, 1, (.c (vI t51))⟩]) .leaf) fun t52 =>
 stsC 5 t2 t45 h58 fun h59 =>
 br (againE (.stores 5 q2 q45) [⟨none, .cell q46, p47⟩, ⟨none, .cells 8 q6, p48⟩, ⟨none, .cell q50, p51⟩] (mkT [(p2, t2), (p51, (vI t51)), (p50, t50), (p48, t48), (p6, t6), (p47, (vS t47)), (p46, t46)]) h59) (
 stsC 8 t3 t52 h59 fun h60 =>
 cellsC 5 t2 h60 fun t2a =>
 cellsC 8 t3 h60 fun t3a =>
 some (.ret (.tup [t2a, t3a]) h60, .no)) none) (
 S222_0 D m t1 t2 t3 t4 t5 h)
def e222_5 (k t1 t2 t3 t4 t5 t33 h) := kN k [(p1, t1), (p2, t2), (p3, t3), (p4, t4), (p5, t5), (p33, (vB t33))] h
def S222_5 (D : CallD) (m : Nat) (t1 t2 t3 t4 t5 : AV) (t33 : Bool) (h : HP) : Res2 :=
 br t33 (
 S222_6 D m t1 t2 t3 t4 t5 true h) (
 cellsC 5 t1 h fun t35 =>
 cal D 117 [t35, (vS ([38] : LN))] h fun t36 h61 =>
 asB t36 fun t36a =>
 S222_6 D m t1 t2 t3 t4 t5 t36a h61)
def e222_4 (k t1 t2 t3 t4 t5 t29 h) := kN k [(p1, t1), (p2, t2), (p3, t3), (p4, t4), (p5, t5), (p29, (vB t29))] h
def S222_4 (D : CallD) (m : Nat) (t1 t2 t3 t4 t5 : AV) (t29 : Bool) (h : HP) : Res2 :=
 br t29 (
 S222_5 D m t1 t2 t3 t4 t5 true h) (
 cellsC 5 t1 h fun t31 =>
 cal D 117 [t31, (vS ([42] : LN))] h fun t32 h62 =>
 asB t32 fun t32a =>
 S222_5 D m t1 t2 t3 t4 t5 t32a h62)
def e222_3 (k t1 t2 t3 t4 t5 t25 h) := kN k [(p1, t1), (p2, t2), (p3, t3), (p4, t4), (p5, t5), (p25, (vB t25))] h
def S222_3 (D : CallD) (m : Nat) (t1 t2 t3 t4 t5 : AV) (t25 : Bool) (h : HP) : Res2 :=
 br t25 (
 S222_4 D m t1 t2 t3 t4 t5 true h) (
 cellsC 5 t1 h fun t27 =>
 cal D 117 [t27, (vS ([126] : LN))] h fun t28 h63 =>
 asB t28 fun t28a =>
 S222_4 D m t1 t2 t3 t4 t5 t28a h63)
def e222_8 (k t0 h) := kN k [(p0, t0)] h
def S222_8 (D : CallD) (m : Nat) (t0 : AV) (h : HP) : Res2 :=
 let t1 := AV.ptr (HP.nxQ h) 0
 let h9 := HP.newQ h (.cells true (AV.cells t0))
 let t2 := AV.ptr (HP.nxQ h9) 0
 let h10 := HP.newQ h9 (.cells true [.nils, (kI 0), (kI 0), (kI 0), (kI 0)])
 let t3 := AV.ptr (HP.nxQ h10) 0
 let h11 := HP.newQ h10 (.cells true [(kI 0), (.str []), (.str []), (.int .u32 (.ofNat 0)), (.int .u64 (.ofNat 0)), .nils, (kI 0), (kI 0)])
 cellsC 5 t1 h11 fun t10 =>
 cal D 82 [t10] h11 fun t11 h12 =>
 let t4 := AV.ptr (HP.nxQ h12) 0
 let h13 := HP.newQ h12 (.cells true [(kI 0), (.str []), (kI 0)])
 stsC 3 t4 t11 h13 fun h14 =>
 let t12 := (AV.ptr (HP.nxQ h12) (Nat.add 0 2))
 ldI t12 h14 fun t13 =>
 let t14 := (AV.agg [(vI (Int.ofNat 0)), (vS ([] : LN)), (vS ([] : LN)), (vW (Int.ofNat 0)), (AV.int .u64 (Int.ofNat 0)), (.nils : AV), (vI (Int.ofNat 0)), (vI t13)])
 let t5 := AV.ptr (HP.nxQ h14) 0
 let h15 := HP.newQ h14 (.cells true [(kI 0), (.str []), (.str []), (.int .u32 (.ofNat 0)), (.int .u64 (.ofNat 0)), .nils, (kI 0), (kI 0)])
 stsC 8 t5 t14 h15 fun h16 =>
 let t15 := (AV.ptr (HP.nxQ h) (Nat.add 0 3))
 ldI t15 h16 fun t16 =>
 let t17 := notQ (eqQ t16 (Int.ofNat 0))
 br t17 (
 cellsC 5 t1 h16 fun t18 =>
 cellsC 8 t5 h16 fun t19 =>
 stsC 5 t2 t18 h16 fun h17 =>
 br (againE (.stores 5 q2 q18) [⟨none, .cells 8 q5, p19⟩] (mkT [(p2, t2), (p19, t19), (p5, t5)]) h17) (
 stsC 8 t3 t19 h17 fun h18 =>
 cellsC 5 t2 h18 fun t2a =>
 cellsC 8 t3 h18 fun t3a =>
 some (.ret (.tup [t2a, t3a]) h18, .no)) none) (
 cellsC 5 t1 h16 fun t20 =>
 cal D 117 [t20, (vS ([45] : LN))] h16 fun t21 h50 =>
 asB t21 fun t21a =>
 br t21a (
 S222_3 D m t1 t2 t3 t4 t5 true h50) (
 cellsC 5 t1 h50 fun t23 =>
 cal D 117 [t23, (vS ([33] : LN))] h50 fun t24 h64 =>
 asB t24 fun t24a =>
 S222_3 D m t1 t2 t3 t4 t5 t24a h64))
def S222 : SFn := fun D m args h u => nou u <| popV args fun t0 args => endA args (S222_8 D m t0 h)
theorem T222_1 (hE : FX x222 D m E) : S222_1 D m = e222_1 (E c222_1 []) := by unfold S222_1; rw [hE c222_1]; kernel_rfl
theorem T222_2b (hE : FX x222 D m E) (G2) : S222_2b D m (e222_2 G2) = e222_2 (E c222_2b [.lp v222_2 G2, .blk 0, .sj v222_1 c222_1]) := by unfold S222_2b; rw [T222_1 hE, hE c222_2b]; kernel_rfl
theorem T222_2 (hE : FX x222 D m E) : S222_2 D m = e222_2 (nrec (fun _ => none) (fun _ G2 st => E c222_2b [.lp v222_2 G2, .blk 0, .sj v222_1 c222_1] st) m) :=
  nrec_emb e222_2 (fun _ _ _ _ _ => none) (fun g => S222_2b D m g) (fun G2 st => E c222_2b [.lp v222_2 G2, .blk 0, .sj v222_1 c222_1] st) rfl (fun g => T222_2b hE g) m
theorem T222_0 (hE : FX x222 D m E) : S222_0 D m = e222_0 (E c222_0 []) := by unfold S222_0; rw [T222_2 hE, hE c222_0]; kernel_rfl
theorem T222_6 (hE : FX x222 D m E) : S222_6 D m = e222_6 (E (.opq false l222_6 c222_7) [.sj v222_0 c222_0]) := by unfold S222_6; rw [T222_0 hE, hE (.opq false l222_6 c222_7)]; kernel_rfl
theorem T222_5 (hE : FX x222 D m E) : S222_5 D m = e222_5 (E (.opq false l222_5 c222_7) [.sj v222_0 c222_0]) := by unfold S222_5; rw [T222_6 hE, hE (.opq false l222_5 c222_7)]; kernel_rfl
theorem T222_4 (hE : FX x222 D m E) : S222_4 D m = e222_4 (E (.opq false l222_4 c222_7) [.sj v222_0 c222_0]) := by unfold S222_4; rw [T222_5 hE, hE (.opq false l222_4 c222_7)]; kernel_rfl
theorem T222_3 (hE : FX x222 D m E) : S222_3 D m = e222_3 (E (.opq false l222_3 c222_7) [.sj v222_0 c222_0]) := by unfold S222_3; rw [T222_4 hE, hE (.opq false l222_3 c222_7)]; kernel_rfl
theorem T222_8 (hE : FX x222 D m E) : S222_8 D m = e222_8 (E c222_e []) := by unfold S222_8; rw [T222_3 hE, hE c222_e]; kernel_rfl
theorem X222 : XTie S222 x222 := X_of fun D m E hE args h u => by unfold S222; rw [T222_8 hE]; kernel_rfl
/- 224 -/
def v224_0 : List Pos := []
def c224_0 : XC := (.sO [.mv p4 (cb false) .b] (.s .ret))
def v224_1 : List Pos := [p0, p1, p7, p8]
def c224_1b : XC := (.sO [.bn p9 .lss q8 q7 .b] (.seq (.cond q9 .skip (.exit 0)) (.seq (.block 1 (.seq (.oX [.mv p10 q8 tI, .mv p5 q10 tI]) (.seq (.oX [.mv p11 q0 .v, .mv p12 q5 tI, .P p13 (.iaddr (.sl 1) q11 q12) .v, .ld p14 q13 .s, .mv p15 q1 .s, .bn p16 .eql q14 q15 .b]) (.cond q16 (.seq (.oX [.mv p4 (cb true) .b]) .ret) .skip)))) (.s (.oX [.bn p17 .add q8 (ci 1) tI, .mv p8 q17 tI])))))
def c224_e : XC := (.sO [.mv p4 (cb false) .b] (.sj v224_0 (.sO [.mv p6 q0 .v, .P p7 (.lenl q6) tI, .mv p8 (ci 0) tI] (.block 0 (.loop v224_1 c224_1b))) c224_0))
def x224 : XFn := ⟨[.v, .s], false, [(.tmp p4)], c224_e⟩
def e224_0 (k h) := kN k [] h
def S224_0 (D : CallD) (m : Nat) (h : HP) : Res2 :=
 some (.ret (vB false) h, .no)
def e224_1 (k t0 t1 t7 t8 h) := kN k [(p0, t0), (p1, (vS t1)), (p7, (vI t7)), (p8, (vI t8))] h
def S224_1b (D : CallD) (m : Nat) (g1 : AV → LN → Int → Int → HP → Res2) (t0 : AV) (t1 : LN) (t7 t8 : Int) (h : HP) : Res2 :=
 let t9 := ltQ t8 t7
 br t9 (
 iasC 1 t0 (vI t8) fun t13 =>
 ldS t13 h fun t14 =>
 let t16 := eqL t14 t1
 br t16 (
 some (.ret (vB true) h, .no)) (
 let t17 := wrQ .i64 (addQ t8 (Int.ofNat 1))
 g1 t0 t1 t7 t17 h)) (
 S224_0 D m h)
def S224_1 (D : CallD) (m : Nat) : AV → LN → Int → Int → HP → Res2 := nrec (fun _ _ _ _ _ => none) (fun _ g => S224_1b D m g) m
def e224_2 (k t0 t1 h) := kN k [(p0, t0), (p1, (vS t1))] h
def S224_2 (D : CallD) (m : Nat) (t0 : AV) (t1 : LN) (h : HP) : Res2 :=
 lenC t0 fun vt7 => asI .i64 vt7 fun t7 =>
 S224_1 D m t0 t1 t7 (Int.ofNat 0) h
def S224 : SFn := fun D m args h u => nou u <| popV args fun t0 args => popS args fun t1 args => endA args (S224_2 D m t0 t1 h)
theorem T224_0 (hE : FX x224 D m E) : S224_0 D m = e224_0 (E c224_0 []) := by unfold S224_0; rw [hE c224_0]; kernel_rfl
theorem T224_1b (hE : FX x224 D m E) (G1) : S224_1b D m (e224_1 G1) = e224_1 (E c224_1b [.lp v224_1 G1, .blk 0, .sj v224_0 c224_0]) := by unfold S224_1b; rw [T224_0 hE, hE c224_1b]; kernel_rfl
theorem T224_1 (hE : FX x224 D m E) : S224_1 D m = e224_1 (nrec (fun _ => none) (fun _ G1 st => E c224_1b [.lp v224_1 G1, .blk 0, .sj v224_0 c224_0] st) m) :=
  nrec_emb e224_1 (fun _ _ _ _ _ => none) (fun g => S224_1b D m g) (fun G1 st => E c224_1b [.lp v224_1 G1, .blk 0, .sj v224_0 c224_0] st) rfl (fun g => T224_1b hE g) m
theorem T224_2 (hE : FX x224 D m E) : S224_2 D m = e224_2 (E c224_e []) := by unfold S224_2; rw [T224_1 hE, hE c224_e]; kernel_rfl
theorem X224 : XTie S224 x224 := X_of fun D m E hE args h u => by unfold S224; rw [T224_2 hE]; kernel_rfl
/- 236 -/
def c236_e : XC := (.sO [.al p1 (.box q0), .al p2 (.new [.nils, (kI 0), (kI 0), (kI 0), (kI 0)]), .al p3 (.new [(kI 0), (.str []), (.str []), (.int .u32 (.ofNat 0)), (.int .u64 (.ofNat 0)), .nils, (kI 0), (kI 0)])] (.sO [.L p9 (.cells 5 q1) .v, .cl p10 82 [q9] .v, .al p4 (.new [(kI 0), (.str []), (kI 0)]), .ss 3 q4 q10] (.seq (.seq (.oX [.fa p11 0 q4, .ld p12 q11 tI]) (.block 0 (.seq (.oX [.bn p14 .eql q12 (ci 2) .b, .mv p13 q14 .b]) (.cond q13 (.seq (.ops true (XL.of [.L p15 (.cells 5 q1) .v, .fa p17 1 q4, .ld p18 q17 .s, .fa p21 2 q4, .ld p22 q21 tI, .o ⟨(some p16), (.call (.fn 118) [q15]), none, [⟨none, .cell q17, p18⟩, ⟨none, .cell q21, p22⟩]⟩ .v, .o ⟨(some p19), (.call (.fn 163) [q18]), none, [⟨none, .cell q21, p22⟩]⟩ tI, .P p20 (.conv (.ii .u32) q19) tW, .P p23 (.build [(kI 0), (.str []), (.str []), (.int .u32 (.ofNat 0)), (.int .u64 (.ofNat 0)), .nils, (kI 0), (kI 0)] [⟨0, 1, (ci 1)⟩, ⟨3, 1, q20⟩, ⟨7, 1, q22⟩]) .v, .o ⟨none, (.e (.stores 5 q2 q16)), none, [⟨none, .cell q21, p22⟩]⟩ .v, .ss 8 q3 q23])) .ret) (.seq (.oX [.bn p25 .eql q12 (ci 3) .b, .mv p24 q25 .b]) (.cond q24 (.seq (.oX [.fa p27 1 q4, .ld p28 q27 .s, .cl p29 243 [q28] .v, .mv p26 q29 .v, .P p30 (.ext q26 0) (.i .u64), .P p31 (.ext q26 1) .b, .mv p5 q30 (.i .u64), .mv p6 q31 .b]) (.seq (.ops true (XL.of [.L p32 (.cells 5 q1) .v, .mv p34 q5 (.i .u64), .fa p35 2 q4, .ld p36 q35 tI, .P p37 (.build [(kI 0), (.str []), (.str []), (.int .u32 (.ofNat 0)), (.int .u64 (.ofNat 0)), .nils, (kI 0), (kI 0)] [⟨0, 1, (ci 2)⟩, ⟨4, 1, q34⟩, ⟨7, 1, q36⟩]) .v, .o ⟨(some p33), (.call (.fn 118) [q32]), none, [⟨none, .cell q35, p36⟩]⟩ .v, .o ⟨none, (.e (.stores 5 q2 q33)), none, [⟨none, .cell q35, p36⟩]⟩ .v, .ss 8 q3 q37])) .ret)) (.seq (.oX [.bn p39 .eql q12 (ci 1) .b, .mv p38 q39 .b]) (.cond q38 (.seq (.oX [.L p40 (.cells 5 q1) .v, .cl p41 118 [q40] .v, .ss 5 q1 q41]) (.seq (.seq (.oX [.L p42 (.cells 5 q1) .v, .cl p43 117 [q42, (.c (.str [40]))] .b, .P p44 (.un .not q43) .b]) (.cond q44 (.seq (.ops true (XL.of [.L p45 (.cells 5 q1) .v, .fa p46 1 q4, .ld p47 q46 .s, .fa p48 2 q4, .ld p49 q48 tI, .P p50 (.build [(kI 0), (.str []), (.str []), (.int .u32 (.ofNat 0)), (.int .u64 (.ofNat 0)), .nils, (kI 0), (kI 0)] [⟨0, 1, (ci 3)⟩, ⟨2, 1, q47⟩, ⟨7, 1, q49⟩]) .v, .o ⟨none, (.e (.stores 5 q2 q45)), none, [⟨none, .cell q46, p47⟩, ⟨none, .cell q48, p49⟩]⟩ .v, .ss 8 q3 q50])) .ret) .skip)) (.seq (.oX [.fa p51 1 q4, .ld p52 q51 .s, .fa p53 2 q4, .ld p54 q53 tI, .P p55 (.build [(kI 0), (.str []), (.str []), (.int .u32 (.ofNat 0)), (.int .u64 (.ofNat 0)), .nils, (kI 0), (kI 0)] [⟨0, 1, (ci 7)⟩, ⟨2, 1, q52⟩, ⟨7, 1, q54⟩]) .v, .al p7 (.new [(kI 0), (.str []), (.str []), (.int .u32 (.ofNat 0)), (.int .u64 (.ofNat 0)), .nils, (kI 0), (kI 0)]), .ss 8 q7 q55]) (.seq (.oX [.L p57 (.cells 5 q1) .v, .cl p58 118 [q57] .v, .cl p59 244 [q58] .v, .mv p56 q59 .v, .P p60 (.ext q56 0) .v, .P p61 (.ext q56 1) .v, .ss 5 q1 q60, .fa p62 5 q7, .st q62 q61]) (.seq (.ops true (XL.of [.L p63 (.cells 5 q1) .v, .L p64 (.cells 8 q7) .v, .o ⟨none, (.e (.stores 5 q2 q63)), none, [⟨none, .cells 8 q7, p64⟩]⟩ .v, .ss 8 q3 q64])) .ret))))) .skip)))))))) (.sO [.P p65 (.build [(kI 0), (.str []), (.str []), (.int .u32 (.ofNat 0)), (.int .u64 (.ofNat 0)), .nils, (kI 0), (kI 0)] []) .v, .al p8 (.new [(kI 0), (.str []), (.str []), (.int .u32 (.ofNat 0)), (.int .u64 (.ofNat 0)), .nils, (kI 0), (kI 0)]), .ss 8 q8 q65] (.sO [.L p67 (.cells 5 q1) .v, .cl p68 123 [q67, (.c (.str [40]))] .v, .cl p69 125 [q68] .v, .mv p66 q69 .v, .P p70 (.ext q66 0) .v, .P p71 (.ext q66 1) .v, .ss 5 q1 q70, .ss 8 q8 q71] (.seq (.ops true (XL.of [.L p72 (.cells 5 q1) .v, .L p74 (.cells 8 q8) .v, .o ⟨(some p73), (.call (.fn 123) [q72, (.c (.str [41]))]), none, [⟨none, .cells 8 q8, p74⟩]⟩ .v, .o ⟨none, (.e (.stores 5 q2 q73)), none, [⟨none, .cells 8 q8, p74⟩]⟩ .v, .ss 8 q3 q74])) (.s .ret)))))))
def x236 : XFn := ⟨[.v], false, [(.cells 5 p2), (.cells 8 p3)], c236_e⟩
def e236_0 (k t0 h) := kN k [(p0, t0)] h
def S236_0 (D : CallD) (m : Nat) (t0 : AV) (h : HP) : Res2 :=
 let t1 := AV.ptr (HP.nxQ h) 0
 let h1 := HP.newQ h (.cells true (AV.cells t0))
 let t2 := AV.ptr (HP.nxQ h1) 0
 let h2 := HP.newQ h1 (.cells true [.nils, (kI 0), (kI 0), (kI 0), (kI 0)])
 let t3 := AV.ptr (HP.nxQ h2) 0
 let h3 := HP.newQ h2 (.cells true [(kI 0), (.str []), (.str []), (.int .u32 (.ofNat 0)), (.int .u64 (.ofNat 0)), .nils, (kI 0), (kI 0)])
 cellsC 5 t1 h3 fun t9 =>
 cal D 82 [t9] h3 fun t10 h4 =>
 let t4 := AV.ptr (HP.nxQ h4) 0
 let h5 := HP.newQ h4 (.cells true [(kI 0), (.str []), (kI 0)])
 stsC 3 t4 t10 h5 fun h6 =>
 let t11 := (AV.ptr (HP.nxQ h4) (Nat.add 0 0))
 ldI t11 h6 fun t12 =>
 let t14 := eqQ t12 (Int.ofNat 2)
 br t14 (
 cellsC 5 t1 h6 fun t15 =>
 let t17 := (AV.ptr (HP.nxQ h4) (Nat.add 0 1))
 ldS t17 h6 fun t18 =>
 let t21 := (AV.ptr (HP.nxQ h4) (Nat.add 0 2))
 ldI t21 h6 fun t22 =>
 cal D 118 [t15] h6 fun t16 h7 =>
 br (again [⟨none, .cell q17, p18⟩, ⟨none, .cell q21, p22⟩] (mkT [(p22, (vI t22)), (p21, t21), (p18, (vS t18)), (p17, t17)]) h7) (
 cal D 163 [(vS t18)] h7 fun t19 h8 =>
 br (again [⟨none, .cell q21, p22⟩] (mkT [(p22, (vI t22)), (p21, t21)]) h8) (
 asI .i64 t19 fun t19a =>
 let t20 := wrapF .u32 t19a
 let t23 := (AV.agg [(vI (Int.ofNat 1)), (vS ([] : LN)), (vS ([] : LN)), (vW t20), (AV.int .u64 (Int.ofNat 0)), (.nils : AV), (vI (Int.ofNat 0)), (vI t22)])
 stsC 5 t2 t16 h8 fun h9 =>
 br (againE (.stores 5 q2 q16) [⟨none, .cell q21, p22⟩] (mkT [(p2, t2), (p22, (vI t22)), (p21, t21)]) h9) (
 stsC 8 t3 t23 h9 fun h10 =>
 cellsC 5 t2 h10 fun t2a =>
 cellsC 8 t3 h10 fun t3a =>
 some (.ret (.tup [t2a, t3a]) h10, .no)) none) none) none) (
 let t25 := eqQ t12 (Int.ofNat 3)
 br t25 (
 let t27 := (AV.ptr (HP.nxQ h4) (Nat.add 0 1))
 ldS t27 h6 fun t28 =>
 cal D 243 [(vS t28)] h6 fun t29 h11 =>
 extC t29 0 fun vt30 => asI .u64 vt30 fun t30 =>
 extC t29 1 fun vt31 => asB vt31 fun t31 =>
 cellsC 5 t1 h11 fun t32 =>
 let t35 := (AV.ptr (HP.nxQ h4) (Nat.add 0 2))
 ldI t35 h11 fun t36 =>
 let t37 := (AV.agg [(vI (Int.ofNat 2)), (vS ([] : LN)), (vS ([] : LN)), (vW (Int.ofNat 0)), (AV.int .u64 t30), (.nils : AV), (vI (Int.ofNat 0)), (vI t36)])
 cal D 118 [t32] h11 fun t33 h12 =>
 br (again [⟨none, .cell q35, p36⟩] (mkT [(p36, (vI t36)), (p35, t35)]) h12) (
 stsC 5 t2 t33 h12 fun h13 =>
 br (againE (.stores 5 q2 q33) [⟨none, .cell q35, p36⟩] (mkT [(p2, t2), (p36, (vI t36)), (p35, t35)]) h13) (
 stsC 8 t3 t37 h13 fun h14 =>
 cellsC 5 t2 h14 fun t2a =>
 cellsC 8 t3 h14 fun t3a =>
 some (.ret (.tup [t2a, t3a]) h14, .no)) none) none) (
 let t39 := eqQ t12 (Int.ofNat 1)
 br t39 (
 cellsC 5 t1 h6 fun t40 =>
 cal D 118 [t40] h6 fun t41 h15 =>
 stsC 5 t1 t41 h15 fun h16 =>
 cellsC 5 t1 h16 fun t42 =>
 cal D 117 [t42, (vS ([40] : LN))] h16 fun t43 h17 =>
 asB t43 fun t43a =>
 let t44 := !t43a
 br t44 (
 cellsC 5 t1 h17 fun t45 =>
 let t46 := (AV.ptr (HP.nxQ h4) (Nat.add 0 1))
 ldS t46 h17 fun t47 =>
 let t48 := (AV.ptr (HP.nxQ h4) (Nat.add 0 2))
 ldI t48 h17 fun t49 =>
 let t50 := (AV.agg [(vI (Int.ofNat 3)), (vS ([] : LN)), (vS t47), (vW (Int.ofNat 0)), (AV.int .u64 (Int.ofNat 0)), (.nils : AV), (vI (Int.ofNat 0)), (vI t49)])
 stsC 5 t2 t45 h17 fun h18 =>
 br (againE (.stores 5 q2 q45) [⟨none, .cell q46, p47⟩, ⟨none, .cell q48, p49⟩] (mkT [(p2, t2), (p49, (vI t49)), (p48, t48), (p47, (vS t47)), (p46, t46)]) h18) (
 stsC 8 t3 t50 h18 fun h19 =>
 cellsC 5 t2 h19 fun t2a =>
 cellsC 8 t3 h19 fun t3a =>
 some (.ret (.tup [t2a, t3a]) h19, .no)) none) (
 let t51 := (AV.ptr (HP.nxQ h4) (Nat.add 0 1))
 ldS t51 h17 fun t52 =>
 let t53 := (AV.ptr (HP.nxQ h4) (Nat.add 0 2))
 ldI t53 h17 fun t54 =>
 let t55 := (AV.agg [(vI (Int.ofNat 7)), (vS ([] : LN)), (vS t52), (vW (Int.ofNat 0)), (AV.int .u64 (Int.ofNat 0)), (.nils : AV), (vI (Int.ofNat 0)), (vI t54)])
 let t7 := AV.ptr (HP.nxQ h17) 0
 let h20 := HP.newQ h17 (.cells true [(kI 0), (.str []), (.str []), (.int .u32 (.ofNat 0)), (.int .u64 (.ofNat 0)), .nils, (kI 0), (kI 0)])
 stsC 8 t7 t55 h20 fun h21 =>
 cellsC 5 t1 h21 fun t57 =>
 cal D 118 [t57] h21 fun t58 h22 =>
 cal D 244 [t58] h22 fun t59 h23 =>
 extC t59 0 fun t60 =>
 extC t59 1 fun t61 =>
 stsC 5 t1 t60 h23 fun h24 =>
 let t62 := (AV.ptr (HP.nxQ h17) (Nat.add 0 5))
 stoC t62 t61 h24 fun h25 =>
 cellsC 5 t1 h25 fun t63 =>
 cellsC 8 t7 h25 fun t64 =>
 stsC 5 t2 t63 h25 fun h26 =>
 br (againE (.stores 5 q2 q63) [⟨none, .cells 8 q7, p64⟩] (mkT [(p2, t2), (p64, t64), (p7, t7)]) h26) (
 stsC 8 t3 t64 h26 fun h27 =>
 cellsC 5 t2 h27 fun t2a =>
 cellsC 8 t3 h27 fun t3a =>
 some (.ret (.tup [t2a, t3a]) h27, .no)) none)) (
 let t65 := (AV.agg [(vI (Int.ofNat 0)), (vS ([] : LN)), (vS ([] : LN)), (vW (Int.ofNat 0)), (AV.int .u64 (Int.ofNat 0)), (.nils : AV), (vI (Int.ofNat 0)), (vI (Int.ofNat 0))])
 let t8 := AV.ptr (HP.nxQ h6) 0
 let h28 := HP.newQ h6 (.cells true [(kI 0), (.str []), (.str []), (.int .u32 (.ofNat 0)), (.int .u64 (.ofNat 0)), .nils, (kI 0), (kI 0)])
 stsC 8 t8 t65 h28 fun h29 =>
 cellsC 5 t1 h29 fun t67 =>
 cal D 123 [t67, (vS ([40] : LN))] h29 fun t68 h30 =>
 cal D 125 [t68] h30 fun t69 h31 =>
 extC t69 0 fun t70 =>
 extC t69 1 fun t71 =>
 stsC 5 t1 t70 h31 fun h32 =>
 stsC 8 t8 t71 h32 fun h33 =>
 cellsC 5 t1 h33 fun t72 =>
 cellsC 8 t8 h33 fun t74 =>
 cal D 123 [t72, (vS ([41] : LN))] h33 fun t73 h34 =>
 br (again [⟨none, .cells 8 q8, p74⟩] (mkT [(p74, t74), (p8, t8)]) h34) (
 stsC 5 t2 t73 h34 fun h35 =>
 br (againE (.stores 5 q2 q73) [⟨none, .cells 8 q8, p74⟩] (mkT [(p2, t2), (p74, t74), (p8, t8)]) h35) (
 stsC 8 t3 t74 h35 fun h36 =>
 cellsC 5 t2 h36 fun t2a =>
 cellsC 8 t3 h36 fun t3a =>
 some (.ret (.tup [t2a, t3a]) h36, .no)) none) none)))
def S236 : SFn := fun D m args h u => nou u <| popV args fun t0 args => endA args (S236_0 D m t0 h)
theorem T236_0 (hE : FX x236 D m E) : S236_0 D m = e236_0 (E c236_e []) := by unfold S236_0; rw [hE c236_e]; kernel_rfl
theorem X236 : XTie S236 x236 := X_of fun D m E hE args h u => by unfold S236; rw [T236_0 hE]; kernel_rfl
/- 244 -/
def v244_0 : List Pos := [p1, p2, p4]
def c244_0 : XC := (.sO [.L p36 (.cells 5 q1) .v, .mv p37 q4 .v, .ss 5 q2 q36, .mv p3 q37 .v] (.s .ret))
def v244_1 : List Pos := [p1, p2, p4]
def c244_1b : XC := (.seq (.seq (.oX [.fa p10 3 q1, .ld p11 q10 tI, .bn p12 .eql q11 (ci 0) .b]) (.cond q12 .skip (.exit 0))) (.block 1 (.seq (.seq (.oX [.mv p13 q4 .v, .P p14 (.lenl q13) tI, .bn p15 .geq q14 (ci 8) .b]) (.cond q15 (.seq (.oX [.L p16 (.cells 5 q1) .v, .cl p17 161 [q16, (ci 5)] .v, .ss 5 q2 q17, .mv p3 (.c .nils) .v]) .ret) .skip)) (.sO [.P p18 (.build [(kI 0), (.str []), (.str []), (.int .u32 (.ofNat 0)), (.int .u64 (.ofNat 0)), .nils, (kI 0), (kI 0)] []) .v, .al p5 (.new [(kI 0), (.str []), (.str []), (.int .u32 (.ofNat 0)), (.int .u64 (.ofNat 0)), .nils, (kI 0), (kI 0)]), .ss 8 q5 q18] (.sO [.L p20 (.cells 5 q1) .v, .cl p21 125 [q20] .v, .mv p19 q21 .v, .P p22 (.ext q19 0) .v, .P p23 (.ext q19 1) .v, .ss 5 q1 q22, .ss 8 q5 q23] (.sO [.mv p24 q4 .v, .L p25 (.cells 8 q5) .v, .al p26 (.bsl [(kI 0), (.str []), (.str []), (.int .u32 (.ofNat 0)), (.int .u64 (.ofNat 0)), .nils, (kI 0), (kI 0)] 1 [⟨0, 8, q25⟩]), .o ⟨(some p27), (.e (.app 8 96 q24 q26)), none, []⟩ .v, .mv p4 q27 .v] (.seq (.seq (.oX [.L p28 (.cells 5 q1) .v, .cl p29 117 [q28, (.c (.str [44]))] .b, .P p30 (.un .not q29) .b]) (.cond q30 (.seq (.oX [.L p31 (.cells 5 q1) .v, .cl p32 123 [q31, (.c (.str [41]))] .v, .mv p33 q4 .v, .ss 5 q2 q32, .mv p3 q33 .v]) .ret) .skip)) (.s (.oX [.L p34 (.cells 5 q1) .v, .cl p35 118 [q34] .v, .ss 5 q1 q35])))))))))
def c244_e : XC := (.sO [.al p1 (.box q0), .al p2 (.new [.nils, (kI 0), (kI 0), (kI 0), (kI 0)]), .mv p3 (.c .nils) .v] (.seq (.seq (.oX [.L p6 (.cells 5 q1) .v, .cl p7 117 [q6, (.c (.str [41]))] .b]) (.cond q7 (.seq (.oX [.L p8 (.cells 5 q1) .v, .cl p9 118 [q8] .v, .ss 5 q2 q9, .mv p3 (.c .nils) .v]) .ret) .skip)) (.sO [.mv p4 (.c .nils) .v] (.sj v244_0 (.block 0 (.loop v244_1 c244_1b)) c244_0))))
def x244 : XFn := ⟨[.v], false, [(.cells 5 p2), (.tmp p3)], c244_e⟩
def e244_0 (k t1 t2 t4 h) := kN k [(p1, t1), (p2, t2), (p4, t4)] h
def S244_0 (D : CallD) (m : Nat) (t1 t2 t4 : AV) (h : HP) : Res2 :=
 cellsC 5 t1 h fun t36 =>
 stsC 5 t2 t36 h fun h8 =>
 cellsC 5 t2 h8 fun t2a =>
 some (.ret (.tup [t2a, t4]) h8, .no)
def e244_1 (k t1 t2 t4 h) := kN k [(p1, t1), (p2, t2), (p4, t4)] h
def S244_1b (D : CallD) (m : Nat) (g1 : AV → AV → AV → HP → Res2) (t1 t2 t4 : AV) (h : HP) : Res2 :=
 faC 3 t1 fun t10 =>
 ldI t10 h fun t11 =>
 let t12 := eqQ t11 (Int.ofNat 0)
 br t12 (
 lenC t4 fun vt14 => asI .i64 vt14 fun t14 =>
 let t15 := leQ (Int.ofNat 8) t14
 br t15 (
 cellsC 5 t1 h fun t16 =>
 cal D 161 [t16, (vI (Int.ofNat 5))] h fun t17 h9 =>
 stsC 5 t2 t17 h9 fun h10 =>
 cellsC 5 t2 h10 fun t2a =>
 some (.ret (.tup [t2a, (.nils : AV)]) h10, .no)) (
 let t18 := (AV.agg [(vI (Int.ofNat 0)), (vS ([] : LN)), (vS ([] : LN)), (vW (Int.ofNat 0)), (AV.int .u64 (Int.ofNat 0)), (.nils : AV), (vI (Int.ofNat 0)), (vI (Int.ofNat 0))])
 let t5 := AV.ptr (HP.nxQ h) 0
 let h11 := HP.newQ h (.cells true [(kI 0), (.str []), (.str []), (.int .u32 (.ofNat 0)), (.int .u64 (.ofNat 0)), .nils, (kI 0), (kI 0)])
 stsC 8 t5 t18 h11 fun h12 =>
 cellsC 5 t1 h12 fun t20 =>
 cal D 125 [t20] h12 fun t21 h13 =>
 extC t21 0 fun t22 =>
 extC t21 1 fun t23 =>
 stsC 5 t1 t22 h13 fun h14 =>
 stsC 8 t5 t23 h14 fun h15 =>
 cellsC 8 t5 h15 fun t25 =>
 obQ (evA (.bsl [(kI 0), (.str []), (.str []), (.int .u32 (.ofNat 0)), (.int .u64 (.ofNat 0)), .nils, (kI 0), (kI 0)] 1 [⟨0, 8, (.c t25)⟩]) .leaf) fun r16 =>
 let t26 := vkV r16.2 (HP.nxQ h15)
 let h17 := HP.newQ h15 r16.1
 eff (.app 8 96 (.c t4) (.c t26)) h17 fun t27 h18 =>
 cellsC 5 t1 h18 fun t28 =>
 cal D 117 [t28, (vS ([44] : LN))] h18 fun t29 h19 =>
 asB t29 fun t29a =>
 let t30 := !t29a
 br t30 (
 cellsC 5 t1 h19 fun t31 =>
 cal D 123 [t31, (vS ([41] : LN))] h19 fun t32 h20 =>
 stsC 5 t2 t32 h20 fun h21 =>
 cellsC 5 t2 h21 fun t2a =>
 some (.ret (.tup [t2a, t27]) h21, .no)) (
 cellsC 5 t1 h19 fun t34 =>
 cal D 118 [t34] h19 fun t35 h22 =>
 stsC 5 t1 t35 h22 fun h23 =>
 g1 t1 t2 t27 h23))) (
 S244_0 D m t1 t2 t4 h)
def S244_1 (D : CallD) (m : Nat) : AV → AV → AV → HP → Res2 := nrec (fun _ _ _ _ => none) (fun _ g => S244_1b D m g) m
def e244_2 (k t0 h) := kN k [(p0, t0)] h
def S244_2 (D : CallD) (m : Nat) (t0 : AV) (h : HP) : Res2 :=
 let t1 := AV.ptr (HP.nxQ h) 0
 let h3 := HP.newQ h (.cells true (AV.cells t0))
 let t2 := AV.ptr (HP.nxQ h3) 0
 let h4 := HP.newQ h3 (.cells true [.nils, (kI 0), (kI 0), (kI 0), (kI 0)])
 cellsC 5 t1 h4 fun t6 =>
 cal D 117 [t6, (vS ([41] : LN))] h4 fun t7 h5 =>
 asB t7 fun t7a =>
 br t7a (
 cellsC 5 t1 h5 fun t8 =>
 cal D 118 [t8] h5 fun t9 h6 =>
 stsC 5 t2 t9 h6 fun h7 =>
 cellsC 5 t2 h7 fun t2a =>
 some (.ret (.tup [t2a, (.nils : AV)]) h7, .no)) (
 S244_1 D m t1 t2 (.nils : AV) h5)
def S244 : SFn := fun D m args h u => nou u <| popV args fun t0 args => endA args (S244_2 D m t0 h)
theorem T244_0 (hE : FX x244 D m E) : S244_0 D m = e244_0 (E c244_0 []) := by unfold S244_0; rw [hE c244_0]; kernel_rfl
theorem T244_1b (hE : FX x244 D m E) (G1) : S244_1b D m (e244_1 G1) = e244_1 (E c244_1b [.lp v244_1 G1, .blk 0, .sj v244_0 c244_0]) := by unfold S244_1b; rw [T244_0 hE, hE c244_1b]; kernel_rfl
theorem T244_1 (hE : FX x244 D m E) : S244_1 D m = e244_1 (nrec (fun _ => none) (fun _ G1 st => E c244_1b [.lp v244_1 G1, .blk 0, .sj v244_0 c244_0] st) m) :=
  nrec_emb e244_1 (fun _ _ _ _ => none) (fun g => S244_1b D m g) (fun G1 st => E c244_1b [.lp v244_1 G1, .blk 0, .sj v244_0 c244_0] st) rfl (fun g => T244_1b hE g) m
theorem T244_2 (hE : FX x244 D m E) : S244_2 D m = e244_2 (E c244_e []) := by unfold S244_2; rw [T244_1 hE, hE c244_e]; kernel_rfl
theorem X244 : XTie S244 x244 := X_of fun D m E hE args h u => by unfold S244; rw [T244_2 hE]; kernel_rfl
end
end Go.Proofs.YtcoldhmbmcdemaaGreat.Sx
