/- Functions, printed by a program of ours: their code, what they do, and that it is so. -/
import Derived.Test.YtnpadfengpoehaaGreatDoorSp
set_option maxRecDepth 8000
set_option linter.unusedVariables false
namespace Go.Proofs.YtnpadfengpoehaaGreatDoor.Sx
open Go Go.Proofs.YtnpadfengpoehaaGreatDoor.Ev
set_option linter.unusedSectionVars false
noncomputable section
variable [Rho]
variable {D : CallD} {m : Nat} {E : XE}
/- 83 -/
def v83_1 : List Pos := [p3, p4]
def c83_1 : XC := (.sO [.fa p156 6 q3, .ld p157 q156 tI, .bn p158 .neq q157 (ci 0) .b, .fa p159 7 q3, .ld p160 q159 tI, .cl p161 30 [q158, (ci 14), q160] .v] (.sO [.L p162 (.cells 8 q3) .v, .ss 8 q4 q162] (.s .ret)))
def c83_3 : XC := (.cond q146 (.s (.oX [.fa p147 3 q3, .ld p148 q147 tW, .P p149 (.conv (.ii .i64) q148) tI, .fa p150 6 q3, .st q150 q149])) (.s .skip))
def l83_2 : XL := (XL.of [])
def v83_0 : List Pos := [p0, p3, p4]
def c83_0 : XC := (.sO [.fa p32 5 q3, .ld p33 q32 .v, .mv p6 q33 .v] (.sj v83_1 (.sO [.fa p34 0 q3, .ld p35 q34 tI] (.block 2 (.sO [.bn p37 .eql q35 (ci 1) .b, .mv p36 q37 .b] (.cond q36 (.s (.oX [.fa p38 6 q3, .st q38 (ci 1)])) (.sO [.bn p40 .eql q35 (ci 2) .b, .mv p39 q40 .b] (.cond q39 (.s (.oX [.fa p41 6 q3, .st q41 (ci 2)])) (.sO [.bn p43 .eql q35 (ci 3) .b, .mv p42 q43 .b] (.cond q42 (.sO [.mv p45 q0 .v, .fa p46 2 q3, .ld p47 q46 .s, .cl p48 105 [q45, q47] .v, .mv p44 q48 .v, .P p49 (.ext q44 0) .v, .P p50 (.ext q44 1) .b, .al p7 (.new [(.bool false), (.bool false), (.bool false), (.str []), (kI 0), (kI 0), .nils, (.bool false), .nils, (kI 0), .nils, .nils, (.str []), (kI 0), (kI 0), (kI 0), (kI 0), (.str [])]), .ss 18 q7 q49, .mv p8 q50 .b] (.sO [.mv p51 q8 .b, .mv p52 q51 .b, .ge p52 (XL.of [.G p52 true p53 (.faddr 0 q7) .v, .G p52 true p54 (.faddr 0 q53) .v, .o ⟨(some p55), (.l (.cell q54)), (some (p52, true)), []⟩ .b, .G p52 true p56 (.un .not q55) .b, .P p57 (.pick q52 q56 (cb false)) .b]) p57 .b, .fa p58 7 q3, .ld p59 q58 tI, .cl p60 30 [q57, (ci 13), q59] .v] (.seq (.ops true (XL.of [.fa p61 17 q7, .ld p62 q61 .s, .fa p63 0 q7, .fa p64 4 q63, .ld p65 q64 tI, .fa p66 2 q3, .o ⟨none, (.e (.store q66 q62)), none, [⟨none, .cell q64, p65⟩]⟩ .v, .fa p67 6 q3, .st q67 q65])) (.sO [.fa p68 0 q7, .fa p69 5 q68, .ld p70 q69 tI, .bn p71 .gtr q70 (ci 0) .b] (.cond q71 (.s (.oX [.fa p72 0 q7, .fa p73 4 q72, .ld p74 q73 tI, .cl p75 106 [q74] tI, .fa p76 6 q3, .st q76 q75, .fa p77 3 q3, .st q77 (.c (.int .u32 (.ofNat 1)))])) (.s .skip)))))) (.sO [.bn p79 .eql q35 (ci 4) .b, .mv p78 q79 .b] (.cond q78 (.s (.ops true (XL.of [.fa p80 1 q3, .ld p81 q80 .s, .mv p82 q6 .v, .P p83 (.iaddr (.sl 8) q82 (ci 0)) .v, .L p84 (.cells 8 q83) .v, .cl p85 107 [q81, q84] tI, .fa p86 6 q3, .st q86 q85]))) (.sO [.bn p88 .eql q35 (ci 5) .b, .mv p87 q88 .b] (.cond q87 (.s (.oX [.mv p89 q0 .v, .fa p90 1 q3, .ld p91 q90 .s, .mv p92 q6 .v, .cl p93 108 [q89, q91, q92] tI, .fa p94 6 q3, .st q94 q93])) (.sO [.bn p96 .eql q35 (ci 6) .b, .mv p95 q96 .b] (.cond q95 (.sO [.mv p97 q6 .v, .P p98 (.iaddr (.sl 8) q97 (ci 0)) .v, .L p99 (.cells 8 q98) .v, .cl p100 109 [q99] .b, .mv p9 q100 .b] (.seq (.ops true (XL.of [.mv p102 q6 .v, .mv p103 q9 .b, .mv p104 q6 .v, .P p105 (.iaddr (.sl 8) q104 (ci 1)) .v, .L p106 (.cells 8 q105) .v, .mv p107 q6 .v, .P p108 (.iaddr (.sl 8) q107 (ci 0)) .v, .fa p109 6 q108, .ld p110 q109 tI, .cl p111 110 [q103, q106, q110] .v, .mv p101 q111 .v, .P p112 (.ext q101 0) .v, .P p113 (.ext q101 1) .b, .P p114 (.iaddr (.sl 8) q102 (ci 1)) .v, .ss 8 q114 q112, .mv p9 q113 .b])) (.sO [.mv p115 q9 .b] (.cond q115 (.s (.oX [.mv p116 q6 .v, .P p117 (.iaddr (.sl 8) q116 (ci 0)) .v, .fa p118 6 q117, .ld p119 q118 tI, .fa p120 6 q3, .st q120 q119])) (.s .skip))))) (.sO [.bn p122 .eql q35 (ci 8) .b, .mv p121 q122 .b] (.cond q121 (.sO [.mv p123 q6 .v, .P p124 (.iaddr (.sl 8) q123 (ci 1)) .v, .fa p125 6 q124, .ld p126 q125 tI, .bn p127 .eql q126 (ci 1) .b] (.cond q127 (.s (.oX [.mv p128 q6 .v, .P p129 (.iaddr (.sl 8) q128 (ci 0)) .v, .fa p130 6 q129, .ld p131 q130 tI, .cl p132 111 [q131] tI, .fa p133 6 q3, .st q133 q132])) (.s .skip))) (.sO [.bn p135 .eql q35 (ci 9) .b, .mv p134 q135 .b] (.cond q134 (.opq false (XL.pre [.mv p136 q6 .v, .P p137 (.iaddr (.sl 8) q136 (ci 0)) .v, .fa p138 6 q137, .ld p139 q138 tI, .cl p140 54 [q139] .b, .mv p141 q140 .b, .sp p141, .G p141 true p142 (.faddr 3 q3) .v, .o ⟨(some p143), (.l (.cell q142)), (some (p141, true)), []⟩ tW, .G p141 true p144 (.conv (.ii .i64) q143) tI, .o ⟨(some p145), (.call (.fn 54) [q144]), (some (p141, true)), []⟩ .b, .P p146 (.pick q141 q145 (cb false)) .b, .jn p141 [p3, p4, p146]] l83_2) c83_3) (.sO [.bn p152 .eql q35 (ci 7) .b, .mv p151 q152 .b] (.cond q151 (.sO [.mv p153 q0 .v, .L p154 (.cells 8 q3) .v, .cl p155 112 [q153, q154] .v, .ss 8 q4 q155] (.s .ret)) (.s .skip))))))))))))))))))))) c83_1))
def v83_4 : List Pos := [p0, p3, p4, p16, p17]
def c83_4b : XC := (.sO [.bn p18 .lss q17 q16 .b] (.seq (.cond q18 .skip (.exit 0)) (.seq (.block 1 (.seq (.oX [.mv p19 q17 tI, .mv p5 q19 tI]) (.ops true (XL.of [.fa p20 5 q3, .ld p21 q20 .v, .mv p22 q5 tI, .mv p23 q0 .v, .fa p24 5 q3, .ld p25 q24 .v, .mv p26 q5 tI, .P p27 (.iaddr (.sl 8) q25 q26) .v, .L p28 (.cells 8 q27) .v, .o ⟨(some p29), (.call (.fn 83) [q23, q28]), none, [⟨none, .cell q20, p21⟩]⟩ .v, .P p30 (.iaddr (.sl 8) q21 q22) .v, .ss 8 q30 q29])))) (.s (.oX [.bn p31 .add q17 (ci 1) tI, .mv p17 q31 tI])))))
def c83_e : XC := (.sO [.al p3 (.box q1), .al p4 (.new [(kI 0), (.str []), (.str []), (.int .u32 (.ofNat 0)), (.int .u64 (.ofNat 0)), .nils, (kI 0), (kI 0)])] (.sO [.fa p10 5 q3, .ld p11 q10 .v, .cl p12 57 [q11] .v, .fa p13 5 q3, .st q13 q12] (.sj v83_0 (.sO [.fa p14 5 q3, .ld p15 q14 .v, .P p16 (.lenl q15) tI, .mv p17 (ci 0) tI] (.block 0 (.loop v83_4 c83_4b))) c83_0)))
def x83 : XFn := ⟨[.v, .v], false, [(.cells 8 p4)], c83_e⟩
def e83_1 (k t3 t4 h) := kN k [(p3, t3), (p4, t4)] h
def S83_1 (D : CallD) (m : Nat) (t3 t4 : AV) (h : HP) : Res2 :=
 faC 6 t3 fun t156 =>
 ldI t156 h fun t157 =>
 let t158 := notQ (eqQ t157 (Int.ofNat 0))
 faC 7 t3 fun t159 =>
 ldI t159 h fun t160 =>
 cal D 30 [(vB t158), (vI (Int.ofNat 14)), (vI t160)] h fun t161 h10 =>
 cellsC 8 t3 h10 fun t162 =>
 stsC 8 t4 t162 h10 fun h11 =>
 cellsC 8 t4 h11 fun t4a =>
 some (.ret t4a h11, .no)
def e83_2 (k t3 t4 t146 h) := kN k [(p3, t3), (p4, t4), (p146, (vB t146))] h
def S83_2 (D : CallD) (m : Nat) (t3 t4 : AV) (t146 : Bool) (h : HP) : Res2 :=
 br t146 (
 faC 3 t3 fun t147 =>
 ldW t147 h fun t148 =>
 obI .i64 (convV (.ii .i64) (vW t148)) fun t149 =>
 faC 6 t3 fun t150 =>
 stoC t150 (vI t149) h fun h35 =>
 S83_1 D m t3 t4 h35) (
 S83_1 D m t3 t4 h)
def e83_0 (k t0 t3 t4 h) := kN k [(p0, t0), (p3, t3), (p4, t4)] h
def S83_0 (D : CallD) (m : Nat) (t0 t3 t4 : AV) (h : HP) : Res2 :=
 faC 5 t3 fun t32 =>
 cellC t32 h fun t33 =>
 faC 0 t3 fun t34 =>
 ldI t34 h fun t35 =>
 let t37 := eqQ t35 (Int.ofNat 1)
 br t37 (
 faC 6 t3 fun t38 =>
 stoC t38 (vI (Int.ofNat 1)) h fun h12 =>
 S83_1 D m t3 t4 h12) (
 let t40 := eqQ t35 (Int.ofNat 2)
 br t40 (
 faC 6 t3 fun t41 =>
 stoC t41 (vI (Int.ofNat 2)) h fun h13 =>
 S83_1 D m t3 t4 h13) (
 let t43 := eqQ t35 (Int.ofNat 3)
 br t43 (
 faC 2 t3 fun t46 =>
 ldS t46 h fun t47 =>
 cal D 105 [t0, (vS t47)] h fun t48 h14 =>
 extC t48 0 fun t49 =>
 extC t48 1 fun vt50 => asB vt50 fun t50 =>
 let t7 := AV.ptr (HP.nxQ h14) 0
 let h15 := HP.newQ h14 (.cells true [(.bool false), (.bool false), (.bool false), (.str []), (kI 0), (kI 0), .nils, (.bool false), .nils, (kI 0), .nils, .nils, (.str []), (kI 0), (kI 0), (kI 0), (kI 0), (.str [])])
 stsC 18 t7 t49 h15 fun h16 =>
 obB (brV t50 (
 let t53 := (AV.ptr (HP.nxQ h14) (Nat.add 0 0))
 let t54 := (AV.ptr (HP.nxQ h14) (Nat.add (Nat.add 0 0) 0))
 ldBV t54 h16 fun t55 =>
 let t56 := !t55
 some (vB t56)) (
 some (vB false))) fun t57 =>
 faC 7 t3 fun t58 =>
 ldI t58 h16 fun t59 =>
 cal D 30 [(vB t57), (vI (Int.ofNat 13)), (vI t59)] h16 fun t60 h17 =>
 let t61 := (AV.ptr (HP.nxQ h14) (Nat.add 0 17))
 ldS t61 h17 fun t62 =>
 let t63 := (AV.ptr (HP.nxQ h14) (Nat.add 0 0))
 let t64 := (AV.ptr (HP.nxQ h14) (Nat.add (Nat.add 0 0) 4))
 ldI t64 h17 fun t65 =>
 faC 2 t3 fun t66 =>
 stoC t66 (vS t62) h17 fun h18 =>
 br (againE (.store q66 q62) [⟨none, .cell q64, p65⟩] (mkT [(p66, t66), (p65, (vI t65)), (p64, t64)]) h18) (
 faC 6 t3 fun t67 =>
 stoC t67 (vI t65) h18 fun h19 =>
 let t68 := (AV.ptr (HP.nxQ h14) (Nat.add 0 0))
 let t69 := (AV.ptr (HP.nxQ h14) (Nat.add (Nat.add 0 0) 5))
 ldI t69 h19 fun t70 =>
 let t71 := ltQ (Int.ofNat 0) t70
 br t71 (
 let t72 := (AV.ptr (HP.nxQ h14) (Nat.add 0 0))
 let t73 := (AV.ptr (HP.nxQ h14) (Nat.add (Nat.add 0 0) 4))
 ldI t73 h19 fun t74 =>
 cal D 106 [(vI t74)] h19 fun t75 h20 =>
 asI .i64 t75 fun t75a =>
 faC 6 t3 fun t76 =>
 stoC t76 (vI t75a) h20 fun h21 =>
 faC 3 t3 fun t77 =>
 stoC t77 (vW (Int.ofNat 1)) h21 fun h22 =>
 S83_1 D m t3 t4 h22) (
 S83_1 D m t3 t4 h19)) none) (
 let t79 := eqQ t35 (Int.ofNat 4)
 br t79 (
 faC 1 t3 fun t80 =>
 ldS t80 h fun t81 =>
 iasC 8 t33 (vI (Int.ofNat 0)) fun t83 =>
 cellsC 8 t83 h fun t84 =>
 cal D 107 [(vS t81), t84] h fun t85 h23 =>
 asI .i64 t85 fun t85a =>
 faC 6 t3 fun t86 =>
 stoC t86 (vI t85a) h23 fun h24 =>
 S83_1 D m t3 t4 h24) (
 let t88 := eqQ t35 (Int.ofNat 5)
 br t88 (
 faC 1 t3 fun t90 =>
 ldS t90 h fun t91 =>
 cal D 108 [t0, (vS t91), t33] h fun t93 h25 =>
 asI .i64 t93 fun t93a =>
 faC 6 t3 fun t94 =>
 stoC t94 (vI t93a) h25 fun h26 =>
 S83_1 D m t3 t4 h26) (
 let t96 := eqQ t35 (Int.ofNat 6)
 br t96 (
 iasC 8 t33 (vI (Int.ofNat 0)) fun t98 =>
 cellsC 8 t98 h fun t99 =>
 cal D 109 [t99] h fun t100 h27 =>
 asB t100 fun t100a =>
 iasC 8 t33 (vI (Int.ofNat 1)) fun t105 =>
 cellsC 8 t105 h27 fun t106 =>
 iasC 8 t33 (vI (Int.ofNat 0)) fun t108 =>
 faC 6 t108 fun t109 =>
 ldI t109 h27 fun t110 =>
 cal D 110 [(vB t100a), t106, (vI t110)] h27 fun t111 h28 =>
 extC t111 0 fun t112 =>
 extC t111 1 fun vt113 => asB vt113 fun t113 =>
 iasC 8 t33 (vI (Int.ofNat 1)) fun t114 =>
 stsC 8 t114 t112 h28 fun h29 =>
 br t113 (
 iasC 8 t33 (vI (Int.ofNat 0)) fun t117 =>
 faC 6 t117 fun t118 =>
 ldI t118 h29 fun t119 =>
 faC 6 t3 fun t120 =>
 stoC t120 (vI t119) h29 fun h30 =>
 S83_1 D m t3 t4 h30) (
 S83_1 D m t3 t4 h29)) (
 let t122 := eqQ t35 (Int.ofNat 8)
 br t122 (
 iasC 8 t33 (vI (Int.ofNat 1)) fun t124 =>
 faC 6 t124 fun t125 =>
 ldI t125 h fun t126 =>
 let t127 := eqQ t126 (Int.ofNat 1)
 br t127 (
 iasC 8 t33 (vI (Int.ofNat 0)) fun t129 =>
 faC 6 t129 fun t130 =>
 ldI t130 h fun t131 =>
 cal D 111 [(vI t131)] h fun t132 h31 =>
 asI .i64 t132 fun t132a =>
 faC 6 t3 fun t133 =>
 stoC t133 (vI t132a) h31 fun h32 =>
 S83_1 D m t3 t4 h32) (
 S83_1 D m t3 t4 h)) (
 let t135 := eqQ t35 (Int.ofNat 9)
 br t135 (
 iasC 8 t33 (vI (Int.ofNat 0)) fun t137 =>
 faC 6 t137 fun t138 =>
 ldI t138 h fun t139 =>
 cal D 54 [(vI t139)] h fun t140 h33 =>
 asB t140 fun t140a =>
 br t140a (
 faC 3 t3 fun t142 =>
 ldW t142 h33 fun t143 =>
 obI .i64 (convV (.ii .i64) (vW t143)) fun t144 =>
 cal D 54 [(vI t144)] h33 fun t145 h34 =>
 asB t145 fun t145a =>
 S83_2 D m t3 t4 t145a h34) (
 S83_2 D m t3 t4 false h33)) (
 let t152 := eqQ t35 (Int.ofNat 7)
 br t152 (
 cellsC 8 t3 h fun t154 =>
 cal D 112 [t0, t154] h fun t155 h36 =>
 stsC 8 t4 t155 h36 fun h37 =>
 cellsC 8 t4 h37 fun t4a =>
 some (.ret t4a h37, .no)) (
 S83_1 D m t3 t4 h)))))))))
def e83_4 (k t0 t3 t4 t16 t17 h) := kN k [(p0, t0), (p3, t3), (p4, t4), (p16, (vI t16)), (p17, (vI t17))] h
def S83_4b (D : CallD) (m : Nat) (g4 : AV → AV → AV → Int → Int → HP → Res2) (t0 t3 t4 : AV) (t16 t17 : Int) (h : HP) : Res2 :=
 let t18 := ltQ t17 t16
 br t18 (
 faC 5 t3 fun t20 =>
 cellC t20 h fun t21 =>
 faC 5 t3 fun t24 =>
 cellC t24 h fun t25 =>
 iasC 8 t25 (vI t17) fun t27 =>
 cellsC 8 t27 h fun t28 =>
 cal D 83 [t0, t28] h fun t29 h38 =>
 br (again [⟨none, .cell q20, p21⟩] (mkT [(p21, t21), (p20, t20)]) h38) (
 iasC 8 t21 (vI t17) fun t30 =>
 stsC 8 t30 t29 h38 fun h39 =>
 let t31 := wrQ .i64 (addQ t17 (Int.ofNat 1))
 g4 t0 t3 t4 t16 t31 h39) none) (
 S83_0 D m t0 t3 t4 h)
def S83_4 (D : CallD) (m : Nat) : AV → AV → AV → Int → Int → HP → Res2 := nrec (fun _ _ _ _ _ _ => none) (fun _ g => S83_4b D m g) m
def e83_5 (k t0 t1 h) := kN k [(p0, t0), (p1, t1)] h
def S83_5 (D : CallD) (m : Nat) (t0 t1 : AV) (h : HP) : Res2 :=
 let t3 := AV.ptr (HP.nxQ h) 0
 let h6 := HP.newQ h (.cells true (AV.cells t1))
 let t4 := AV.ptr (HP.nxQ h6) 0
 let h7 := HP.newQ h6 (.cells true [(kI 0), (.str []), (.str []), (.int .u32 (.ofNat 0)), (.int .u64 (.ofNat 0)), .nils, (kI 0), (kI 0)])
 let t10 := (AV.ptr (HP.nxQ h) (Nat.add 0 5))
 cellC t10 h7 fun t11 =>
 cal D 57 [t11] h7 fun t12 h8 =>
 let t13 := (AV.ptr (HP.nxQ h) (Nat.add 0 5))
 stoC t13 t12 h8 fun h9 =>
 let t14 := (AV.ptr (HP.nxQ h) (Nat.add 0 5))
 cellC t14 h9 fun t15 =>
 lenC t15 fun vt16 => asI .i64 vt16 fun t16 =>
 S83_4 D m t0 t3 t4 t16 (Int.ofNat 0) h9
def S83 : SFn := fun D m args h u => nou u <| popV args fun t0 args => popV args fun t1 args => endA args (S83_5 D m t0 t1 h)
theorem T83_1 (hE : FX x83 D m E) : S83_1 D m = e83_1 (E c83_1 []) := by unfold S83_1; rw [hE c83_1]; kernel_rfl
theorem T83_2 (hE : FX x83 D m E) : S83_2 D m = e83_2 (E (.opq false l83_2 c83_3) [.blk 2, .sj v83_1 c83_1]) := by unfold S83_2; rw [T83_1 hE, hE (.opq false l83_2 c83_3)]; kernel_rfl
theorem T83_0 (hE : FX x83 D m E) : S83_0 D m = e83_0 (E c83_0 []) := by unfold S83_0; rw [T83_1 hE, T83_2 hE, hE c83_0]; kernel_rfl
theorem T83_4b (hE : FX x83 D m E) (G4) : S83_4b D m (e83_4 G4) = e83_4 (E c83_4b [.lp v83_4 G4, .blk 0, .sj v83_0 c83_0]) := by unfold S83_4b; rw [T83_0 hE, hE c83_4b]; kernel_rfl
theorem T83_4 (hE : FX x83 D m E) : S83_4 D m = e83_4 (nrec (fun _ => none) (fun _ G4 st => E c83_4b [.lp v83_4 G4, .blk 0, .sj v83_0 c83_0] st) m) :=
  nrec_emb e83_4 (fun _ _ _ _ _ _ => none) (fun g => S83_4b D m g) (fun G4 st => E c83_4b [.lp v83_4 G4, .blk 0, .sj v83_0 c83_0] st) rfl (fun g => T83_4b hE g) m
theorem T83_5 (hE : FX x83 D m E) : S83_5 D m = e83_5 (E c83_e []) := by unfold S83_5; rw [T83_4 hE, hE c83_e]; kernel_rfl
theorem X83 : XTie S83 x83 := X_of fun D m E hE args h u => by unfold S83; rw [T83_5 hE]; kernel_rfl
/- 84 -/
def v84_0 : List Pos := [p1, p2, p4]
def c84_0 : XC := (.sO [.L p21 (.cells 8 q2) .v, .fa p22 6 q2, .ld p23 q22 tI, .mv p24 q1 tI, .bn p25 .eql q23 q24 .b, .mv p26 q25 .b, .ge p26 (XL.of [.G p26 true p27 (.mov q1) tI, .G p26 true p28 (.bin .neq q27 (ci 0)) .b, .P p29 (.pick q26 q28 (cb false)) .b]) p29 .b, .ss 8 q4 q21, .mv p5 q29 .b] (.s .ret))
def c84_e : XC := (.sO [.al p2 (.box q0), .al p4 (.new [(kI 0), (.str []), (.str []), (.int .u32 (.ofNat 0)), (.int .u64 (.ofNat 0)), .nils, (kI 0), (kI 0)]), .mv p5 (cb false) .b] (.sj v84_0 (.sO [.mv p6 q1 tI, .cl p7 111 [q6] tI, .bn p8 .neq q7 (ci 0) .b, .mv p9 q8 .b, .ge p9 (XL.of [.G p9 true p10 (.faddr 0 q2) .v, .o ⟨(some p11), (.l (.cell q10)), (some (p9, true)), []⟩ tI, .G p9 true p12 (.bin .eql q11 (ci 1)) .b, .P p13 (.pick q9 q12 (cb false)) .b]) p13 .b, .mv p14 q13 .b, .ge p14 (XL.of [.G p14 true p15 (.faddr 3 q2) .v, .o ⟨(some p16), (.l (.cell q15)), (some (p14, true)), []⟩ tW, .G p14 true p17 (.bin .eql q16 (.c (.int .u32 (.ofNat 0)))) .b, .P p18 (.pick q14 q17 (cb false)) .b]) p18 .b] (.cond q18 (.s (.oX [.mv p19 q1 tI, .fa p20 6 q2, .st q20 q19])) (.s .skip))) c84_0))
def x84 : XFn := ⟨[.v, tI], false, [(.cells 8 p4), (.tmp p5)], c84_e⟩
def e84_0 (k t1 t2 t4 h) := kN k [(p1, (vI t1)), (p2, t2), (p4, t4)] h
def S84_0 (D : CallD) (m : Nat) (t1 : Int) (t2 t4 : AV) (h : HP) : Res2 :=
 cellsC 8 t2 h fun t21 =>
 faC 6 t2 fun t22 =>
 ldI t22 h fun t23 =>
 let t25 := eqQ t23 t1
 obB (brV t25 (
 let t28 := notQ (eqQ t1 (Int.ofNat 0))
 some (vB t28)) (
 some (vB false))) fun t29 =>
 stsC 8 t4 t21 h fun h4 =>
 cellsC 8 t4 h4 fun t4a =>
 some (.ret (.tup [t4a, (vB t29)]) h4, .no)
def e84_1 (k t0 t1 h) := kN k [(p0, t0), (p1, (vI t1))] h
def S84_1 (D : CallD) (m : Nat) (t0 : AV) (t1 : Int) (h : HP) : Res2 :=
 let t2 := AV.ptr (HP.nxQ h) 0
 let h2 := HP.newQ h (.cells true (AV.cells t0))
 let t4 := AV.ptr (HP.nxQ h2) 0
 let h3 := HP.newQ h2 (.cells true [(kI 0), (.str []), (.str []), (.int .u32 (.ofNat 0)), (.int .u64 (.ofNat 0)), .nils, (kI 0), (kI 0)])
 cal D 111 [(vI t1)] h3 fun t7 h5 =>
 asI .i64 t7 fun t7a =>
 let t8 := notQ (eqQ t7a (Int.ofNat 0))
 obB (brV t8 (
 let t10 := (AV.ptr (HP.nxQ h) (Nat.add 0 0))
 ldIV t10 h5 fun t11 =>
 let t12 := eqQ t11 (Int.ofNat 1)
 some (vB t12)) (
 some (vB false))) fun t13 =>
 obB (brV t13 (
 let t15 := (AV.ptr (HP.nxQ h) (Nat.add 0 3))
 ldWV t15 h5 fun t16 =>
 binCV .eql (vW t16) (vW (Int.ofNat 0)) fun vt17 => asBV vt17 fun t17 =>
 some (vB t17)) (
 some (vB false))) fun t18 =>
 br t18 (
 let t20 := (AV.ptr (HP.nxQ h) (Nat.add 0 6))
 stoC t20 (vI t1) h5 fun h6 =>
 S84_0 D m t1 t2 t4 h6) (
 S84_0 D m t1 t2 t4 h5)
def S84 : SFn := fun D m args h u => nou u <| popV args fun t0 args => popI .i64 args fun t1 args => endA args (S84_1 D m t0 t1 h)
theorem T84_0 (hE : FX x84 D m E) : S84_0 D m = e84_0 (E c84_0 []) := by unfold S84_0; rw [hE c84_0]; kernel_rfl
theorem T84_1 (hE : FX x84 D m E) : S84_1 D m = e84_1 (E c84_e []) := by unfold S84_1; rw [T84_0 hE, hE c84_e]; kernel_rfl
theorem X84 : XTie S84 x84 := X_of fun D m E hE args h u => by unfold S84; rw [T84_1 hE]; kernel_rfl
/- 85 -/
def c85_e : XC := (.sO [.mv p2 (.c .nils) .v] (.seq (.seq (.oX [.mv p3 q0 .v, .P p4 (.eqn .sl false q3 (.c .nils)) .b]) (.cond q4 (.seq (.oX [.mv p2 (.c .nils) .v]) .ret) .skip)) (.sO [.al p5 (.bsl [] 0 []), .mv p6 q0 .v, .o ⟨(some p7), (.e (.app 7 96 q5 q6)), none, []⟩ .v, .mv p2 q7 .v] (.s .ret))))
def x85 : XFn := ⟨[.v], false, [(.tmp p2)], c85_e⟩
def e85_0 (k t0 h) := kN k [(p0, t0)] h
def S85_0 (D : CallD) (m : Nat) (t0 : AV) (h : HP) : Res2 :=
 obB (evP (.eqn .sl false (.c t0) (.c (.nils : AV))) .leaf) fun t4 =>
 br t4 (
 some (.ret (.nils : AV) h, .no)) (
 let t5 := AV.slice (HP.nxQ h) 0 0 (.exact 0)
 let h1 := HP.newQ h (.cells true [])
 eff (.app 7 96 (.c t5) (.c t0)) h1 fun t7 h2 =>
 some (.ret t7 h2, .no))
def S85 : SFn := fun D m args h u => nou u <| popV args fun t0 args => endA args (S85_0 D m t0 h)
theorem T85_0 (hE : FX x85 D m E) : S85_0 D m = e85_0 (E c85_e []) := by unfold S85_0; rw [hE c85_e]; kernel_rfl
theorem X85 : XTie S85 x85 := X_of fun D m E hE args h u => by unfold S85; rw [T85_0 hE]; kernel_rfl
/- 86 -/
def v86_0 : List Pos := [p3, p4]
def c86_0 : XC := (.sO [.L p259 (.cells 7 q3) .v, .ss 7 q4 q259] (.s .ret))
def v86_2 : List Pos := [p2, p3, p4]
def c86_2 : XC := (.s (.oX [.ld p77 q2 .v, .fa p78 2 q3, .ld p79 q78 .v, .cl p80 114 [q77, q79] .v, .fa p81 2 q3, .st q81 q80]))
def v86_3 : List Pos := [p2, p3, p4, p105, p106]
def c86_3b : XC := (.sO [.bn p107 .lss q106 q105 .b] (.seq (.cond q107 .skip (.exit 1)) (.seq (.block 2 (.seq (.oX [.mv p108 q106 tI, .mv p5 q108 tI]) (.ops true (XL.of [.fa p109 1 q3, .ld p110 q109 .v, .mv p111 q5 tI, .ld p112 q2 .v, .fa p113 1 q3, .ld p114 q113 .v, .mv p115 q5 tI, .P p116 (.iaddr (.sl 8) q114 q115) .v, .L p117 (.cells 8 q116) .v, .ld p118 q2 .v, .P p119 (.nilck q118) .v, .fa p120 1 q119, .ld p121 q120 tI, .fa p122 6 q3, .ld p123 q122 tI, .o ⟨(some p124), (.call (.fn 58) [q112, q117, q121, q123]), none, [⟨none, .cell q109, p110⟩]⟩ .v, .P p125 (.iaddr (.sl 8) q110 q111) .v, .ss 8 q125 q124])))) (.s (.oX [.bn p126 .add q106 (ci 1) tI, .mv p106 q126 tI])))))
def v86_5 : List Pos := [p2, p3, p4, p142, p143]
def c86_5b : XC := (.sO [.bn p144 .lss q143 q142 .b] (.seq (.cond q144 .skip (.exit 3)) (.seq (.block 4 (.seq (.oX [.mv p145 q143 tI, .mv p6 q145 tI]) (.ops true (XL.of [.fa p146 1 q3, .ld p147 q146 .v, .mv p148 q6 tI, .ld p149 q2 .v, .fa p150 1 q3, .ld p151 q150 .v, .mv p152 q6 tI, .P p153 (.iaddr (.sl 8) q151 q152) .v, .L p154 (.cells 8 q153) .v, .o ⟨(some p155), (.call (.fn 83) [q149, q154]), none, [⟨none, .cell q146, p147⟩]⟩ .v, .P p156 (.iaddr (.sl 8) q147 q148) .v, .ss 8 q156 q155])))) (.s (.oX [.bn p157 .add q143 (ci 1) tI, .mv p143 q157 tI])))))
def v86_9 : List Pos := [p2, p3, p4]
def c86_9 : XC := (.s (.oX [.ld p249 q2 .v, .fa p250 3 q3, .ld p251 q250 .s, .fa p252 4 q3, .ld p253 q252 tI, .fa p254 5 q3, .ld p255 q254 tI, .P p256 (.build [(.bool false), (.bool false), (.bool false), (.str []), (kI 0), (kI 0), .nils, (.bool false), .nils, (kI 0), .nils, .nils, (.str []), (kI 0), (kI 0), (kI 0), (kI 0)] [⟨3, 1, q251⟩, ⟨4, 1, q253⟩, ⟨5, 1, q255⟩]) .v, .cl p257 56 [q249, q256] .s, .fa p258 3 q3, .st q258 q257]))
def v86_10 : List Pos := [p2, p3, p4, p225, p226]
def c86_10b : XC := (.sO [.bn p227 .lss q226 q225 .b] (.seq (.cond q227 .skip (.exit 7)) (.seq (.block 8 (.seq (.oX [.mv p228 q226 tI, .mv p10 q228 tI]) (.seq (.oX [.mv p11 (cb false) .b]) (.seq (.ops true (XL.of [.fa p230 1 q3, .ld p231 q230 .v, .mv p232 q10 tI, .fa p233 1 q3, .ld p234 q233 .v, .mv p235 q10 tI, .P p236 (.iaddr (.sl 8) q234 q235) .v, .L p237 (.cells 8 q236) .v, .fa p238 4 q3, .ld p239 q238 tI, .o ⟨(some p240), (.call (.fn 84) [q237, q239]), none, [⟨none, .cell q230, p231⟩]⟩ .v, .mv p229 q240 .v, .P p241 (.ext q229 0) .v, .P p242 (.ext q229 1) .b, .P p243 (.iaddr (.sl 8) q231 q232) .v, .ss 8 q243 q241, .mv p11 q242 .b])) (.oX [.mv p244 q11 .b, .fa p245 6 q3, .ld p246 q245 tI, .cl p247 30 [q244, (ci 14), q246] .v]))))) (.s (.oX [.bn p248 .add q226 (ci 1) tI, .mv p226 q248 tI])))))
def c86_11 : XC := (.sj v86_9 (.sO [.fa p223 1 q3, .ld p224 q223 .v, .P p225 (.lenl q224) tI, .mv p226 (ci 0) tI] (.block 7 (.loop v86_10 c86_10b))) c86_9)
def l86_8 : XL := (XL.of [.cl p222 30 [q219, (ci 14), q221] .v])
def l86_7 : XL := (XL.pre [.P p219 (.pick q204 q218 (cb false)) .b, .jn p204 [p2, p3, p4, p219, p221]] l86_8)
def v86_6 : List Pos := [p2, p3, p4]
def c86_6 : XC := (.opq true (XL.pre [.fa p201 4 q3, .ld p202 q201 tI, .bn p203 .neq q202 (ci 0) .b, .mv p204 q203 .b, .sp p204, .G p204 true p205 (.faddr 5 q3) .v, .o ⟨(some p206), (.l (.cell q205)), (some (p204, true)), []⟩ tI, .G p204 true p207 (.bin .eql q206 (ci 0)) .b, .G p204 true p208 (.mov q207) .b, .sp p208, .G p208 false p209 (.faddr 4 q3) .v, .o ⟨(some p210), (.l (.cell q209)), (some (p208, false)), []⟩ tI, .fa p220 6 q3, .ld p221 q220 tI, .o ⟨(some p211), (.call (.fn 54) [q210]), (some (p208, false)), [⟨none, .cell q220, p221⟩]⟩ .b, .G p208 false p212 (.mov q211) .b, .ge p212 (XL.of [.G p212 true p213 (.faddr 1 q3) .v, .o ⟨(some p214), (.l (.cell q213)), (some (p212, true)), []⟩ .v, .G p212 true p215 (.lenl q214) tI, .G p212 true p216 (.bin .eql q215 (ci 0)) .b, .G p208 false p217 (.pick q212 q216 (cb false)) .b]) p217 .b, .G p204 true p218 (.pick q208 (cb true) q217) .b, .jn p208 [p2, p3, p4, p204, p218, p221]] l86_7) c86_11)
def v86_12 : List Pos := [p2, p3, p4, p185, p186]
def c86_12b : XC := (.sO [.bn p187 .lss q186 q185 .b] (.seq (.cond q187 .skip (.exit 5)) (.seq (.block 6 (.seq (.oX [.mv p188 q186 tI, .mv p9 q188 tI]) (.ops true (XL.of [.fa p189 1 q3, .ld p190 q189 .v, .mv p191 q9 tI, .ld p192 q2 .v, .fa p193 1 q3, .ld p194 q193 .v, .mv p195 q9 tI, .P p196 (.iaddr (.sl 8) q194 q195) .v, .L p197 (.cells 8 q196) .v, .o ⟨(some p198), (.call (.fn 83) [q192, q197]), none, [⟨none, .cell q189, p190⟩]⟩ .v, .P p199 (.iaddr (.sl 8) q190 q191) .v, .ss 8 q199 q198])))) (.s (.oX [.bn p200 .add q186 (ci 1) tI, .mv p186 q200 tI])))))
def v86_4 : List Pos := [p2, p3, p4, p17, p127]
def c86_4 : XC := (.cond q127 (.s (.ops true (XL.of [.ld p130 q2 .v, .P p131 (.nilck q130) .v, .fa p132 3 q131, .ld p133 q132 tI, .bn p134 .gtr q133 (ci 0) .b, .fa p135 6 q3, .ld p136 q135 tI, .cl p137 30 [q134, (ci 14), q136] .v]))) (.sO [.bn p139 .eql q17 (ci 7) .b, .mv p138 q139 .b] (.cond q138 (.sO [.fa p140 1 q3, .ld p141 q140 .v, .P p142 (.lenl q141) tI, .mv p143 (ci 0) tI] (.block 3 (.loop v86_5 c86_5b))) (.sO [.bn p159 .eql q17 (ci 8) .b, .mv p158 q159 .b] (.cond q158 (.seq (.ops true (XL.of [.ld p161 q2 .v, .P p162 (.nilck q161) .v, .fa p163 0 q162, .ld p164 q163 .v, .ld p165 q2 .v, .P p166 (.nilck q165) .v, .fa p167 0 q166, .ld p168 q167 .v, .P p169 (.lenl q168) tI, .bn p170 .sub q169 (ci 1) tI, .P p171 (.iaddr (.sl 1) q164 q170) .v, .ld p172 q171 .v, .fa p173 3 q3, .ld p174 q173 .s, .L p175 (.look .str (.agg [(.bool false), (.bool false), (.bool false), (.str []), (kI 0), (kI 0), .nils, (.bool false), .nils, (kI 0), .nils, .nils, (.str []), (kI 0), (kI 0), (kI 0), (kI 0), (.str [])]) true q172 q174) .v, .mv p160 q175 .v, .P p176 (.ext q160 0) .v, .P p177 (.ext q160 1) .b, .al p7 (.new [(.bool false), (.bool false), (.bool false), (.str []), (kI 0), (kI 0), .nils, (.bool false), .nils, (kI 0), .nils, .nils, (.str []), (kI 0), (kI 0), (kI 0), (kI 0), (.str [])]), .ss 18 q7 q176, .mv p8 q177 .b])) (.sO [.mv p178 q8 .b, .P p179 (.un .not q178) .b, .fa p180 6 q3, .ld p181 q180 tI, .cl p182 30 [q179, (ci 13), q181] .v] (.sj v86_6 (.sO [.fa p183 1 q3, .ld p184 q183 .v, .P p185 (.lenl q184) tI, .mv p186 (ci 0) tI] (.block 5 (.loop v86_12 c86_12b))) c86_6))) (.s .skip))))))
def v86_1 : List Pos := [p2, p3, p4, p17, p49]
def c86_1 : XC := (.cond q49 (.seq (.ops true (XL.of [.fa p52 1 q3, .ld p53 q52 .v, .ld p54 q2 .v, .fa p55 1 q3, .ld p56 q55 .v, .P p57 (.iaddr (.sl 8) q56 (ci 0)) .v, .L p58 (.cells 8 q57) .v, .fa p59 1 q3, .ld p60 q59 .v, .P p61 (.iaddr (.sl 8) q60 (ci 0)) .v, .fa p62 7 q61, .ld p63 q62 tI, .o ⟨(some p64), (.call (.fn 58) [q54, q58, (ci 1), q63]), none, [⟨none, .cell q52, p53⟩]⟩ .v, .P p65 (.iaddr (.sl 8) q53 (ci 0)) .v, .ss 8 q65 q64])) (.sj v86_2 (.sO [.fa p66 0 q3, .ld p67 q66 tI, .bn p68 .eql q67 (ci 3) .b] (.cond q68 (.sO [.ld p69 q2 .v, .P p70 (.nilck q69) .v, .fa p71 3 q70, .ld p72 q71 tI, .bn p73 .add q72 (ci 1) tI, .P p74 (.nilck q69) .v, .fa p75 3 q74, .st q75 q73] (.s (.oX [.P p76 (.mkfn 113 [] [q2]) .v, .o ⟨none, (.defer (.val q76) []), none, []⟩ .v]))) (.s .skip))) c86_2)) (.sO [.bn p83 .eql q17 (ci 4) .b, .mv p82 q83 .b] (.cond q82 (.seq (.ops true (XL.of [.fa p84 1 q3, .ld p85 q84 .v, .P p86 (.lenl q85) tI, .bn p87 .gtr q86 (ci 0) .b, .ld p88 q2 .v, .P p89 (.nilck q88) .v, .fa p90 1 q89, .ld p91 q90 tI, .bn p92 .neq q91 (ci 0) .b, .P p93 (.eqb false q87 q92) .b, .mv p94 q93 .b, .ge p94 (XL.of [.G p94 false p95 (.faddr 1 q3) .v, .o ⟨(some p96), (.l (.cell q95)), (some (p94, false)), []⟩ .v, .G p94 false p97 (.lenl q96) tI, .G p94 false p98 (.bin .gtr q97 (ci 0)) .b, .P p99 (.pick q94 (cb true) q98) .b]) p99 .b, .fa p100 6 q3, .ld p101 q100 tI, .cl p102 30 [q99, (ci 14), q101] .v])) (.sO [.fa p103 1 q3, .ld p104 q103 .v, .P p105 (.lenl q104) tI, .mv p106 (ci 0) tI] (.block 1 (.loop v86_3 c86_3b)))) (.sj v86_4 (.sO [.bn p128 .eql q17 (ci 5) .b, .mv p127 q128 .b] (.cond q127 (.s .skip) (.s (.oX [.bn p129 .eql q17 (ci 6) .b, .mv p127 q129 .b])))) c86_4))))
def c86_e : XC := (.sO [.al p2 (.box q0), .al p3 (.box q1), .al p4 (.new [(kI 0), .nils, .nils, (.str []), (kI 0), (kI 0), (kI 0)])] (.sO [.fa p12 1 q3, .ld p13 q12 .v, .cl p14 57 [q13] .v, .fa p15 1 q3, .st q15 q14] (.sj v86_0 (.sO [.fa p16 0 q3, .ld p17 q16 tI] (.block 0 (.sO [.bn p19 .eql q17 (ci 1) .b, .mv p18 q19 .b] (.cond q18 (.seq (.ops true (XL.of [.ld p20 q2 .v, .ld p21 q2 .v, .P p22 (.nilck q21) .v, .fa p23 0 q22, .ld p24 q23 .v, .al p25 (.mkmap), .al p26 (.bsl [.nilm] 1 [⟨0, 1, q25⟩]), .o ⟨(some p27), (.e (.app 1 8 q24 q26)), none, [⟨none, .cell q2, p20⟩]⟩ .v, .P p28 (.nilck q20) .v, .fa p29 0 q28, .st q29 q27])) (.sO [.ld p30 q2 .v, .fa p31 2 q3, .ld p32 q31 .v, .cl p33 59 [q30, q32] .v, .fa p34 2 q3, .st q34 q33] (.s (.ops true (XL.of [.ld p35 q2 .v, .ld p36 q2 .v, .P p37 (.nilck q36) .v, .fa p38 0 q37, .ld p39 q38 .v, .ld p40 q2 .v, .P p41 (.nilck q40) .v, .fa p42 0 q41, .ld p43 q42 .v, .P p44 (.lenl q43) tI, .bn p45 .sub q44 (ci 1) tI, .P p46 (.slice (.sl 1) q39 none (some q45) none) .v, .P p47 (.nilck q35) .v, .fa p48 0 q47, .st q48 q46]))))) (.sj v86_1 (.sO [.bn p50 .eql q17 (ci 2) .b, .mv p49 q50 .b] (.cond q49 (.s .skip) (.s (.oX [.bn p51 .eql q17 (ci 3) .b, .mv p49 q51 .b])))) c86_1))))) c86_0)))
def x86 : XFn := ⟨[.v, .v], false, [(.cells 7 p4)], c86_e⟩
def e86_0 (k : St → Res2) (t3 t4 : AV) (h : HP) (df : List ADef) : Res2 := k ⟨mkT [(p3, t3), (p4, t4)], h, df, .no⟩
def S86_0 (D : CallD) (m : Nat) (t3 t4 : AV) (h : HP) (df : List ADef) : Res2 :=
 cellsC 7 t3 h fun t259 =>
 stsC 7 t4 t259 h fun h19 =>
 XFn.endOf x86 D (.ret ⟨(mkT [(p4, t4)]), h19, df, .no⟩)
def e86_2 (k : St → Res2) (t2 t3 t4 : AV) (h : HP) (df : List ADef) : Res2 := k ⟨mkT [(p2, t2), (p3, t3), (p4, t4)], h, df, .no⟩
def S86_2 (D : CallD) (m : Nat) (t2 t3 t4 : AV) (h : HP) (df : List ADef) : Res2 :=
 cellC t2 h fun t77 =>
 faC 2 t3 fun t78 =>
 cellC t78 h fun t79 =>
 calC D 114 [t77, t79] h (fun t80 h29 =>
 faC 2 t3 fun t81 =>
 stoC t81 t80 h29 fun h30 =>
 S86_0 D m t3 t4 h30 df) (fun ch29 gh29 => XFn.endOf x86 D (.panic ch29 ⟨(mkT [(p4, t4)]), gh29, df, .no⟩))
def e86_3 (k : St → Res2) (t2 t3 t4 : AV) (t105 t106 : Int) (h : HP) (df : List ADef) : Res2 := k ⟨mkT [(p2, t2), (p3, t3), (p4, t4), (p105, (vI t105)), (p106, (vI t106))], h, df, .no⟩
def S86_3b (D : CallD) (m : Nat) (g3 : AV → AV → AV → Int → Int → HP → List ADef → Res2) (t2 t3 t4 : AV) (t105 t106 : Int) (h : HP) (df : List ADef) : Res2 :=
 let t107 := ltQ t106 t105
 br t107 (
 faC 1 t3 fun t109 =>
 cellC t109 h fun t110 =>
 cellC t2 h fun t112 =>
 faC 1 t3 fun t113 =>
 cellC t113 h fun t114 =>
 iasC 8 t114 (vI t106) fun t116 =>
 cellsC 8 t116 h fun t117 =>
 cellC t2 h fun t118 =>
 nilckC t118 fun t119 =>
 faC 1 t119 fun t120 =>
 ldI t120 h fun t121 =>
 faC 6 t3 fun t122 =>
 ldI t122 h fun t123 =>
 calC D 58 [t112, t117, (vI t121), (vI t123)] h (fun t124 h34 =>
 br (again [⟨none, .cell q109, p110⟩] (mkT [(p110, t110), (p109, t109)]) h34) (
 iasC 8 t110 (vI t106) fun t125 =>
 stsC 8 t125 t124 h34 fun h35 =>
 let t126 := wrQ .i64 (addQ t106 (Int.ofNat 1))
 g3 t2 t3 t4 t105 t126 h35 df) none) (fun ch34 gh34 => XFn.endOf x86 D (.panic ch34 ⟨(mkT [(p4, t4)]), gh34, df, .no⟩))) (
 S86_0 D m t3 t4 h df)
def S86_3 (D : CallD) (m : Nat) : AV → AV → AV → Int → Int → HP → List ADef → Res2 := nrec (fun _ _ _ _ _ _ _ => none) (fun _ g => S86_3b D m g) m
def e86_5 (k : St → Res2) (t2 t3 t4 : AV) (t142 t143 : Int) (h : HP) (df : List ADef) : Res2 := k ⟨mkT [(p2, t2), (p3, t3), (p4, t4), (p142, (vI t142)), (p143, (vI t143))], h, df, .no⟩
def S86_5b (D : CallD) (m : Nat) (g5 : AV → AV → AV → Int → Int → HP → List ADef → Res2) (t2 t3 t4 : AV) (t142 t143 : Int) (h : HP) (df : List ADef) : Res2 :=
 let t144 := ltQ t143 t142
 br t144 (
 faC 1 t3 fun t146 =>
 cellC t146 h fun t147 =>
 cellC t2 h fun t149 =>
 faC 1 t3 fun t150 =>
 cellC t150 h fun t151 =>
 iasC 8 t151 (vI t143) fun t153 =>
 cellsC 8 t153 h fun t154 =>
 calC D 83 [t149, t154] h (fun t155 h37 =>
 br (again [⟨none, .cell q146, p147⟩] (mkT [(p147, t147), (p146, t146)]) h37) (
 iasC 8 t147 (vI t143) fun t156 =>
 stsC 8 t156 t155 h37 fun h38 =>
 let t157 := wrQ .i64 (addQ t143 (Int.ofNat 1))
 g5 t2 t3 t4 t142 t157 h38 df) none) (fun ch37 gh37 => XFn.endOf x86 D (.panic ch37 ⟨(mkT [(p4, t4)]), gh37, df, .no⟩))) (
 S86_0 D m t3 t4 h df)
def S86_5 (D : CallD) (m : Nat) : AV → AV → AV → Int → Int → HP → List ADef → Res2 := nrec (fun _ _ _ _ _ _ _ => none) (fun _ g => S86_5b D m g) m
def e86_9 (k : St → Res2) (t2 t3 t4 : AV) (h : HP) (df : List ADef) : Res2 := k ⟨mkT [(p2, t2), (p3, t3), (p4, t4)], h, df, .no⟩
def S86_9 (D : CallD) (m : Nat) (t2 t3 t4 : AV) (h : HP) (df : List ADef) : Res2 :=
 cellC t2 h fun t249 =>
 faC 3 t3 fun t250 =>
 ldS t250 h fun t251 =>
 faC 4 t3 fun t252 =>
 ldI t252 h fun t253 =>
 faC 5 t3 fun t254 =>
 ldI t254 h fun t255 =>
 let t256 := (AV.agg [(vB false), (vB false), (vB false), (vS t251), (vI t253), (vI t255), (.nils : AV), (vB false), (.nils : AV), (vI (Int.ofNat 0)), (.nils : AV), (.nils : AV), (vS ([] : LN)), (vI (Int.ofNat 0)), (vI (Int.ofNat 0)), (vI (Int.ofNat 0)), (vI (Int.ofNat 0))])
 calC D 56 [t249, t256] h (fun t257 h43 =>
 asS t257 fun t257a =>
 faC 3 t3 fun t258 =>
 stoC t258 (vS t257a) h43 fun h44 =>
 S86_0 D m t3 t4 h44 df) (fun ch43 gh43 => XFn.endOf x86 D (.panic ch43 ⟨(mkT [(p4, t4)]), gh43, df, .no⟩))
def e86_10 (k : St → Res2) (t2 t3 t4 : AV) (t225 t226 : Int) (h : HP) (df : List ADef) : Res2 := k ⟨mkT [(p2, t2), (p3, t3), (p4, t4), (p225, (vI t225)), (p226, (vI t226))], h, df, .no⟩
def S86_10b (D : CallD) (m : Nat) (g10 : AV → AV → AV → Int → Int → HP → List ADef → Res2) (t2 t3 t4 : AV) (t225 t226 : Int) (h : HP) (df : List ADef) : Res2 :=
 let t227 := ltQ t226 t225
 br t227 (
 faC 1 t3 fun t230 =>
 cellC t230 h fun t231 =>
 faC 1 t3 fun t233 =>
 cellC t233 h fun t234 =>
 iasC 8 t234 (vI t226) fun t236 =>
 cellsC 8 t236 h fun t237 =>
 faC 4 t3 fun t238 =>
 ldI t238 h fun t239 =>
 calC D 84 [t237, (vI t239)] h (fun t240 h45 =>
 br (again [⟨none, .cell q230, p231⟩] (mkT [(p231, t231), (p230, t230)]) h45) (
 extC t240 0 fun t241 =>
 extC t240 1 fun vt242 => asB vt242 fun t242 =>
 iasC 8 t231 (vI t226) fun t243 =>
 stsC 8 t243 t241 h45 fun h46 =>
 faC 6 t3 fun t245 =>
 ldI t245 h46 fun t246 =>
 calC D 30 [(vB t242), (vI (Int.ofNat 14)), (vI t246)] h46 (fun t247 h47 =>
 let t248 := wrQ .i64 (addQ t226 (Int.ofNat 1))
 g10 t2 t3 t4 t225 t248 h47 df) (fun ch47 gh47 => XFn.endOf x86 D (.panic ch47 ⟨(mkT [(p4, t4)]), gh47, df, .no⟩))) none) (fun ch45 gh45 => XFn.endOf x86 D (.panic ch45 ⟨(mkT [(p4, t4)]), gh45, df, .no⟩))) (
 S86_9 D m t2 t3 t4 h df)
def S86_10 (D : CallD) (m : Nat) : AV → AV → AV → Int → Int → HP → List ADef → Res2 := nrec (fun _ _ _ _ _ _ _ => none) (fun _ g => S86_10b D m g) m
def e86_8 (k : St → Res2) (t2 t3 t4 : AV) (t219 : Bool) (t221 : Int) (h : HP) (df : List ADef) : Res2 := k ⟨mkT [(p2, t2), (p3, t3), (p4, t4), (p219, (vB t219)), (p221, (vI t221))], h, df, .no⟩
def S86_8 (D : CallD) (m : Nat) (t2 t3 t4 : AV) (t219 : Bool) (t221 : Int) (h : HP) (df : List ADef) : Res2 :=
 calC D 30 [(vB t219), (vI (Int.ofNat 14)), (vI t221)] h (fun t222 h42 =>
 faC 1 t3 fun t223 =>
 cellC t223 h42 fun t224 =>
 lenC t224 fun vt225 => asI .i64 vt225 fun t225 =>
 S86_10 D m t2 t3 t4 t225 (Int.ofNat 0) h42 df) (fun ch42 gh42 => XFn.endOf x86 D (.panic ch42 ⟨(mkT [(p4, t4)]), gh42, df, .no⟩))
def e86_7 (k : St → Res2) (t2 t3 t4 : AV) (t204 t218 : Bool) (t221 : Int) (h : HP) (df : List ADef) : Res2 := k ⟨mkT [(p2, t2), (p3, t3), (p4, t4), (p204, (vB t204)), (p218, (vB t218)), (p221, (vI t221))], h, df, .no⟩
def S86_7 (D : CallD) (m : Nat) (t2 t3 t4 : AV) (t204 t218 : Bool) (t221 : Int) (h : HP) (df : List ADef) : Res2 :=
 obB (brV t204 (some (vB t218)) (some (vB false))) fun t219 =>
 S86_8 D m t2 t3 t4 t219 t221 h df
def e86_6 (k : St → Res2) (t2 t3 t4 : AV) (h : HP) (df : List ADef) : Res2 := k ⟨mkT [(p2, t2), (p3, t3), (p4, t4)], h, df, .no⟩
def S86_6 (D : CallD) (m : Nat) (t2 t3 t4 : AV) (h : HP) (df : List ADef) : Res2 :=
 faC 4 t3 fun t201 =>
 ldI t201 h fun t202 =>
 let t203 := notQ (eqQ t202 (Int.ofNat 0))
 br t203 (
 faC 5 t3 fun t205 =>
 ldI t205 h fun t206 =>
 let t207 := eqQ t206 (Int.ofNat 0)
 br t207 (
 faC 6 t3 fun t220 =>
 ldI t220 h fun t221 =>
 S86_7 D m t2 t3 t4 true true t221 h df) (
 faC 4 t3 fun t209 =>
 ldI t209 h fun t210 =>
 faC 6 t3 fun t220 =>
 ldI t220 h fun t221 =>
 calC D 54 [(vI t210)] h (fun t211 h48 =>
 br (again [⟨none, .cell q220, p221⟩] (mkT [(p221, (vI t221)), (p220, t220)]) h48) (
 asB t211 fun t211a =>
 obB (brV t211a (
 faCV 1 t3 fun t213 =>
 cellCV t213 h48 fun t214 =>
 lenCV t214 fun vt215 => asIV .i64 vt215 fun t215 =>
 let t216 := eqQ t215 (Int.ofNat 0)
 some (vB t216)) (
 some (vB false))) fun t217 =>
 S86_7 D m t2 t3 t4 true t217 t221 h48 df) none) (fun ch48 gh48 => XFn.endOf x86 D (.panic ch48 ⟨(mkT [(p4, t4)]), gh48, df, .no⟩)))) (
 faC 6 t3 fun t220 =>
 ldI t220 h fun t221 =>
 S86_8 D m t2 t3 t4 false t221 h df)
def e86_12 (k : St → Res2) (t2 t3 t4 : AV) (t185 t186 : Int) (h : HP) (df : List ADef) : Res2 := k ⟨mkT [(p2, t2), (p3, t3), (p4, t4), (p185, (vI t185)), (p186, (vI t186))], h, df, .no⟩
def S86_12b (D : CallD) (m : Nat) (g12 : AV → AV → AV → Int → Int → HP → List ADef → Res2) (t2 t3 t4 : AV) (t185 t186 : Int) (h : HP) (df : List ADef) : Res2 :=
 let t187 := ltQ t186 t185
 br t187 (
 faC 1 t3 fun t189 =>
 cellC t189 h fun t190 =>
 cellC t2 h fun t192 =>
 faC 1 t3 fun t193 =>
 cellC t193 h fun t194 =>
 iasC 8 t194 (vI t186) fun t196 =>
 cellsC 8 t196 h fun t197 =>
 calC D 83 [t192, t197] h (fun t198 h49 =>
 br (again [⟨none, .cell q189, p190⟩] (mkT [(p190, t190), (p189, t189)]) h49) (
 iasC 8 t190 (vI t186) fun t199 =>
 stsC 8 t199 t198 h49 fun h50 =>
 let t200 := wrQ .i64 (addQ t186 (Int.ofNat 1))
 g12 t2 t3 t4 t185 t200 h50 df) none) (fun ch49 gh49 => XFn.endOf x86 D (.panic ch49 ⟨(mkT [(p4, t4)]), gh49, df, .no⟩))) (
 S86_6 D m t2 t3 t4 h df)
def S86_12 (D : CallD) (m : Nat) : AV → AV → AV → Int → Int → HP → List ADef → Res2 := nrec (fun _ _ _ _ _ _ _ => none) (fun _ g => S86_12b D m g) m
def e86_4 (k : St → Res2) (t2 t3 t4 : AV) (t17 : Int) (t127 : Bool) (h : HP) (df : List ADef) : Res2 := k ⟨mkT [(p2, t2), (p3, t3), (p4, t4), (p17, (vI t17)), (p127, (vB t127))], h, df, .no⟩
def S86_4 (D : CallD) (m : Nat) (t2 t3 t4 : AV) (t17 : Int) (t127 : Bool) (h : HP) (df : List ADef) : Res2 :=
 br t127 (
 cellC t2 h fun t130 =>
 nilckC t130 fun t131 =>
 faC 3 t131 fun t132 =>
 ldI t132 h fun t133 =>
 let t134 := ltQ (Int.ofNat 0) t133
 faC 6 t3 fun t135 =>
 ldI t135 h fun t136 =>
 calC D 30 [(vB t134), (vI (Int.ofNat 14)), (vI t136)] h (fun t137 h36 =>
 S86_0 D m t3 t4 h36 df) (fun ch36 gh36 => XFn.endOf x86 D (.panic ch36 ⟨(mkT [(p4, t4)]), gh36, df, .no⟩))) (
 let t139 := eqQ t17 (Int.ofNat 7)
 br t139 (
 faC 1 t3 fun t140 =>
 cellC t140 h fun t141 =>
 lenC t141 fun vt142 => asI .i64 vt142 fun t142 =>
 S86_5 D m t2 t3 t4 t142 (Int.ofNat 0) h df) (
 let t159 := eqQ t17 (Int.ofNat 8)
 br t159 (
 cellC t2 h fun t161 =>
 nilckC t161 fun t162 =>
 faC 0 t162 fun t163 =>
 cellC t163 h fun t164 =>
 cellC t2 h fun t165 =>
 nilckC t165 fun t166 =>
 faC 0 t166 fun t167 =>
 cellC t167 h fun t168 =>
 lenC t168 fun vt169 => asI .i64 vt169 fun t169 =>
 let t170 := wrQ .i64 (t169 - (Int.ofNat 1))
 iasC 1 t164 (vI t170) fun t171 =>
 cellC t171 h fun t172 =>
 faC 3 t3 fun t173 =>
 ldS t173 h fun t174 =>
 obQ (evL (.look .str (.agg [(.bool false), (.bool false), (.bool false), (.str []), (kI 0), (kI 0), .nils, (.bool false), .nils, (kI 0), .nils, .nils, (.str []), (kI 0), (kI 0), (kI 0), (kI 0), (.str [])]) true (.c t172) (.c (vS t174))) .leaf h) fun t175 =>
 extC t175 0 fun t176 =>
 extC t175 1 fun vt177 => asB vt177 fun t177 =>
 let t7 := AV.ptr (HP.nxQ h) 0
 let h39 := HP.newQ h (.cells true [(.bool false), (.bool false), (.bool false), (.str []), (kI 0), (kI 0), .nils, (.bool false), .nils, (kI 0), .nils, .nils, (.str []), (kI 0), (kI 0), (kI 0), (kI 0), (.str [])])
 stsC 18 t7 t176 h39 fun h40 =>
 let t179 := !t177
 faC 6 t3 fun t180 =>
 ldI t180 h40 fun t181 =>
 calC D 30 [(vB t179), (vI (Int.ofNat 13)), (vI t181)] h40 (fun t182 h41 =>
 faC 1 t3 fun t183 =>
 cellC t183 h41 fun t184 =>
 lenC t184 fun vt185 => asI .i64 vt185 fun t185 =>
 S86_12 D m t2 t3 t4 t185 (Int.ofNat 0) h41 df) (fun ch41 gh41 => XFn.endOf x86 D (.panic ch41 ⟨(mkT [(p4, t4)]), gh41, df, .no⟩))) (
 S86_0 D m t3 t4 h df)))
def e86_1 (k : St → Res2) (t2 t3 t4 : AV) (t17 : Int) (t49 : Bool) (h : HP) (df : List ADef) : Res2 := k ⟨mkT [(p2, t2), (p3, t3), (p4, t4), (p17, (vI t17)), (p49, (vB t49))], h, df, .no⟩
def S86_1 (D : CallD) (m : Nat) (t2 t3 t4 : AV) (t17 : Int) (t49 : Bool) (h : HP) (df : List ADef) : Res2 :=
 br t49 (
 faC 1 t3 fun t52 =>
 cellC t52 h fun t53 =>
 cellC t2 h fun t54 =>
 faC 1 t3 fun t55 =>
 cellC t55 h fun t56 =>
 iasC 8 t56 (vI (Int.ofNat 0)) fun t57 =>
 cellsC 8 t57 h fun t58 =>
 faC 1 t3 fun t59 =>
 cellC t59 h fun t60 =>
 iasC 8 t60 (vI (Int.ofNat 0)) fun t61 =>
 faC 7 t61 fun t62 =>
 ldI t62 h fun t63 =>
 calC D 58 [t54, t58, (vI (Int.ofNat 1)), (vI t63)] h (fun t64 h27 =>
 br (again [⟨none, .cell q52, p53⟩] (mkT [(p53, t53), (p52, t52)]) h27) (
 iasC 8 t53 (vI (Int.ofNat 0)) fun t65 =>
 stsC 8 t65 t64 h27 fun h28 =>
 faC 0 t3 fun t66 =>
 ldI t66 h28 fun t67 =>
 let t68 := eqQ t67 (Int.ofNat 3)
 br t68 (
 cellC t2 h28 fun t69 =>
 nilckC t69 fun t70 =>
 faC 3 t70 fun t71 =>
 ldI t71 h28 fun t72 =>
 let t73 := wrQ .i64 (addQ t72 (Int.ofNat 1))
 nilckC t69 fun t74 =>
 faC 3 t74 fun t75 =>
 stoC t75 (vI t73) h28 fun h31 =>
 let t76 := (AV.fn 113 [] [t2])
 let d32 : List ADef := ⟨113, [t2]⟩ :: df
 S86_2 D m t2 t3 t4 h31 d32) (
 S86_2 D m t2 t3 t4 h28 df)) none) (fun ch27 gh27 => XFn.endOf x86 D (.panic ch27 ⟨(mkT [(p4, t4)]), gh27, df, .no⟩))) (
 let t83 := eqQ t17 (Int.ofNat 4)
 br t83 (
 faC 1 t3 fun t84 =>
 cellC t84 h fun t85 =>
 lenC t85 fun vt86 => asI .i64 vt86 fun t86 =>
 let t87 := ltQ (Int.ofNat 0) t86
 cellC t2 h fun t88 =>
 nilckC t88 fun t89 =>
 faC 1 t89 fun t90 =>
 ldI t90 h fun t91 =>
 let t92 := notQ (eqQ t91 (Int.ofNat 0))
 let t93 := ((t87 == t92) != false)
 obB (brV t93 (
 some (vB true)) (
 faCV 1 t3 fun t95 =>
 cellCV t95 h fun t96 =>
 lenCV t96 fun vt97 => asIV .i64 vt97 fun t97 =>
 let t98 := ltQ (Int.ofNat 0) t97
 some (vB t98))) fun t99 =>
 faC 6 t3 fun t100 =>
 ldI t100 h fun t101 =>
 calC D 30 [(vB t99), (vI (Int.ofNat 14)), (vI t101)] h (fun t102 h33 =>
 faC 1 t3 fun t103 =>
 cellC t103 h33 fun t104 =>
 lenC t104 fun vt105 => asI .i64 vt105 fun t105 =>
 S86_3 D m t2 t3 t4 t105 (Int.ofNat 0) h33 df) (fun ch33 gh33 => XFn.endOf x86 D (.panic ch33 ⟨(mkT [(p4, t4)]), gh33, df, .no⟩))) (
 let t128 := eqQ t17 (Int.ofNat 5)
 br t128 (
 S86_4 D m t2 t3 t4 t17 t128 h df) (
 let t129 := eqQ t17 (Int.ofNat 6)
 S86_4 D m t2 t3 t4 t17 t129 h df)))
def e86_13 (k t0 t1 h) := kN k [(p0, t0), (p1, t1)] h
def S86_13 (D : CallD) (m : Nat) (t0 t1 : AV) (h : HP) : Res2 :=
 let t2 := AV.ptr (HP.nxQ h) 0
 let h14 := HP.newQ h (.cells true (AV.cells t0))
 let t3 := AV.ptr (HP.nxQ h14) 0
 let h15 := HP.newQ h14 (.cells true (AV.cells t1))
 let t4 := AV.ptr (HP.nxQ h15) 0
 let h16 := HP.newQ h15 (.cells true [(kI 0), .nils, .nils, (.str []), (kI 0), (kI 0), (kI 0)])
 let t12 := (AV.ptr (HP.nxQ h14) (Nat.add 0 1))
 cellC t12 h16 fun t13 =>
 calC D 57 [t13] h16 (fun t14 h17 =>
 let t15 := (AV.ptr (HP.nxQ h14) (Nat.add 0 1))
 stoC t15 t14 h17 fun h18 =>
 let t16 := (AV.ptr (HP.nxQ h14) (Nat.add 0 0))
 ldI t16 h18 fun t17 =>
 let t19 := eqQ t17 (Int.ofNat 1)
 br t19 (
 cellC t2 h18 fun t20 =>
 cellC t2 h18 fun t21 =>
 nilckC t21 fun t22 =>
 faC 0 t22 fun t23 =>
 cellC t23 h18 fun t24 =>
 let t25 := AV.map (HP.nxQ h18)
 let h20 := HP.newQ h18 (.map [] 0)
 let t26 := AV.slice (HP.nxQ h20) 0 1 (.exact 1)
 let h21 := HP.newQ h20 (.cells true [t25])
 eff (.app 1 8 (.c t24) (.c t26)) h21 fun t27 h22 =>
 br (againE (.app 1 8 q24 q26) [⟨none, .cell q2, p20⟩] (mkT [(p20, t20), (p2, t2)]) h22) (
 nilckC t20 fun t28 =>
 faC 0 t28 fun t29 =>
 stoC t29 t27 h22 fun h23 =>
 cellC t2 h23 fun t30 =>
 let t31 := (AV.ptr (HP.nxQ h14) (Nat.add 0 2))
 cellC t31 h23 fun t32 =>
 calC D 59 [t30, t32] h23 (fun t33 h24 =>
 let t34 := (AV.ptr (HP.nxQ h14) (Nat.add 0 2))
 stoC t34 t33 h24 fun h25 =>
 cellC t2 h25 fun t35 =>
 cellC t2 h25 fun t36 =>
 nilckC t36 fun t37 =>
 faC 0 t37 fun t38 =>
 cellC t38 h25 fun t39 =>
 cellC t2 h25 fun t40 =>
 nilckC t40 fun t41 =>
 faC 0 t41 fun t42 =>
 cellC t42 h25 fun t43 =>
 lenC t43 fun vt44 => asI .i64 vt44 fun t44 =>
 let t45 := wrQ .i64 (t44 - (Int.ofNat 1))
 obQ (evP (.slice (.sl 1) (.c t39) none (some (.c (vI t45))) none) .leaf) fun t46 =>
 nilckC t35 fun t47 =>
 faC 0 t47 fun t48 =>
 stoC t48 t46 h25 fun h26 =>
 S86_0 D m t3 t4 h26 []) (fun ch24 gh24 => XFn.endOf x86 D (.panic ch24 ⟨(mkT [(p4, t4)]), gh24, [], .no⟩))) none) (
 let t50 := eqQ t17 (Int.ofNat 2)
 br t50 (
 S86_1 D m t2 t3 t4 t17 t50 h18 []) (
 let t51 := eqQ t17 (Int.ofNat 3)
 S86_1 D m t2 t3 t4 t17 t51 h18 []))) (fun ch17 gh17 => XFn.endOf x86 D (.panic ch17 ⟨(mkT [(p4, t4)]), gh17, [], .no⟩))
def S86 : SFn := fun D m args h u => nou u <| popV args fun t0 args => popV args fun t1 args => endA args (S86_13 D m t0 t1 h)
theorem T86_0 (hE : FX x86 D m E) : S86_0 D m = e86_0 (E c86_0 []) := by unfold S86_0; rw [hE c86_0]; kernel_rfl
theorem T86_2 (hE : FX x86 D m E) : S86_2 D m = e86_2 (E c86_2 [.blk 0, .sj v86_0 c86_0]) := by unfold S86_2; rw [T86_0 hE, hE c86_2]; kernel_rfl
theorem T86_3b (hE : FX x86 D m E) (G3) : S86_3b D m (e86_3 G3) = e86_3 (E c86_3b [.lp v86_3 G3, .blk 1, .blk 0, .sj v86_0 c86_0]) := by unfold S86_3b; rw [T86_0 hE, hE c86_3b]; kernel_rfl
theorem T86_3 (hE : FX x86 D m E) : S86_3 D m = e86_3 (nrec (fun _ => none) (fun _ G3 st => E c86_3b [.lp v86_3 G3, .blk 1, .blk 0, .sj v86_0 c86_0] st) m) :=
  nrec_emb e86_3 (fun _ _ _ _ _ _ _ => none) (fun g => S86_3b D m g) (fun G3 st => E c86_3b [.lp v86_3 G3, .blk 1, .blk 0, .sj v86_0 c86_0] st) rfl (fun g => T86_3b hE g) m
theorem T86_5b (hE : FX x86 D m E) (G5) : S86_5b D m (e86_5 G5) = e86_5 (E c86_5b [.lp v86_5 G5, .blk 3, .blk 0, .sj v86_0 c86_0]) := by unfold S86_5b; rw [T86_0 hE, hE c86_5b]; kernel_rfl
theorem T86_5 (hE : FX x86 D m E) : S86_5 D m = e86_5 (nrec (fun _ => none) (fun _ G5 st => E c86_5b [.lp v86_5 G5, .blk 3, .blk 0, .sj v86_0 c86_0] st) m) :=
  nrec_emb e86_5 (fun _ _ _ _ _ _ _ => none) (fun g => S86_5b D m g) (fun G5 st => E c86_5b [.lp v86_5 G5, .blk 3, .blk 0, .sj v86_0 c86_0] st) rfl (fun g => T86_5b hE g) m
theorem T86_9 (hE : FX x86 D m E) : S86_9 D m = e86_9 (E c86_9 [.blk 0, .sj v86_0 c86_0]) := by unfold S86_9; rw [T86_0 hE, hE c86_9]; kernel_rfl
theorem T86_10b (hE : FX x86 D m E) (G10) : S86_10b D m (e86_10 G10) = e86_10 (E c86_10b [.lp v86_10 G10, .blk 7, .sj v86_9 c86_9, .blk 0, .sj v86_0 c86_0]) := by unfold S86_10b; rw [T86_9 hE, hE c86_10b]; kernel_rfl
theorem T86_10 (hE : FX x86 D m E) : S86_10 D m = e86_10 (nrec (fun _ => none) (fun _ G10 st => E c86_10b [.lp v86_10 G10, .blk 7, .sj v86_9 c86_9, .blk 0, .sj v86_0 c86_0] st) m) :=
  nrec_emb e86_10 (fun _ _ _ _ _ _ _ => none) (fun g => S86_10b D m g) (fun G10 st => E c86_10b [.lp v86_10 G10, .blk 7, .sj v86_9 c86_9, .blk 0, .sj v86_0 c86_0] st) rfl (fun g => T86_10b hE g) m
theorem T86_8 (hE : FX x86 D m E) : S86_8 D m = e86_8 (E (.opq true l86_8 c86_11) [.blk 0, .sj v86_0 c86_0]) := by unfold S86_8; rw [T86_10 hE, hE (.opq true l86_8 c86_11)]; kernel_rfl
theorem T86_7 (hE : FX x86 D m E) : S86_7 D m = e86_7 (E (.opq true l86_7 c86_11) [.blk 0, .sj v86_0 c86_0]) := by unfold S86_7; rw [T86_8 hE, hE (.opq true l86_7 c86_11)]; kernel_rfl
theorem T86_6 (hE : FX x86 D m E) : S86_6 D m = e86_6 (E c86_6 [.blk 0, .sj v86_0 c86_0]) := by unfold S86_6; rw [T86_7 hE, T86_8 hE, hE c86_6]; kernel_rfl
theorem T86_12b (hE : FX x86 D m E) (G12) : S86_12b D m (e86_12 G12) = e86_12 (E c86_12b [.lp v86_12 G12, .blk 5, .sj v86_6 c86_6, .blk 0, .sj v86_0 c86_0]) := by unfold S86_12b; rw [T86_6 hE, hE c86_12b]; kernel_rfl
theorem T86_12 (hE : FX x86 D m E) : S86_12 D m = e86_12 (nrec (fun _ => none) (fun _ G12 st => E c86_12b [.lp v86_12 G12, .blk 5, .sj v86_6 c86_6, .blk 0, .sj v86_0 c86_0] st) m) :=
  nrec_emb e86_12 (fun _ _ _ _ _ _ _ => none) (fun g => S86_12b D m g) (fun G12 st => E c86_12b [.lp v86_12 G12, .blk 5, .sj v86_6 c86_6, .blk 0, .sj v86_0 c86_0] st) rfl (fun g => T86_12b hE g) m
theorem T86_4 (hE : FX x86 D m E) : S86_4 D m = e86_4 (E c86_4 [.blk 0, .sj v86_0 c86_0]) := by unfold S86_4; rw [T86_0 hE, T86_5 hE, T86_12 hE, hE c86_4]; kernel_rfl
theorem T86_1 (hE : FX x86 D m E) : S86_1 D m = e86_1 (E c86_1 [.blk 0, .sj v86_0 c86_0]) := by unfold S86_1; rw [T86_2 hE, T86_3 hE, T86_4 hE, hE c86_1]; kernel_rfl
theorem T86_13 (hE : FX x86 D m E) : S86_13 D m = e86_13 (E c86_e []) := by unfold S86_13; rw [T86_0 hE, T86_1 hE, hE c86_e]; kernel_rfl
theorem X86 : XTie S86 x86 := X_of fun D m E hE args h u => by unfold S86; rw [T86_13 hE]; kernel_rfl
/- 87 -/
def c87_e : XC := (.sO [.mv p4 (ci 0) tI] (.sO [.mv p5 q0 .s, .mv p6 q1 tC, .P p7 (.xt .ixbyte [q5, q6]) tI, .mv p4 q7 tI] (.s .ret)))
def x87 : XFn := ⟨[.s, tC], false, [(.tmp p4)], c87_e⟩
def e87_0 (k t0 t1 h) := kN k [(p0, (vS t0)), (p1, (vC t1))] h
def S87_0 (D : CallD) (m : Nat) (t0 : LN) (t1 : Int) (h : HP) : Res2 :=
 obI .i64 (evP (.xt .ixbyte [(.c (vS t0)), (.c (vC t1))]) .leaf) fun t7 =>
 some (.ret (vI t7) h, .no)
def S87 : SFn := fun D m args h u => nou u <| popS args fun t0 args => popI .u8 args fun t1 args => endA args (S87_0 D m t0 t1 h)
theorem T87_0 (hE : FX x87 D m E) : S87_0 D m = e87_0 (E c87_e []) := by unfold S87_0; rw [hE c87_e]; kernel_rfl
theorem X87 : XTie S87 x87 := X_of fun D m E hE args h u => by unfold S87; rw [T87_0 hE]; kernel_rfl
/- 88 -/
def c88_e : XC := (.sO [.mv p4 (cb false) .b] (.sO [.mv p5 q0 .s, .P p6 (.lens q5) tI, .mv p7 q1 .s, .P p8 (.lens q7) tI, .bn p9 .geq q6 q8 .b, .mv p10 q9 .b, .ge p10 (XL.of [.G p10 true p11 (.mov q0) .s, .G p10 true p12 (.mov q1) .s, .G p10 true p13 (.lens q12) tI, .G p10 true p14 (.slice .str q11 none (some q13) none) .s, .G p10 true p15 (.mov q1) .s, .G p10 true p16 (.bin .eql q14 q15) .b, .P p17 (.pick q10 q16 (cb false)) .b]) p17 .b, .mv p4 q17 .b] (.s .ret)))
def x88 : XFn := ⟨[.s, .s], false, [(.tmp p4)], c88_e⟩
def e88_0 (k t0 t1 h) := kN k [(p0, (vS t0)), (p1, (vS t1))] h
def S88_0 (D : CallD) (m : Nat) (t0 t1 : LN) (h : HP) : Res2 :=
 let t6 := Int.ofNat (lenL t0)
 let t8 := Int.ofNat (lenL t1)
 let t9 := leQ t8 t6
 obB (brV t9 (
 let t13 := Int.ofNat (lenL t1)
 slCV (vS t0) none (some (vI t13)) fun vt14 => asSV vt14 fun t14 =>
 let t16 := eqL t14 t1
 some (vB t16)) (
 some (vB false))) fun t17 =>
 some (.ret (vB t17) h, .no)
def S88 : SFn := fun D m args h u => nou u <| popS args fun t0 args => popS args fun t1 args => endA args (S88_0 D m t0 t1 h)
theorem T88_0 (hE : FX x88 D m E) : S88_0 D m = e88_0 (E c88_e []) := by unfold S88_0; rw [hE c88_e]; kernel_rfl
theorem X88 : XTie S88 x88 := X_of fun D m E hE args h u => by unfold S88; rw [T88_0 hE]; kernel_rfl
/- 90 -/
def v90_0 : List Pos := [p0, p4, p5]
def c90_0 : XC := (.seq (.seq (.oX [.mv p68 q5 .b, .P p69 (.un .not q68) .b, .mv p70 q69 .b, .ge p70 (XL.of [.G p70 false p71 (.mov q4) .s, .G p70 false p72 (.bin .neq q71 (.c (.str []))) .b, .P p73 (.pick q70 (cb true) q72) .b]) p73 .b]) (.cond q73 (.seq (.oX [.mv p2 (.c (.int .u64 (.ofNat 0))) (.i .u64), .mv p3 (ci 2) tI]) .ret) .skip)) (.sO [.mv p75 q0 .s, .cl p76 121 [q75, (ci 64)] .v, .mv p74 q76 .v, .P p77 (.ext q74 0) .v, .P p78 (.ext q74 1) .v, .mv p10 q77 .v, .mv p11 q78 .v] (.sO [.mv p79 q10 .v, .cl p80 122 [q79] (.i .u64), .mv p2 q80 (.i .u64), .mv p3 (ci 0) tI] (.s .ret))))
def v90_1 : List Pos := [p0, p5, p8]
def c90_1 : XC := (.sO [.mv p60 q8 .s, .cl p61 119 [q60] .v, .mv p59 q61 .v, .P p62 (.ext q59 0) .s, .P p63 (.ext q59 1) .b, .mv p4 q62 .s, .mv p7 q63 .b] (.s (.oX [.mv p64 q5 .b, .mv p65 q64 .b, .ge p65 (XL.of [.G p65 true p66 (.mov q7) .b, .P p67 (.pick q65 q66 (cb false)) .b]) p67 .b, .mv p5 q67 .b])))
def c90_e : XC := (.sO [.mv p2 (.c (.int .u64 (.ofNat 0))) (.i .u64), .mv p3 (ci 0) tI] (.sO [.mv p13 q0 .s, .cl p14 119 [q13] .v, .mv p12 q14 .v, .P p15 (.ext q12 0) .s, .P p16 (.ext q12 1) .b, .mv p4 q15 .s, .mv p5 q16 .b] (.sO [.mv p18 q4 .s, .cl p19 120 [q18, (.c (.str [46]))] .v, .mv p17 q19 .v, .P p20 (.ext q17 0) .s, .P p21 (.ext q17 1) .b, .mv p4 q20 .s, .mv p6 q21 .b] (.sO [.mv p23 q4 .s, .cl p24 119 [q23] .v, .mv p22 q24 .v, .P p25 (.ext q22 0) .s, .P p26 (.ext q22 1) .b, .mv p4 q25 .s, .mv p7 q26 .b] (.sO [.mv p27 q5 .b, .mv p28 q27 .b, .ge p28 (XL.of [.G p28 true p29 (.mov q6) .b, .P p30 (.pick q28 q29 (cb false)) .b]) p30 .b, .mv p31 q30 .b, .ge p31 (XL.of [.G p31 true p32 (.mov q7) .b, .P p33 (.pick q31 q32 (cb false)) .b]) p33 .b, .mv p34 q33 .b, .ge p34 (XL.of [.G p34 true p35 (.mov q0) .s, .G p34 true p36 (.lens q35) tI, .G p34 true p37 (.bin .leq q36 (ci 40)) .b, .P p38 (.pick q34 q37 (cb false)) .b]) p38 .b, .mv p5 q38 .b] (.sj v90_0 (.sO [.mv p40 q4 .s, .cl p41 120 [q40, (.c (.str [101]))] .v, .mv p39 q41 .v, .P p42 (.ext q39 0) .s, .P p43 (.ext q39 1) .b, .mv p8 q42 .s, .mv p9 q43 .b] (.sO [.mv p44 q9 .b] (.cond q44 (.sj v90_1 (.sO [.mv p45 q8 .s, .bn p46 .neq q45 (.c (.str [])) .b, .mv p47 q46 .b, .ge p47 (XL.of [.G p47 true p48 (.mov q8) .s, .G p47 true p49 (.idxs q48 (ci 0)) tC, .G p47 true p50 (.bin .eql q49 (.c (.int .u8 (.ofNat 43)))) .b, .G p47 true p51 (.mov q50) .b, .ge p51 (XL.of [.G p51 false p52 (.mov q8) .s, .G p51 false p53 (.idxs q52 (ci 0)) tC, .G p51 false p54 (.bin .eql q53 (.c (.int .u8 (.ofNat 45)))) .b, .G p47 true p55 (.pick q51 (cb true) q54) .b]) p55 .b, .P p56 (.pick q47 q55 (cb false)) .b]) p56 .b] (.cond q56 (.s (.oX [.mv p57 q8 .s, .P p58 (.slice .str q57 (some (ci 1)) none none) .s, .mv p8 q58 .s])) (.s .skip))) c90_1) (.s .skip)))) c90_0))))))
def x90 : XFn := ⟨[.s], false, [(.tmp p2), (.tmp p3)], c90_e⟩
def e90_0 (k t0 t4 t5 h) := kN k [(p0, (vS t0)), (p4, (vS t4)), (p5, (vB t5))] h
def S90_0 (D : CallD) (m : Nat) (t0 t4 : LN) (t5 : Bool) (h : HP) : Res2 :=
 let t69 := !t5
 obB (brV t69 (
 some (vB true)) (
 let t72 := !(eqL t4 ([] : LN))
 some (vB t72))) fun t73 =>
 br t73 (
 some (.ret (.tup [(AV.int .u64 (Int.ofNat 0)), (vI (Int.ofNat 2))]) h, .no)) (
 cal D 121 [(vS t0), (vI (Int.ofNat 64))] h fun t76 h6 =>
 extC t76 0 fun t77 =>
 extC t76 1 fun t78 =>
 cal D 122 [t77] h6 fun t80 h7 =>
 asI .u64 t80 fun t80a =>
 some (.ret (.tup [(AV.int .u64 t80a), (vI (Int.ofNat 0))]) h7, .no))
def e90_1 (k t0 t5 t8 h) := kN k [(p0, (vS t0)), (p5, (vB t5)), (p8, (vS t8))] h
def S90_1 (D : CallD) (m : Nat) (t0 : LN) (t5 : Bool) (t8 : LN) (h : HP) : Res2 :=
 cal D 119 [(vS t8)] h fun t61 h9 =>
 extC t61 0 fun vt62 => asS vt62 fun t62 =>
 extC t61 1 fun vt63 => asB vt63 fun t63 =>
 obB (brV t5 (
 some (vB t63)) (
 some (vB false))) fun t67 =>
 S90_0 D m t0 t62 t67 h9
def e90_2 (k t0 h) := kN k [(p0, (vS t0))] h
def S90_2 (D : CallD) (m : Nat) (t0 : LN) (h : HP) : Res2 :=
 cal D 119 [(vS t0)] h fun t14 h3 =>
 extC t14 0 fun vt15 => asS vt15 fun t15 =>
 extC t14 1 fun vt16 => asB vt16 fun t16 =>
 cal D 120 [(vS t15), (vS ([46] : LN))] h3 fun t19 h4 =>
 extC t19 0 fun vt20 => asS vt20 fun t20 =>
 extC t19 1 fun vt21 => asB vt21 fun t21 =>
 cal D 119 [(vS t20)] h4 fun t24 h5 =>
 extC t24 0 fun vt25 => asS vt25 fun t25 =>
 extC t24 1 fun vt26 => asB vt26 fun t26 =>
 obB (brV t16 (
 some (vB t21)) (
 some (vB false))) fun t30 =>
 obB (brV t30 (
 some (vB t26)) (
 some (vB false))) fun t33 =>
 obB (brV t33 (
 let t36 := Int.ofNat (lenL t0)
 let t37 := leQ t36 (Int.ofNat 40)
 some (vB t37)) (
 some (vB false))) fun t38 =>
 cal D 120 [(vS t25), (vS ([101] : LN))] h5 fun t41 h8 =>
 extC t41 0 fun vt42 => asS vt42 fun t42 =>
 extC t41 1 fun vt43 => asB vt43 fun t43 =>
 br t43 (
 let t46 := !(eqL t42 ([] : LN))
 obB (brV t46 (
 ixCV (vS t42) (vI (Int.ofNat 0)) fun vt49 => asIV .u8 vt49 fun t49 =>
 let t50 := eqQ t49 (Int.ofNat 43)
 obBV (brV t50 (
 some (vB true)) (
 ixCV (vS t42) (vI (Int.ofNat 0)) fun vt53 => asIV .u8 vt53 fun t53 =>
 let t54 := eqQ t53 (Int.ofNat 45)
 some (vB t54))) fun t55 =>
 some (vB t55)) (
 some (vB false))) fun t56 =>
 br t56 (
 slC (vS t42) (some (vI (Int.ofNat 1))) none fun vt58 => asS vt58 fun t58 =>
 S90_1 D m t0 t38 t58 h8) (
 S90_1 D m t0 t38 t42 h8)) (
 S90_0 D m t0 t25 t38 h8)
def S90 : SFn := fun D m args h u => nou u <| popS args fun t0 args => endA args (S90_2 D m t0 h)
theorem T90_0 (hE : FX x90 D m E) : S90_0 D m = e90_0 (E c90_0 []) := by unfold S90_0; rw [hE c90_0]; kernel_rfl
theorem T90_1 (hE : FX x90 D m E) : S90_1 D m = e90_1 (E c90_1 [.sj v90_0 c90_0]) := by unfold S90_1; rw [T90_0 hE, hE c90_1]; kernel_rfl
theorem T90_2 (hE : FX x90 D m E) : S90_2 D m = e90_2 (E c90_e []) := by unfold S90_2; rw [T90_1 hE, T90_0 hE, hE c90_e]; kernel_rfl
theorem X90 : XTie S90 x90 := X_of fun D m E hE args h u => by unfold S90; rw [T90_2 hE]; kernel_rfl
/- 91 -/
def c91_e : XC := (.sO [.mv p6 (.c (.int .u64 (.ofNat 0))) (.i .u64), .mv p7 (.c .nili) .v] (.sO [.mv p11 q0 .s, .mv p12 q1 tI, .mv p13 q2 tI, .cl p14 123 [q11, q12, q13] .v, .mv p10 q14 .v, .P p15 (.ext q10 0) (.i .u64), .P p16 (.ext q10 1) .v, .mv p8 q15 (.i .u64), .mv p9 q16 .v] (.seq (.seq (.oX [.mv p17 q9 .v, .P p18 (.eqn .ifc true q17 (.c .nili)) .b]) (.cond q18 (.seq (.oX [.mv p19 q8 (.i .u64), .mv p20 q0 .s, .mv p21 q1 tI, .mv p22 q2 tI, .mv p23 q9 .v, .cl p24 96 [(.c (.str [80, 97, 114, 115, 101, 85, 105, 110, 116])), q20, q21, q22, q23] .v, .mv p6 q19 (.i .u64), .mv p7 q24 .v]) .ret) .skip)) (.sO [.mv p25 q8 (.i .u64), .mv p6 q25 (.i .u64), .mv p7 (.c .nili) .v] (.s .ret)))))
def x91 : XFn := ⟨[.s, tI, tI], false, [(.tmp p6), (.tmp p7)], c91_e⟩
def e91_0 (k t0 t1 t2 h) := kN k [(p0, (vS t0)), (p1, (vI t1)), (p2, (vI t2))] h
def S91_0 (D : CallD) (m : Nat) (t0 : LN) (t1 t2 : Int) (h : HP) : Res2 :=
 cal D 123 [(vS t0), (vI t1), (vI t2)] h fun t14 h1 =>
 extC t14 0 fun vt15 => asI .u64 vt15 fun t15 =>
 extC t14 1 fun t16 =>
 obB (evP (.eqn .ifc true (.c t16) (.c (.nili : AV))) .leaf) fun t18 =>
 br t18 (
 cal D 96 [(vS ([80, 97, 114, 115, 101, 85, 105, 110, 116] : LN)), (vS t0), (vI t1), (vI t2), t16] h1 fun t24 h2 =>
 some (.ret (.tup [(AV.int .u64 t15), t24]) h2, .no)) (
 some (.ret (.tup [(AV.int .u64 t15), (.nili : AV)]) h1, .no))
def S91 : SFn := fun D m args h u => nou u <| popS args fun t0 args => popI .i64 args fun t1 args => popI .i64 args fun t2 args => endA args (S91_0 D m t0 t1 t2 h)
theorem T91_0 (hE : FX x91 D m E) : S91_0 D m = e91_0 (E c91_e []) := by unfold S91_0; rw [hE c91_e]; kernel_rfl
theorem X91 : XTie S91 x91 := X_of fun D m E hE args h u => by unfold S91; rw [T91_0 hE]; kernel_rfl
/- 92 -/
def c92_e : XC := (.s (.oX [.ld p1 q0 .v, .P p2 (.nilck q1) .v, .fa p3 2 q2, .ld p4 q3 tI, .bn p5 .sub q4 (ci 1) tI, .P p6 (.nilck q1) .v, .fa p7 2 q6, .st q7 q5]))
def x92 : XFn := ⟨[.v], true, [], c92_e⟩
def e92_0 (k : St → Res2) (t0 : AV) (h : HP) (u : AMode) : Res2 := k ⟨mkT [(p0, t0)], h, [], u⟩
def S92_0 (D : CallD) (m : Nat) (t0 : AV) (h : HP) (u : AMode) : Res2 :=
 cellC t0 h fun t1 =>
 nilckC t1 fun t2 =>
 faC 2 t2 fun t3 =>
 ldI t3 h fun t4 =>
 let t5 := wrQ .i64 (t4 - (Int.ofNat 1))
 nilckC t1 fun t6 =>
 faC 2 t6 fun t7 =>
 stoC t7 (vI t5) h fun h1 =>
 some (.ret (.tup []) h1, u)
def S92 : SFn := fun D m args h u => popV args fun t0 args => endA args (S92_0 D m t0 h u)
theorem T92_0 (hE : FX x92 D m E) : S92_0 D m = e92_0 (E c92_e []) := by unfold S92_0; rw [hE c92_e]; kernel_rfl
theorem X92 : XTie S92 x92 := X_of fun D m E hE args h u => by unfold S92; rw [T92_0 hE]; kernel_rfl
/- 94 -/
def c94_e : XC := (.sO [.mv p2 (.c .nils) .v] (.seq (.seq (.oX [.mv p3 q0 .v, .al p4 (.bsl [(.str [])] 1 [⟨0, 1, (.c (.str [59]))⟩]), .cl p5 42 [q3, q4] .b]) (.cond q5 (.seq (.oX [.mv p2 (.c .nils) .v]) .ret) .skip)) (.sO [.mv p6 q0 .v, .cl p7 46 [q6] .v, .al p8 (.bsl [(kI 0), (.str []), (.str []), (.int .u32 (.ofNat 0)), (.int .u64 (.ofNat 0)), .nils, (kI 0), (kI 0)] 1 [⟨0, 8, q7⟩]), .mv p2 q8 .v] (.s .ret))))
def x94 : XFn := ⟨[.v], false, [(.tmp p2)], c94_e⟩
def e94_0 (k t0 h) := kN k [(p0, t0)] h
def S94_0 (D : CallD) (m : Nat) (t0 : AV) (h : HP) : Res2 :=
 let t4 := AV.slice (HP.nxQ h) 0 1 (.exact 1)
 let h1 := HP.newQ h (.cells true [(vS ([59] : LN))])
 cal D 42 [t0, t4] h1 fun t5 h2 =>
 asB t5 fun t5a =>
 br t5a (
 some (.ret (.nils : AV) h2, .no)) (
 cal D 46 [t0] h2 fun t7 h3 =>
 obQ (evA (.bsl [(kI 0), (.str []), (.str []), (.int .u32 (.ofNat 0)), (.int .u64 (.ofNat 0)), .nils, (kI 0), (kI 0)] 1 [⟨0, 8, (.c t7)⟩]) .leaf) fun r4 =>
 let t8 := vkV r4.2 (HP.nxQ h3)
 let h5 := HP.newQ h3 r4.1
 some (.ret t8 h5, .no))
def S94 : SFn := fun D m args h u => nou u <| popV args fun t0 args => endA args (S94_0 D m t0 h)
theorem T94_0 (hE : FX x94 D m E) : S94_0 D m = e94_0 (E c94_e []) := by unfold S94_0; rw [hE c94_e]; kernel_rfl
theorem X94 : XTie S94 x94 := X_of fun D m E hE args h u => by unfold S94; rw [T94_0 hE]; kernel_rfl
/- 97 -/
def c97_e : XC := (.sO [.mv p0 (.c .nils) .v] (.sO [.al p1 (.bsl [(.str [])] 1 [⟨0, 1, (.c (.str [124, 124]))⟩]), .al p2 (.bsl [(.str [])] 1 [⟨0, 1, (.c (.str [38, 38]))⟩]), .al p3 (.bsl [(.str [])] 1 [⟨0, 1, (.c (.str [124]))⟩]), .al p4 (.bsl [(.str [])] 1 [⟨0, 1, (.c (.str [94]))⟩]), .al p5 (.bsl [(.str [])] 1 [⟨0, 1, (.c (.str [38]))⟩]), .al p6 (.bsl [(.str []), (.str [])] 2 [⟨0, 1, (.c (.str [61, 61]))⟩, ⟨1, 1, (.c (.str [33, 61]))⟩]), .al p7 (.bsl [(.str []), (.str []), (.str []), (.str [])] 4 [⟨0, 1, (.c (.str [60]))⟩, ⟨1, 1, (.c (.str [60, 61]))⟩, ⟨2, 1, (.c (.str [62]))⟩, ⟨3, 1, (.c (.str [62, 61]))⟩]), .al p8 (.bsl [(.str []), (.str [])] 2 [⟨0, 1, (.c (.str [60, 60]))⟩, ⟨1, 1, (.c (.str [62, 62]))⟩]), .al p9 (.bsl [(.str []), (.str [])] 2 [⟨0, 1, (.c (.str [43]))⟩, ⟨1, 1, (.c (.str [45]))⟩]), .al p10 (.bsl [(.str []), (.str []), (.str [])] 3 [⟨0, 1, (.c (.str [42]))⟩, ⟨1, 1, (.c (.str [47]))⟩, ⟨2, 1, (.c (.str [37]))⟩]), .al p11 (.bsl [.nils, .nils, .nils, .nils, .nils, .nils, .nils, .nils, .nils, .nils] 10 [⟨0, 1, q1⟩, ⟨1, 1, q2⟩, ⟨2, 1, q3⟩, ⟨3, 1, q4⟩, ⟨4, 1, q5⟩, ⟨5, 1, q6⟩, ⟨6, 1, q7⟩, ⟨7, 1, q8⟩, ⟨8, 1, q9⟩, ⟨9, 1, q10⟩]), .mv p0 q11 .v] (.s .ret)))
def x97 : XFn := ⟨[], false, [(.tmp p0)], c97_e⟩
def e97_0 (k h) := kN k [] h
def S97_0 (D : CallD) (m : Nat) (h : HP) : Res2 :=
 let t1 := AV.slice (HP.nxQ h) 0 1 (.exact 1)
 let h1 := HP.newQ h (.cells true [(vS ([124, 124] : LN))])
 let t2 := AV.slice (HP.nxQ h1) 0 1 (.exact 1)
 let h2 := HP.newQ h1 (.cells true [(vS ([38, 38] : LN))])
 let t3 := AV.slice (HP.nxQ h2) 0 1 (.exact 1)
 let h3 := HP.newQ h2 (.cells true [(vS ([124] : LN))])
 let t4 := AV.slice (HP.nxQ h3) 0 1 (.exact 1)
 let h4 := HP.newQ h3 (.cells true [(vS ([94] : LN))])
 let t5 := AV.slice (HP.nxQ h4) 0 1 (.exact 1)
 let h5 := HP.newQ h4 (.cells true [(vS ([38] : LN))])
 let t6 := AV.slice (HP.nxQ h5) 0 2 (.exact 2)
 let h6 := HP.newQ h5 (.cells true [(vS ([61, 61] : LN)), (vS ([33, 61] : LN))])
 let t7 := AV.slice (HP.nxQ h6) 0 4 (.exact 4)
 let h7 := HP.newQ h6 (.cells true [(vS ([60] : LN)), (vS ([60, 61] : LN)), (vS ([62] : LN)), (vS ([62, 61] : LN))])
 let t8 := AV.slice (HP.nxQ h7) 0 2 (.exact 2)
 let h8 := HP.newQ h7 (.cells true [(vS ([60, 60] : LN)), (vS ([62, 62] : LN))])
 let t9 := AV.slice (HP.nxQ h8) 0 2 (.exact 2)
 let h9 := HP.newQ h8 (.cells true [(vS ([43] : LN)), (vS ([45] : LN))])
 let t10 := AV.slice (HP.nxQ h9) 0 3 (.exact 3)
 let h10 := HP.newQ h9 (.cells true [(vS ([42] : LN)), (vS ([47] : LN)), (vS ([37] : LN))])
 let t11 := AV.slice (HP.nxQ h10) 0 10 (.exact 10)
 let h11 := HP.newQ h10 (.cells true [t1, t2, t3, t4, t5, t6, t7, t8, t9, t10])
 some (.ret t11 h11, .no)
def S97 : SFn := fun D m args h u => nou u <| endA args (S97_0 D m h)
theorem T97_0 (hE : FX x97 D m E) : S97_0 D m = e97_0 (E c97_e []) := by unfold S97_0; rw [hE c97_e]; kernel_rfl
theorem X97 : XTie S97 x97 := X_of fun D m E hE args h u => by unfold S97; rw [T97_0 hE]; kernel_rfl
/- 98 -/
def v98_0 : List Pos := [p2, p5]
def c98_0 : XC := (.sO [.L p79 (.cells 8 q5) .v, .ss 8 q2 q79] (.s .ret))
def v98_1 : List Pos := [p1, p2, p5]
def c98_1b : XC := (.seq (.seq (.oX [.ld p68 q1 .v, .cl p69 38 [q68, (.c (.str [91]))] .b]) (.cond q69 .skip (.exit 0))) (.block 1 (.seq (.ops true (XL.of [.L p70 (.cells 8 q5) .v, .ld p71 q1 .v, .fa p74 7 q5, .ld p75 q74 tI, .o ⟨(some p72), (.call (.fn 46) [q71]), none, [⟨none, .cells 8 q5, p70⟩, ⟨none, .cell q74, p75⟩]⟩ .v, .al p73 (.bsl [(kI 0), (.str []), (.str []), (.int .u32 (.ofNat 0)), (.int .u64 (.ofNat 0)), .nils, (kI 0), (kI 0), (kI 0), (.str []), (.str []), (.int .u32 (.ofNat 0)), (.int .u64 (.ofNat 0)), .nils, (kI 0), (kI 0)] 2 [⟨0, 8, q70⟩, ⟨8, 8, q72⟩]), .P p76 (.build [(kI 0), (.str []), (.str []), (.int .u32 (.ofNat 0)), (.int .u64 (.ofNat 0)), .nils, (kI 0), (kI 0)] [⟨0, 1, (ci 8)⟩, ⟨5, 1, q73⟩, ⟨7, 1, q75⟩]) .v, .ss 8 q5 q76])) (.s (.oX [.ld p77 q1 .v, .cl p78 44 [q77, (.c (.str [93]))] .v])))))
def c98_e : XC := (.sO [.al p1 (.box q0), .al p2 (.new [(kI 0), (.str []), (.str []), (.int .u32 (.ofNat 0)), (.int .u64 (.ofNat 0)), .nils, (kI 0), (kI 0)])] (.sO [.ld p6 q1 .v, .cl p7 75 [q6] .v] (.sO [.P p8 (.mkfn 129 [] [q1]) .v, .o ⟨none, (.defer (.val q8) []), none, []⟩ .v] (.sO [.ld p9 q1 .v, .cl p10 23 [q9] .v, .al p3 (.new [(kI 0), (.str []), (kI 0)]), .ss 3 q3 q10] (.seq (.seq (.oX [.ld p11 q1 .v, .al p12 (.bsl [(.str []), (.str []), (.str []), (.str []), (.str [])] 5 [⟨0, 1, (.c (.str [45]))⟩, ⟨1, 1, (.c (.str [33]))⟩, ⟨2, 1, (.c (.str [126]))⟩, ⟨3, 1, (.c (.str [42]))⟩, ⟨4, 1, (.c (.str [38]))⟩]), .cl p13 42 [q11, q12] .b]) (.cond q13 (.seq (.oX [.ld p14 q1 .v, .P p15 (.nilck q14) .v, .fa p16 1 q15, .ld p17 q16 tI, .bn p18 .add q17 (ci 1) tI, .P p19 (.nilck q14) .v, .fa p20 1 q19, .st q20 q18]) (.seq (.ops true (XL.of [.fa p21 1 q3, .ld p22 q21 .s, .ld p23 q1 .v, .fa p26 2 q3, .ld p27 q26 tI, .o ⟨(some p24), (.call (.fn 98) [q23]), none, [⟨none, .cell q21, p22⟩, ⟨none, .cell q26, p27⟩]⟩ .v, .al p25 (.bsl [(kI 0), (.str []), (.str []), (.int .u32 (.ofNat 0)), (.int .u64 (.ofNat 0)), .nils, (kI 0), (kI 0)] 1 [⟨0, 8, q24⟩]), .P p28 (.build [(kI 0), (.str []), (.str []), (.int .u32 (.ofNat 0)), (.int .u64 (.ofNat 0)), .nils, (kI 0), (kI 0)] [⟨0, 1, (ci 4)⟩, ⟨1, 1, q22⟩, ⟨5, 1, q25⟩, ⟨7, 1, q27⟩]) .v, .ss 8 q2 q28])) .ret)) .skip)) (.seq (.seq (.ops true (XL.of [.ld p29 q1 .v, .al p30 (.bsl [(.str [])] 1 [⟨0, 1, (.c (.str [40]))⟩]), .cl p31 42 [q29, q30] .b, .mv p32 q31 .b, .ge p32 (XL.of [.o ⟨(some p33), (.l (.cell q1)), (some (p32, true)), []⟩ .v, .G p32 true p34 (.nilck q33) .v, .G p32 true p35 (.faddr 0 q34) .v, .o ⟨(some p36), (.l (.cell q35)), (some (p32, true)), []⟩ .v, .o ⟨(some p37), (.l (.cell q1)), (some (p32, true)), []⟩ .v, .G p32 true p38 (.nilck q37) .v, .G p32 true p39 (.faddr 1 q38) .v, .o ⟨(some p40), (.l (.cell q39)), (some (p32, true)), []⟩ tI, .G p32 true p41 (.bin .add q40 (ci 1)) tI, .G p32 true p42 (.iaddr (.sl 3) q36 q41) .v, .G p32 true p43 (.faddr 0 q42) .v, .o ⟨(some p44), (.l (.cell q43)), (some (p32, true)), []⟩ tI, .G p32 true p45 (.bin .eql q44 (ci 5)) .b, .P p46 (.pick q32 q45 (cb false)) .b]) p46 .b])) (.cond q46 (.seq (.oX [.ld p47 q1 .v, .P p48 (.nilck q47) .v, .fa p49 1 q48, .ld p50 q49 tI, .bn p51 .add q50 (ci 1) tI, .P p52 (.nilck q47) .v, .fa p53 1 q52, .st q53 q51]) (.seq (.oX [.ld p54 q1 .v, .cl p55 39 [q54] tI, .mv p4 q55 tI]) (.seq (.oX [.ld p56 q1 .v, .cl p57 44 [q56, (.c (.str [41]))] .v]) (.seq (.ops true (XL.of [.mv p58 q4 tI, .P p59 (.conv (.ii .u32) q58) tW, .ld p60 q1 .v, .fa p63 2 q3, .ld p64 q63 tI, .o ⟨(some p61), (.call (.fn 98) [q60]), none, [⟨none, .cell q63, p64⟩]⟩ .v, .al p62 (.bsl [(kI 0), (.str []), (.str []), (.int .u32 (.ofNat 0)), (.int .u64 (.ofNat 0)), .nils, (kI 0), (kI 0)] 1 [⟨0, 8, q61⟩]), .P p65 (.build [(kI 0), (.str []), (.str []), (.int .u32 (.ofNat 0)), (.int .u64 (.ofNat 0)), .nils, (kI 0), (kI 0)] [⟨0, 1, (ci 9)⟩, ⟨3, 1, q59⟩, ⟨5, 1, q62⟩, ⟨7, 1, q64⟩]) .v, .ss 8 q2 q65])) .ret)))) .skip)) (.sO [.ld p66 q1 .v, .cl p67 130 [q66] .v, .al p5 (.new [(kI 0), (.str []), (.str []), (.int .u32 (.ofNat 0)), (.int .u64 (.ofNat 0)), .nils, (kI 0), (kI 0)]), .ss 8 q5 q67] (.sj v98_0 (.block 0 (.loop v98_1 c98_1b)) c98_0))))))))
def x98 : XFn := ⟨[.v], false, [(.cells 8 p2)], c98_e⟩
def e98_0 (k : St → Res2) (t2 t5 : AV) (h : HP) (df : List ADef) : Res2 := k ⟨mkT [(p2, t2), (p5, t5)], h, df, .no⟩
def S98_0 (D : CallD) (m : Nat) (t2 t5 : AV) (h : HP) (df : List ADef) : Res2 :=
 cellsC 8 t5 h fun t79 =>
 stsC 8 t2 t79 h fun h29 =>
 XFn.endOf x98 D (.ret ⟨(mkT [(p2, t2)]), h29, df, .no⟩)
def e98_1 (k : St → Res2) (t1 t2 t5 : AV) (h : HP) (df : List ADef) : Res2 := k ⟨mkT [(p1, t1), (p2, t2), (p5, t5)], h, df, .no⟩
def S98_1b (D : CallD) (m : Nat) (g1 : AV → AV → AV → HP → List ADef → Res2) (t1 t2 t5 : AV) (h : HP) (df : List ADef) : Res2 :=
 cellC t1 h fun t68 =>
 calC D 38 [t68, (vS ([91] : LN))] h (fun t69 h30 =>
 asB t69 fun t69a =>
 br t69a (
 cellsC 8 t5 h30 fun t70 =>
 cellC t1 h30 fun t71 =>
 faC 7 t5 fun t74 =>
 ldI t74 h30 fun t75 =>
 calC D 46 [t71] h30 (fun t72 h31 =>
 br (again [⟨none, .cells 8 q5, p70⟩, ⟨none, .cell q74, p75⟩] (mkT [(p75, (vI t75)), (p74, t74), (p70, t70), (p5, t5)]) h31) (
 obQ (evA (.bsl [(kI 0), (.str []), (.str []), (.int .u32 (.ofNat 0)), (.int .u64 (.ofNat 0)), .nils, (kI 0), (kI 0), (kI 0), (.str []), (.str []), (.int .u32 (.ofNat 0)), (.int .u64 (.ofNat 0)), .nils, (kI 0), (kI 0)] 2 [⟨0, 8, (.c t70)⟩, ⟨8, 8, (.c t72)⟩]) .leaf) fun r32 =>
 let t73 := vkV r32.2 (HP.nxQ h31)
 let h33 := HP.newQ h31 r32.1
 obQ (evP (.build [(kI 0), (.str []), (.str []), (.int .u32 (.ofNat 0)), (.int .u64 (.ofNat 0)), .nils, (kI 0), (kI 0)] [⟨0, 1, (.c (vI (Int.ofNat 8)))⟩, ⟨5, 1, (.c t73)⟩, ⟨7, 1, (.c (vI t75))⟩]) .leaf) fun t76 =>
 stsC 8 t5 t76 h33 fun h34 =>
 cellC t1 h34 fun t77 =>
 calC D 44 [t77, (vS ([93] : LN))] h34 (fun t78 h35 =>
 g1 t1 t2 t5 h35 df) (fun ch35 gh35 => XFn.endOf x98 D (.panic ch35 ⟨(mkT [(p2, t2)]), gh35, df, .no⟩))) none) (fun ch31 gh31 => XFn.endOf x98 D (.panic ch31 ⟨(mkT [(p2, t2)]), gh31, df, .no⟩))) (
 S98_0 D m t2 t5 h30 df)) (fun ch30 gh30 => XFn.endOf x98 D (.panic ch30 ⟨(mkT [(p2, t2)]), gh30, df, .no⟩))
def S98_1 (D : CallD) (m : Nat) : AV → AV → AV → HP → List ADef → Res2 := nrec (fun _ _ _ _ _ => none) (fun _ g => S98_1b D m g) m
def e98_2 (k t0 h) := kN k [(p0, t0)] h
def S98_2 (D : CallD) (m : Nat) (t0 : AV) (h : HP) : Res2 :=
 let t1 := AV.ptr (HP.nxQ h) 0
 let h3 := HP.newQ h (.cells true (AV.cells t0))
 let t2 := AV.ptr (HP.nxQ h3) 0
 let h4 := HP.newQ h3 (.cells true [(kI 0), (.str []), (.str []), (.int .u32 (.ofNat 0)), (.int .u64 (.ofNat 0)), .nils, (kI 0), (kI 0)])
 cellC t1 h4 fun t6 =>
 calC D 75 [t6] h4 (fun t7 h5 =>
 let t8 := (AV.fn 129 [] [t1])
 let d6 : List ADef := ⟨129, [t1]⟩ :: []
 cellC t1 h5 fun t9 =>
 calC D 23 [t9] h5 (fun t10 h7 =>
 let t3 := AV.ptr (HP.nxQ h7) 0
 let h8 := HP.newQ h7 (.cells true [(kI 0), (.str []), (kI 0)])
 stsC 3 t3 t10 h8 fun h9 =>
 cellC t1 h9 fun t11 =>
 let t12 := AV.slice (HP.nxQ h9) 0 5 (.exact 5)
 let h10 := HP.newQ h9 (.cells true [(vS ([45] : LN)), (vS ([33] : LN)), (vS ([126] : LN)), (vS ([42] : LN)), (vS ([38] : LN))])
 calC D 42 [t11, t12] h10 (fun t13 h11 =>
 asB t13 fun t13a =>
 br t13a (
 cellC t1 h11 fun t14 =>
 nilckC t14 fun t15 =>
 faC 1 t15 fun t16 =>
 ldI t16 h11 fun t17 =>
 let t18 := wrQ .i64 (addQ t17 (Int.ofNat 1))
 nilckC t14 fun t19 =>
 faC 1 t19 fun t20 =>
 stoC t20 (vI t18) h11 fun h12 =>
 let t21 := (AV.ptr (HP.nxQ h7) (Nat.add 0 1))
 ldS t21 h12 fun t22 =>
 cellC t1 h12 fun t23 =>
 let t26 := (AV.ptr (HP.nxQ h7) (Nat.add 0 2))
 ldI t26 h12 fun t27 =>
 calC D 98 [t23] h12 (fun t24 h13 =>
 br (again [⟨none, .cell q21, p22⟩, ⟨none, .cell q26, p27⟩] (mkT [(p27, (vI t27)), (p26, t26), (p22, (vS t22)), (p21, t21)]) h13) (
 obQ (evA (.bsl [(kI 0), (.str []), (.str []), (.int .u32 (.ofNat 0)), (.int .u64 (.ofNat 0)), .nils, (kI 0), (kI 0)] 1 [⟨0, 8, (.c t24)⟩]) .leaf) fun r14 =>
 let t25 := vkV r14.2 (HP.nxQ h13)
 let h15 := HP.newQ h13 r14.1
 obQ (evP (.build [(kI 0), (.str []), (.str []), (.int .u32 (.ofNat 0)), (.int .u64 (.ofNat 0)), .nils, (kI 0), (kI 0)] [⟨0, 1, (.c (vI (Int.ofNat 4)))⟩, ⟨1, 1, (.c (vS t22))⟩, ⟨5, 1, (.c t25)⟩, ⟨7, 1, (.c (vI t27))⟩]) .leaf) fun t28 =>
 stsC 8 t2 t28 h15 fun h16 =>
 XFn.endOf x98 D (.ret ⟨(mkT [(p2, t2)]), h16, d6, .no⟩)) none) (fun ch13 gh13 => XFn.endOf x98 D (.panic ch13 ⟨(mkT [(p2, t2)]), gh13, d6, .no⟩))) (
 cellC t1 h11 fun t29 =>
 let t30 := AV.slice (HP.nxQ h11) 0 1 (.exact 1)
 let h17 := HP.newQ h11 (.cells true [(vS ([40] : LN))])
 calC D 42 [t29, t30] h17 (fun t31 h18 =>
 asB t31 fun t31a =>
 obB (brV t31a (
 cellCV t1 h18 fun t33 =>
 nilckCV t33 fun t34 =>
 faCV 0 t34 fun t35 =>
 cellCV t35 h18 fun t36 =>
 cellCV t1 h18 fun t37 =>
 nilckCV t37 fun t38 =>
 faCV 1 t38 fun t39 =>
 ldIV t39 h18 fun t40 =>
 let t41 := wrQ .i64 (addQ t40 (Int.ofNat 1))
 iasCV 3 t36 (vI t41) fun t42 =>
 faCV 0 t42 fun t43 =>
 ldIV t43 h18 fun t44 =>
 let t45 := eqQ t44 (Int.ofNat 5)
 some (vB t45)) (
 some (vB false))) fun t46 =>
 br t46 (
 cellC t1 h18 fun t47 =>
 nilckC t47 fun t48 =>
 faC 1 t48 fun t49 =>
 ldI t49 h18 fun t50 =>
 let t51 := wrQ .i64 (addQ t50 (Int.ofNat 1))
 nilckC t47 fun t52 =>
 faC 1 t52 fun t53 =>
 stoC t53 (vI t51) h18 fun h19 =>
 cellC t1 h19 fun t54 =>
 calC D 39 [t54] h19 (fun t55 h20 =>
 asI .i64 t55 fun t55a =>
 cellC t1 h20 fun t56 =>
 calC D 44 [t56, (vS ([41] : LN))] h20 (fun t57 h21 =>
 let t59 := wrapF .u32 t55a
 cellC t1 h21 fun t60 =>
 let t63 := (AV.ptr (HP.nxQ h7) (Nat.add 0 2))
 ldI t63 h21 fun t64 =>
 calC D 98 [t60] h21 (fun t61 h22 =>
 br (again [⟨none, .cell q63, p64⟩] (mkT [(p64, (vI t64)), (p63, t63)]) h22) (
 obQ (evA (.bsl [(kI 0), (.str []), (.str []), (.int .u32 (.ofNat 0)), (.int .u64 (.ofNat 0)), .nils, (kI 0), (kI 0)] 1 [⟨0, 8, (.c t61)⟩]) .leaf) fun r23 =>
 let t62 := vkV r23.2 (HP.nxQ h22)
 let h24 := HP.newQ h22 r23.1
 obQ (evP (.build [(kI 0), (.str []), (.str []), (.int .u32 (.ofNat 0)), (.int .u64 (.ofNat 0)), .nils, (kI 0), (kI 0)] [⟨0, 1, (.c (vI (Int.ofNat 9)))⟩, ⟨3, 1, (.c (vW t59))⟩, ⟨5, 1, (.c t62)⟩, ⟨7, 1, (.c (vI t64))⟩]) .leaf) fun t65 =>
 stsC 8 t2 t65 h24 fun h25 =>
 XFn.endOf x98 D (.ret ⟨(mkT [(p2, t2)]), h25, d6, .no⟩)) none) (fun ch22 gh22 => XFn.endOf x98 D (.panic ch22 ⟨(mkT [(p2, t2)]), gh22, d6, .no⟩))) (fun ch21 gh21 => XFn.endOf x98 D (.panic ch21 ⟨(mkT [(p2, t2)]), gh21, d6, .no⟩))) (fun ch20 gh20 => XFn.endOf x98 D (.panic ch20 ⟨(mkT [(p2, t2)]), gh20, d6, .no⟩))) (
 cellC t1 h18 fun t66 =>
 calC D 130 [t66] h18 (fun t67 h26 =>
 let t5 := AV.ptr (HP.nxQ h26) 0
 let h27 := HP.newQ h26 (.cells true [(kI 0), (.str []), (.str []), (.int .u32 (.ofNat 0)), (.int .u64 (.ofNat 0)), .nils, (kI 0), (kI 0)])
 stsC 8 t5 t67 h27 fun h28 =>
 S98_1 D m t1 t2 t5 h28 d6) (fun ch26 gh26 => XFn.endOf x98 D (.panic ch26 ⟨(mkT [(p2, t2)]), gh26, d6, .no⟩)))) (fun ch18 gh18 => XFn.endOf x98 D (.panic ch18 ⟨(mkT [(p2, t2)]), gh18, d6, .no⟩)))) (fun ch11 gh11 => XFn.endOf x98 D (.panic ch11 ⟨(mkT [(p2, t2)]), gh11, d6, .no⟩))) (fun ch7 gh7 => XFn.endOf x98 D (.panic ch7 ⟨(mkT [(p2, t2)]), gh7, d6, .no⟩))) (fun ch5 gh5 => XFn.endOf x98 D (.panic ch5 ⟨(mkT [(p2, t2)]), gh5, [], .no⟩))
def S98 : SFn := fun D m args h u => nou u <| popV args fun t0 args => endA args (S98_2 D m t0 h)
theorem T98_0 (hE : FX x98 D m E) : S98_0 D m = e98_0 (E c98_0 []) := by unfold S98_0; rw [hE c98_0]; kernel_rfl
theorem T98_1b (hE : FX x98 D m E) (G1) : S98_1b D m (e98_1 G1) = e98_1 (E c98_1b [.lp v98_1 G1, .blk 0, .sj v98_0 c98_0]) := by unfold S98_1b; rw [T98_0 hE, hE c98_1b]; kernel_rfl
theorem T98_1 (hE : FX x98 D m E) : S98_1 D m = e98_1 (nrec (fun _ => none) (fun _ G1 st => E c98_1b [.lp v98_1 G1, .blk 0, .sj v98_0 c98_0] st) m) :=
  nrec_emb e98_1 (fun _ _ _ _ _ => none) (fun g => S98_1b D m g) (fun G1 st => E c98_1b [.lp v98_1 G1, .blk 0, .sj v98_0 c98_0] st) rfl (fun g => T98_1b hE g) m
theorem T98_2 (hE : FX x98 D m E) : S98_2 D m = e98_2 (E c98_e []) := by unfold S98_2; rw [T98_1 hE, hE c98_e]; kernel_rfl
theorem X98 : XTie S98 x98 := X_of fun D m E hE args h u => by unfold S98; rw [T98_2 hE]; kernel_rfl
/- 100 -/
def c100_e : XC := (.sO [.mv p2 (.c (.str [])) .s] (.sO [.mv p3 q0 tI, .cl p4 132 [q3, (ci 10)] .s, .mv p2 q4 .s] (.s .ret)))
def x100 : XFn := ⟨[tI], false, [(.tmp p2)], c100_e⟩
def e100_0 (k t0 h) := kN k [(p0, (vI t0))] h
def S100_0 (D : CallD) (m : Nat) (t0 : Int) (h : HP) : Res2 :=
 cal D 132 [(vI t0), (vI (Int.ofNat 10))] h fun t4 h1 =>
 asS t4 fun t4a =>
 some (.ret (vS t4a) h1, .no)
def S100 : SFn := fun D m args h u => nou u <| popI .i64 args fun t0 args => endA args (S100_0 D m t0 h)
theorem T100_0 (hE : FX x100 D m E) : S100_0 D m = e100_0 (E c100_e []) := by unfold S100_0; rw [hE c100_e]; kernel_rfl
theorem X100 : XTie S100 x100 := X_of fun D m E hE args h u => by unfold S100; rw [T100_0 hE]; kernel_rfl
/- 108 -/
def v108_1 : List Pos := []
def c108_1 : XC := (.sO [.mv p6 (ci 0) tI] (.s .ret))
def v108_6 : List Pos := [p10]
def c108_6 : XC := (.sO [.mv p88 q10 .b] (.cond q88 (.sO [.mv p6 (ci 1) tI] (.s .ret)) (.s .skip)))
def v108_5 : List Pos := [p2, p7, p8, p9, p10, p59]
def c108_5 : XC := (.cond q59 (.sj v108_6 (.sO [.mv p62 q7 tI, .cl p63 111 [q62] tI, .bn p64 .neq q63 (ci 0) .b] (.cond q64 (.s (.oX [.mv p66 q2 .v, .mv p67 q2 .v, .P p68 (.iaddr (.sl 8) q67 (ci 1)) .v, .L p69 (.cells 8 q68) .v, .mv p70 q7 tI, .cl p71 84 [q69, q70] .v, .mv p65 q71 .v, .P p72 (.ext q65 0) .v, .P p73 (.ext q65 1) .b, .P p74 (.iaddr (.sl 8) q66 (ci 1)) .v, .ss 8 q74 q72, .mv p10 q73 .b])) (.sO [.mv p75 q8 tI, .cl p76 111 [q75] tI, .bn p77 .neq q76 (ci 0) .b] (.cond q77 (.s (.oX [.mv p79 q2 .v, .mv p80 q2 .v, .P p81 (.iaddr (.sl 8) q80 (ci 0)) .v, .L p82 (.cells 8 q81) .v, .mv p83 q8 tI, .cl p84 84 [q82, q83] .v, .mv p78 q84 .v, .P p85 (.ext q78 0) .v, .P p86 (.ext q78 1) .b, .P p87 (.iaddr (.sl 8) q79 (ci 0)) .v, .ss 8 q87 q85, .mv p10 q86 .b])) (.s .skip))))) c108_6) (.sO [.mv p33 q9 .b] (.cond q33 (.sO [.mv p6 (ci 1) tI] (.s .ret)) (.s .skip))))
def v108_4 : List Pos := [p2, p7, p8, p9, p10, p32, p53]
def c108_4 : XC := (.cond q53 (.sO [.mv p58 q10 .b] (.cond q58 (.sO [.mv p6 (ci 1) tI] (.s .ret)) (.s .skip))) (.sj v108_5 (.sO [.bn p60 .eql q32 (.c (.str [61, 61])) .b, .mv p59 q60 .b] (.cond q59 (.s .skip) (.s (.oX [.bn p61 .eql q32 (.c (.str [33, 61])) .b, .mv p59 q61 .b])))) c108_5))
def v108_3 : List Pos := [p2, p7, p8, p9, p10, p32, p48]
def c108_3 : XC := (.cond q48 (.sO [.mv p51 q10 .b] (.cond q51 (.sO [.mv p52 q7 tI, .mv p6 q52 tI] (.s .ret)) (.s .skip))) (.sj v108_4 (.sO [.bn p54 .eql q32 (.c (.str [60])) .b, .mv p53 q54 .b] (.cond q53 (.s .skip) (.sO [.bn p55 .eql q32 (.c (.str [60, 61])) .b, .mv p53 q55 .b] (.cond q53 (.s .skip) (.sO [.bn p56 .eql q32 (.c (.str [62])) .b, .mv p53 q56 .b] (.cond q53 (.s .skip) (.s (.oX [.bn p57 .eql q32 (.c (.str [62, 61])) .b, .mv p53 q57 .b])))))))) c108_4))
def v108_2 : List Pos := [p2, p7, p8, p9, p10, p32, p34]
def c108_2 : XC := (.cond q34 (.sO [.mv p37 q7 tI, .cl p38 111 [q37] tI, .bn p39 .neq q38 (ci 0) .b, .mv p40 q39 .b, .ge p40 (XL.of [.G p40 true p41 (.mov q8) tI, .G p40 true p42 (.bin .eql q41 (ci 1)) .b, .P p43 (.pick q40 q42 (cb false)) .b]) p43 .b, .mv p44 q43 .b, .ge p44 (XL.of [.G p44 false p45 (.mov q10) .b, .P p46 (.pick q44 (cb true) q45) .b]) p46 .b] (.cond q46 (.sO [.mv p47 q7 tI, .mv p6 q47 tI] (.s .ret)) (.s .skip))) (.sj v108_3 (.sO [.bn p49 .eql q32 (.c (.str [42])) .b, .mv p48 q49 .b] (.cond q48 (.s .skip) (.s (.oX [.bn p50 .eql q32 (.c (.str [47])) .b, .mv p48 q50 .b])))) c108_3))
def c108_7 : XC := (.sj v108_1 (.sO [.mv p32 q1 .s] (.block 0 (.sj v108_2 (.sO [.bn p35 .eql q32 (.c (.str [43])) .b, .mv p34 q35 .b] (.cond q34 (.s .skip) (.s (.oX [.bn p36 .eql q32 (.c (.str [45])) .b, .mv p34 q36 .b])))) c108_2))) c108_1)
def l108_0 : XL := (XL.of [.mv p9 q24 .b, .mv p10 q31 .b])
def c108_e : XC := (.sO [.mv p6 (ci 0) tI] (.seq (.ops true (XL.of [.mv p11 q2 .v, .P p12 (.iaddr (.sl 8) q11 (ci 0)) .v, .fa p13 6 q12, .ld p14 q13 tI, .mv p15 q2 .v, .P p16 (.iaddr (.sl 8) q15 (ci 1)) .v, .fa p17 6 q16, .ld p18 q17 tI, .mv p7 q14 tI, .mv p8 q18 tI])) (.opq false (XL.pre [.mv p19 q7 tI, .bn p20 .eql q19 (ci 1) .b, .mv p21 q20 .b, .ge p21 (XL.of [.G p21 true p22 (.mov q8) tI, .G p21 true p23 (.bin .eql q22 (ci 1)) .b, .P p24 (.pick q21 q23 (cb false)) .b]) p24 .b, .mv p25 q7 tI, .mv p26 q8 tI, .bn p27 .eql q25 q26 .b, .mv p28 q27 .b, .sp p28, .G p28 true p29 (.mov q7) tI, .o ⟨(some p30), (.call (.fn 54) [q29]), (some (p28, true)), []⟩ .b, .P p31 (.pick q28 q30 (cb false)) .b, .jn p28 [p1, p2, p7, p8, p24, p31]] l108_0) c108_7)))
def x108 : XFn := ⟨[.v, .s, .v], false, [(.tmp p6)], c108_e⟩
def e108_1 (k h) := kN k [] h
def S108_1 (D : CallD) (m : Nat) (h : HP) : Res2 :=
 some (.ret (vI (Int.ofNat 0)) h, .no)
def e108_6 (k t10 h) := kN k [(p10, (vB t10))] h
def S108_6 (D : CallD) (m : Nat) (t10 : Bool) (h : HP) : Res2 :=
 br t10 (
 some (.ret (vI (Int.ofNat 1)) h, .no)) (
 S108_1 D m h)
def e108_5 (k t2 t7 t8 t9 t10 t59 h) := kN k [(p2, t2), (p7, (vI t7)), (p8, (vI t8)), (p9, (vB t9)), (p10, (vB t10)), (p59, (vB t59))] h
def S108_5 (D : CallD) (m : Nat) (t2 : AV) (t7 t8 : Int) (t9 t10 t59 : Bool) (h : HP) : Res2 :=
 br t59 (
 cal D 111 [(vI t7)] h fun t63 h11 =>
 asI .i64 t63 fun t63a =>
 let t64 := notQ (eqQ t63a (Int.ofNat 0))
 br t64 (
 iasC 8 t2 (vI (Int.ofNat 1)) fun t68 =>
 cellsC 8 t68 h11 fun t69 =>
 cal D 84 [t69, (vI t7)] h11 fun t71 h12 =>
 extC t71 0 fun t72 =>
 extC t71 1 fun vt73 => asB vt73 fun t73 =>
 iasC 8 t2 (vI (Int.ofNat 1)) fun t74 =>
 stsC 8 t74 t72 h12 fun h13 =>
 S108_6 D m t73 h13) (
 cal D 111 [(vI t8)] h11 fun t76 h14 =>
 asI .i64 t76 fun t76a =>
 let t77 := notQ (eqQ t76a (Int.ofNat 0))
 br t77 (
 iasC 8 t2 (vI (Int.ofNat 0)) fun t81 =>
 cellsC 8 t81 h14 fun t82 =>
 cal D 84 [t82, (vI t8)] h14 fun t84 h15 =>
 extC t84 0 fun t85 =>
 extC t84 1 fun vt86 => asB vt86 fun t86 =>
 iasC 8 t2 (vI (Int.ofNat 0)) fun t87 =>
 stsC 8 t87 t85 h15 fun h16 =>
 S108_6 D m t86 h16) (
 S108_6 D m t10 h14))) (
 br t9 (
 some (.ret (vI (Int.ofNat 1)) h, .no)) (
 S108_1 D m h))
def e108_4 (k t2 t7 t8 t9 t10 t32 t53 h) := kN k [(p2, t2), (p7, (vI t7)), (p8, (vI t8)), (p9, (vB t9)), (p10, (vB t10)), (p32, (vS t32)), (p53, (vB t53))] h
def S108_4 (D : CallD) (m : Nat) (t2 : AV) (t7 t8 : Int) (t9 t10 : Bool) (t32 : LN) (t53 : Bool) (h : HP) : Res2 :=
 br t53 (
 br t10 (
 some (.ret (vI (Int.ofNat 1)) h, .no)) (
 S108_1 D m h)) (
 let t60 := eqL t32 ([61, 61] : LN)
 br t60 (
 S108_5 D m t2 t7 t8 t9 t10 t60 h) (
 let t61 := eqL t32 ([33, 61] : LN)
 S108_5 D m t2 t7 t8 t9 t10 t61 h))
def e108_3 (k t2 t7 t8 t9 t10 t32 t48 h) := kN k [(p2, t2), (p7, (vI t7)), (p8, (vI t8)), (p9, (vB t9)), (p10, (vB t10)), (p32, (vS t32)), (p48, (vB t48))] h
def S108_3 (D : CallD) (m : Nat) (t2 : AV) (t7 t8 : Int) (t9 t10 : Bool) (t32 : LN) (t48 : Bool) (h : HP) : Res2 :=
 br t48 (
 br t10 (
 some (.ret (vI t7) h, .no)) (
 S108_1 D m h)) (
 let t54 := eqL t32 ([60] : LN)
 br t54 (
 S108_4 D m t2 t7 t8 t9 t10 t32 t54 h) (
 let t55 := eqL t32 ([60, 61] : LN)
 br t55 (
 S108_4 D m t2 t7 t8 t9 t10 t32 t55 h) (
 let t56 := eqL t32 ([62] : LN)
 br t56 (
 S108_4 D m t2 t7 t8 t9 t10 t32 t56 h) (
 let t57 := eqL t32 ([62, 61] : LN)
 S108_4 D m t2 t7 t8 t9 t10 t32 t57 h))))
def e108_2 (k t2 t7 t8 t9 t10 t32 t34 h) := kN k [(p2, t2), (p7, (vI t7)), (p8, (vI t8)), (p9, (vB t9)), (p10, (vB t10)), (p32, (vS t32)), (p34, (vB t34))] h
def S108_2 (D : CallD) (m : Nat) (t2 : AV) (t7 t8 : Int) (t9 t10 : Bool) (t32 : LN) (t34 : Bool) (h : HP) : Res2 :=
 br t34 (
 cal D 111 [(vI t7)] h fun t38 h10 =>
 asI .i64 t38 fun t38a =>
 let t39 := notQ (eqQ t38a (Int.ofNat 0))
 obB (brV t39 (
 let t42 := eqQ t8 (Int.ofNat 1)
 some (vB t42)) (
 some (vB false))) fun t43 =>
 obB (brV t43 (
 some (vB true)) (
 some (vB t10))) fun t46 =>
 br t46 (
 some (.ret (vI t7) h10, .no)) (
 S108_1 D m h10)) (
 let t49 := eqL t32 ([42] : LN)
 br t49 (
 S108_3 D m t2 t7 t8 t9 t10 t32 t49 h) (
 let t50 := eqL t32 ([47] : LN)
 S108_3 D m t2 t7 t8 t9 t10 t32 t50 h))
def e108_0 (k t1 t2 t7 t8 t24 t31 h) := kN k [(p1, (vS t1)), (p2, t2), (p7, (vI t7)), (p8, (vI t8)), (p24, (vB t24)), (p31, (vB t31))] h
def S108_0 (D : CallD) (m : Nat) (t1 : LN) (t2 : AV) (t7 t8 : Int) (t24 t31 : Bool) (h : HP) : Res2 :=
 let t35 := eqL t1 ([43] : LN)
 br t35 (
 S108_2 D m t2 t7 t8 t24 t31 t1 t35 h) (
 let t36 := eqL t1 ([45] : LN)
 S108_2 D m t2 t7 t8 t24 t31 t1 t36 h)
def e108_8 (k t0 t1 t2 h) := kN k [(p0, t0), (p1, (vS t1)), (p2, t2)] h
def S108_8 (D : CallD) (m : Nat) (t0 : AV) (t1 : LN) (t2 : AV) (h : HP) : Res2 :=
 iasC 8 t2 (vI (Int.ofNat 0)) fun t12 =>
 faC 6 t12 fun t13 =>
 ldI t13 h fun t14 =>
 iasC 8 t2 (vI (Int.ofNat 1)) fun t16 =>
 faC 6 t16 fun t17 =>
 ldI t17 h fun t18 =>
 let t20 := eqQ t14 (Int.ofNat 1)
 obB (brV t20 (
 let t23 := eqQ t18 (Int.ofNat 1)
 some (vB t23)) (
 some (vB false))) fun t24 =>
 let t27 := eqQ t14 t18
 br t27 (
 cal D 54 [(vI t14)] h fun t30 h9 =>
 asB t30 fun t30a =>
 S108_0 D m t1 t2 t14 t18 t24 t30a h9) (
 S108_0 D m t1 t2 t14 t18 t24 false h)
def S108 : SFn := fun D m args h u => nou u <| popV args fun t0 args => popS args fun t1 args => popV args fun t2 args => endA args (S108_8 D m t0 t1 t2 h)
theorem T108_1 (hE : FX x108 D m E) : S108_1 D m = e108_1 (E c108_1 []) := by unfold S108_1; rw [hE c108_1]; kernel_rfl
theorem T108_6 (hE : FX x108 D m E) : S108_6 D m = e108_6 (E c108_6 [.blk 0, .sj v108_1 c108_1]) := by unfold S108_6; rw [T108_1 hE, hE c108_6]; kernel_rfl
theorem T108_5 (hE : FX x108 D m E) : S108_5 D m = e108_5 (E c108_5 [.blk 0, .sj v108_1 c108_1]) := by unfold S108_5; rw [T108_6 hE, T108_1 hE, hE c108_5]; kernel_rfl
theorem T108_4 (hE : FX x108 D m E) : S108_4 D m = e108_4 (E c108_4 [.blk 0, .sj v108_1 c108_1]) := by unfold S108_4; rw [T108_1 hE, T108_5 hE, hE c108_4]; kernel_rfl
theorem T108_3 (hE : FX x108 D m E) : S108_3 D m = e108_3 (E c108_3 [.blk 0, .sj v108_1 c108_1]) := by unfold S108_3; rw [T108_1 hE, T108_4 hE, hE c108_3]; kernel_rfl
theorem T108_2 (hE : FX x108 D m E) : S108_2 D m = e108_2 (E c108_2 [.blk 0, .sj v108_1 c108_1]) := by unfold S108_2; rw [T108_1 hE, T108_3 hE, hE c108_2]; kernel_rfl
theorem T108_0 (hE : FX x108 D m E) : S108_0 D m = e108_0 (E (.opq false l108_0 c108_7) []) := by unfold S108_0; rw [T108_2 hE, hE (.opq false l108_0 c108_7)]; kernel_rfl
theorem T108_8 (hE : FX x108 D m E) : S108_8 D m = e108_8 (E c108_e []) := by unfold S108_8; rw [T108_0 hE, hE c108_e]; kernel_rfl
theorem X108 : XTie S108 x108 := X_of fun D m E hE args h u => by unfold S108; rw [T108_8 hE]; kernel_rfl
/- 109 -/
def c109_e : XC := (.sO [.al p1 (.box q0), .mv p2 (cb false) .b] (.sO [.fa p3 0 q1, .ld p4 q3 tI, .bn p5 .eql q4 (ci 3) .b, .mv p6 q5 .b, .ge p6 (XL.of [.G p6 true p7 (.faddr 3 q1) .v, .o ⟨(some p8), (.l (.cell q7)), (some (p6, true)), []⟩ tW, .G p6 true p9 (.bin .eql q8 (.c (.int .u32 (.ofNat 0)))) .b, .P p10 (.pick q6 q9 (cb false)) .b]) p10 .b, .mv p11 q10 .b, .ge p11 (XL.of [.G p11 false p12 (.faddr 0 q1) .v, .o ⟨(some p13), (.l (.cell q12)), (some (p11, false)), []⟩ tI, .G p11 false p14 (.bin .eql q13 (ci 8)) .b, .P p15 (.pick q11 (cb true) q14) .b]) p15 .b, .mv p16 q15 .b, .ge p16 (XL.of [.G p16 false p17 (.faddr 0 q1) .v, .o ⟨(some p18), (.l (.cell q17)), (some (p16, false)), []⟩ tI, .G p16 false p19 (.bin .eql q18 (ci 4)) .b, .G p16 false p20 (.mov q19) .b, .ge p20 (XL.of [.G p20 true p21 (.faddr 1 q1) .v, .o ⟨(some p22), (.l (.cell q21)), (some (p20, true)), []⟩ .s, .G p20 true p23 (.bin .eql q22 (.c (.str [42]))) .b, .G p16 false p24 (.pick q20 q23 (cb false)) .b]) p24 .b, .P p25 (.pick q16 (cb true) q24) .b]) p25 .b, .mv p2 q25 .b] (.s .ret)))
def x109 : XFn := ⟨[.v], false, [(.tmp p2)], c109_e⟩
def e109_0 (k t0 h) := kN k [(p0, t0)] h
def S109_0 (D : CallD) (m : Nat) (t0 : AV) (h : HP) : Res2 :=
 let t1 := AV.ptr (HP.nxQ h) 0
 let h1 := HP.newQ h (.cells true (AV.cells t0))
 let t3 := (AV.ptr (HP.nxQ h) (Nat.add 0 0))
 ldI t3 h1 fun t4 =>
 let t5 := eqQ t4 (Int.ofNat 3)
 obB (brV t5 (
 let t7 := (AV.ptr (HP.nxQ h) (Nat.add 0 3))
 ldWV t7 h1 fun t8 =>
 binCV .eql (vW t8) (vW (Int.ofNat 0)) fun vt9 => asBV vt9 fun t9 =>
 some (vB t9)) (
 some (vB false))) fun t10 =>
 obB (brV t10 (
 some (vB true)) (
 let t12 := (AV.ptr (HP.nxQ h) (Nat.add 0 0))
 ldIV t12 h1 fun t13 =>
 let t14 := eqQ t13 (Int.ofNat 8)
 some (vB t14))) fun t15 =>
 obB (brV t15 (
 some (vB true)) (
 let t17 := (AV.ptr (HP.nxQ h) (Nat.add 0 0))
 ldIV t17 h1 fun t18 =>
 let t19 := eqQ t18 (Int.ofNat 4)
 obBV (brV t19 (
 let t21 := (AV.ptr (HP.nxQ h) (Nat.add 0 1))
 ldSV t21 h1 fun t22 =>
 let t23 := eqL t22 ([42] : LN)
 some (vB t23)) (
 some (vB false))) fun t24 =>
 some (vB t24))) fun t25 =>
 some (.ret (vB t25) h1, .no)
def S109 : SFn := fun D m args h u => nou u <| popV args fun t0 args => endA args (S109_0 D m t0 h)
theorem T109_0 (hE : FX x109 D m E) : S109_0 D m = e109_0 (E c109_e []) := by unfold S109_0; rw [hE c109_e]; kernel_rfl
theorem X109 : XTie S109 x109 := X_of fun D m E hE args h u => by unfold S109; rw [T109_0 hE]; kernel_rfl
/- 110 -/
def c110_e : XC := (.sO [.al p4 (.box q1), .al p6 (.new [(kI 0), (.str []), (.str []), (.int .u32 (.ofNat 0)), (.int .u64 (.ofNat 0)), .nils, (kI 0), (kI 0)]), .mv p7 (cb false) .b] (.sO [.L p11 (.cells 8 q4) .v, .mv p12 q2 tI, .cl p13 84 [q11, q12] .v, .mv p10 q13 .v, .P p14 (.ext q10 0) .v, .P p15 (.ext q10 1) .b, .al p8 (.new [(kI 0), (.str []), (.str []), (.int .u32 (.ofNat 0)), (.int .u64 (.ofNat 0)), .nils, (kI 0), (kI 0)]), .ss 8 q8 q14, .mv p9 q15 .b] (.sO [.L p16 (.cells 8 q8) .v, .mv p17 q0 .b, .mv p18 q17 .b, .ge p18 (XL.of [.G p18 true p19 (.mov q9) .b, .P p20 (.pick q18 q19 (cb false)) .b]) p20 .b, .ss 8 q6 q16, .mv p7 q20 .b] (.s .ret))))
def x110 : XFn := ⟨[.b, .v, tI], false, [(.cells 8 p6), (.tmp p7)], c110_e⟩
def e110_0 (k t0 t1 t2 h) := kN k [(p0, (vB t0)), (p1, t1), (p2, (vI t2))] h
def S110_0 (D : CallD) (m : Nat) (t0 : Bool) (t1 : AV) (t2 : Int) (h : HP) : Res2 :=
 let t4 := AV.ptr (HP.nxQ h) 0
 let h1 := HP.newQ h (.cells true (AV.cells t1))
 let t6 := AV.ptr (HP.nxQ h1) 0
 let h2 := HP.newQ h1 (.cells true [(kI 0), (.str []), (.str []), (.int .u32 (.ofNat 0)), (.int .u64 (.ofNat 0)), .nils, (kI 0), (kI 0)])
 cellsC 8 t4 h2 fun t11 =>
 cal D 84 [t11, (vI t2)] h2 fun t13 h3 =>
 extC t13 0 fun t14 =>
 extC t13 1 fun vt15 => asB vt15 fun t15 =>
 let t8 := AV.ptr (HP.nxQ h3) 0
 let h4 := HP.newQ h3 (.cells true [(kI 0), (.str []), (.str []), (.int .u32 (.ofNat 0)), (.int .u64 (.ofNat 0)), .nils, (kI 0), (kI 0)])
 stsC 8 t8 t14 h4 fun h5 =>
 cellsC 8 t8 h5 fun t16 =>
 obB (brV t0 (
 some (vB t15)) (
 some (vB false))) fun t20 =>
 stsC 8 t6 t16 h5 fun h6 =>
 cellsC 8 t6 h6 fun t6a =>
 some (.ret (.tup [t6a, (vB t20)]) h6, .no)
def S110 : SFn := fun D m args h u => nou u <| popB args fun t0 args => popV args fun t1 args => popI .i64 args fun t2 args => endA args (S110_0 D m t0 t1 t2 h)
theorem T110_0 (hE : FX x110 D m E) : S110_0 D m = e110_0 (E c110_e []) := by unfold S110_0; rw [hE c110_e]; kernel_rfl
theorem X110 : XTie S110 x110 := X_of fun D m E hE args h u => by unfold S110; rw [T110_0 hE]; kernel_rfl
/- 111 -/
def c111_e : XC := (.sO [.mv p2 (ci 0) tI] (.seq (.seq (.oX [.mv p3 q0 tI]) (.block 0 (.seq (.oX [.bn p5 .eql q3 (ci 3) .b, .mv p4 q5 .b]) (.cond q4 (.seq (.oX [.mv p2 (ci 1) tI]) .ret) (.seq (.oX [.bn p7 .eql q3 (ci 4) .b, .mv p6 q7 .b]) (.cond q6 (.seq (.oX [.mv p2 (ci 2) tI]) .ret) .skip)))))) (.sO [.mv p2 (ci 0) tI] (.s .ret))))
def x111 : XFn := ⟨[tI], false, [(.tmp p2)], c111_e⟩
def e111_0 (k t0 h) := kN k [(p0, (vI t0))] h
def S111_0 (D : CallD) (m : Nat) (t0 : Int) (h : HP) : Res2 :=
 let t5 := eqQ t0 (Int.ofNat 3)
 br t5 (
 some (.ret (vI (Int.ofNat 1)) h, .no)) (
 let t7 := eqQ t0 (Int.ofNat 4)
 br t7 (
 some (.ret (vI (Int.ofNat 2)) h, .no)) (
 some (.ret (vI (Int.ofNat 0)) h, .no)))
def S111 : SFn := fun D m args h u => nou u <| popI .i64 args fun t0 args => endA args (S111_0 D m t0 h)
theorem T111_0 (hE : FX x111 D m E) : S111_0 D m = e111_0 (E c111_e []) := by unfold S111_0; rw [hE c111_e]; kernel_rfl
theorem X111 : XTie S111 x111 := X_of fun D m E hE args h u => by unfold S111; rw [T111_0 hE]; kernel_rfl
/- 119 -/
def c119_e : XC := (.sO [.mv p2 (.c (.str [])) .s, .mv p3 (cb false) .b] (.sO [.mv p5 q0 .s, .cl p6 142 [q5, (.c (.str [48, 49, 50, 51, 52, 53, 54, 55, 56, 57]))] .s, .mv p4 q6 .s] (.sO [.mv p7 q4 .s, .mv p8 q4 .s, .P p9 (.lens q8) tI, .mv p10 q0 .s, .P p11 (.lens q10) tI, .bn p12 .lss q9 q11 .b, .mv p2 q7 .s, .mv p3 q12 .b] (.s .ret))))
def x119 : XFn := ⟨[.s], false, [(.tmp p2), (.tmp p3)], c119_e⟩
def e119_0 (k t0 h) := kN k [(p0, (vS t0))] h
def S119_0 (D : CallD) (m : Nat) (t0 : LN) (h : HP) : Res2 :=
 cal D 142 [(vS t0), (vS ([48, 49, 50, 51, 52, 53, 54, 55, 56, 57] : LN))] h fun t6 h1 =>
 asS t6 fun t6a =>
 let t9 := Int.ofNat (lenL t6a)
 let t11 := Int.ofNat (lenL t0)
 let t12 := ltQ t9 t11
 some (.ret (.tup [(vS t6a), (vB t12)]) h1, .no)
def S119 : SFn := fun D m args h u => nou u <| popS args fun t0 args => endA args (S119_0 D m t0 h)
theorem T119_0 (hE : FX x119 D m E) : S119_0 D m = e119_0 (E c119_e []) := by unfold S119_0; rw [hE c119_e]; kernel_rfl
theorem X119 : XTie S119 x119 := X_of fun D m E hE args h u => by unfold S119; rw [T119_0 hE]; kernel_rfl
/- 120 -/
def c120_e : XC := (.sO [.mv p4 (.c (.str [])) .s, .mv p5 (cb false) .b] (.sO [.mv p6 q0 .s, .mv p7 q1 .s, .cl p8 143 [q6, q7] .v, .P p9 (.ext q8 0) .s, .P p10 (.ext q8 1) .b, .mv p4 q9 .s, .mv p5 q10 .b] (.s .ret)))
def x120 : XFn := ⟨[.s, .s], false, [(.tmp p4), (.tmp p5)], c120_e⟩
def e120_0 (k t0 t1 h) := kN k [(p0, (vS t0)), (p1, (vS t1))] h
def S120_0 (D : CallD) (m : Nat) (t0 t1 : LN) (h : HP) : Res2 :=
 cal D 143 [(vS t0), (vS t1)] h fun t8 h1 =>
 extC t8 0 fun vt9 => asS vt9 fun t9 =>
 extC t8 1 fun vt10 => asB vt10 fun t10 =>
 some (.ret (.tup [(vS t9), (vB t10)]) h1, .no)
def S120 : SFn := fun D m args h u => nou u <| popS args fun t0 args => popS args fun t1 args => endA args (S120_0 D m t0 t1 h)
theorem T120_0 (hE : FX x120 D m E) : S120_0 D m = e120_0 (E c120_e []) := by unfold S120_0; rw [hE c120_e]; kernel_rfl
theorem X120 : XTie S120 x120 := X_of fun D m E hE args h u => by unfold S120; rw [T120_0 hE]; kernel_rfl
/- 121 -/
def c121_e : XC := (.sO [.mv p4 (.c (.flt .f64 0)) .v, .mv p5 (.c .nili) .v] (.sO [.mv p9 q0 .s, .mv p10 q1 tI, .cl p11 144 [q9, q10] .v, .mv p8 q11 .v, .P p12 (.ext q8 0) .v, .P p13 (.ext q8 1) .v, .mv p6 q12 .v, .mv p7 q13 .v] (.seq (.seq (.oX [.mv p14 q7 .v, .P p15 (.eqn .ifc true q14 (.c .nili)) .b]) (.cond q15 (.seq (.oX [.mv p16 q6 .v, .mv p17 q0 .s, .mv p18 q1 tI, .mv p19 q7 .v, .cl p20 96 [(.c (.str [80, 97, 114, 115, 101, 70, 108, 111, 97, 116])), q17, (ci 0), q18, q19] .v, .mv p4 q16 .v, .mv p5 q20 .v]) .ret) .skip)) (.sO [.mv p21 q6 .v, .mv p4 q21 .v, .mv p5 (.c .nili) .v] (.s .ret)))))
def x121 : XFn := ⟨[.s, tI], false, [(.tmp p4), (.tmp p5)], c121_e⟩
def e121_0 (k t0 t1 h) := kN k [(p0, (vS t0)), (p1, (vI t1))] h
def S121_0 (D : CallD) (m : Nat) (t0 : LN) (t1 : Int) (h : HP) : Res2 :=
 cal D 144 [(vS t0), (vI t1)] h fun t11 h1 =>
 extC t11 0 fun t12 =>
 extC t11 1 fun t13 =>
 obB (evP (.eqn .ifc true (.c t13) (.c (.nili : AV))) .leaf) fun t15 =>
 br t15 (
 cal D 96 [(vS ([80, 97, 114, 115, 101, 70, 108, 111, 97, 116] : LN)), (vS t0), (vI (Int.ofNat 0)), (vI t1), t13] h1 fun t20 h2 =>
 some (.ret (.tup [t12, t20]) h2, .no)) (
 some (.ret (.tup [t12, (.nili : AV)]) h1, .no))
def S121 : SFn := fun D m args h u => nou u <| popS args fun t0 args => popI .i64 args fun t1 args => endA args (S121_0 D m t0 t1 h)
theorem T121_0 (hE : FX x121 D m E) : S121_0 D m = e121_0 (E c121_e []) := by unfold S121_0; rw [hE c121_e]; kernel_rfl
theorem X121 : XTie S121 x121 := X_of fun D m E hE args h u => by unfold S121; rw [T121_0 hE]; kernel_rfl
/- 122 -/
def c122_e : XC := (.sO [.mv p2 (.c (.int .u64 (.ofNat 0))) (.i .u64)] (.seq (.seq (.oX [.mv p3 q0 .v, .cl p4 145 [q3] .b]) (.cond q4 (.seq (.oX [.mv p2 (.c (.int .u64 (.ofNat 9221120237041090560))) (.i .u64)]) .ret) .skip)) (.sO [.mv p5 q0 .v, .P p6 (.xt .fbits [q5]) (.i .u64), .mv p2 q6 (.i .u64)] (.s .ret))))
def x122 : XFn := ⟨[.v], false, [(.tmp p2)], c122_e⟩
def e122_0 (k t0 h) := kN k [(p0, t0)] h
def S122_0 (D : CallD) (m : Nat) (t0 : AV) (h : HP) : Res2 :=
 cal D 145 [t0] h fun t4 h1 =>
 asB t4 fun t4a =>
 br t4a (
 some (.ret (AV.int .u64 (Int.ofNat 9221120237041090560)) h1, .no)) (
 obI .u64 (evP (.xt .fbits [(.c t0)]) .leaf) fun t6 =>
 some (.ret (AV.int .u64 t6) h1, .no))
def S122 : SFn := fun D m args h u => nou u <| popV args fun t0 args => endA args (S122_0 D m t0 h)
theorem T122_0 (hE : FX x122 D m E) : S122_0 D m = e122_0 (E c122_e []) := by unfold S122_0; rw [hE c122_e]; kernel_rfl
theorem X122 : XTie S122 x122 := X_of fun D m E hE args h u => by unfold S122; rw [T122_0 hE]; kernel_rfl
/- 123 -/
def v123_4 : List Pos := [p13]
def c123_4 : XC := (.sO [.mv p171 q13 (.i .u64), .mv p6 q171 (.i .u64), .mv p7 (.c .nili) .v] (.s .ret))
def c123_6 : XC := (.cond q169 (.sO [.P p170 (.mkif 170 (ci 2)) .v, .mv p6 (.c (.int .u64 (.ofNat 0))) (.i .u64), .mv p7 q170 .v] (.s .ret)) (.s .skip))
def l123_5 : XL := (XL.of [])
def v123_3 : List Pos := [p9, p12, p13]
def c123_3 : XC := (.sj v123_4 (.opq false (XL.pre [.mv p164 q12 .b, .mv p165 q164 .b, .sp p165, .G p165 true p166 (.mov q9) .s, .o ⟨(some p167), (.call (.fn 148) [q166]), (some (p165, true)), []⟩ .b, .G p165 true p168 (.un .not q167) .b, .P p169 (.pick q165 q168 (cb false)) .b, .jn p165 [p13, p169]] l123_5) c123_6) c123_4)
def v123_8 : List Pos := [p1, p8, p9, p10, p11, p12, p13, p99, p100, p101]
def c123_8 : XC := (.s (.oX [.bn p163 .add q101 (ci 1) tI, .mv p101 q163 tI]))
def v123_9 : List Pos := [p1, p8, p9, p10, p11, p12, p13, p16, p99, p100, p101]
def c123_9 : XC := (.seq (.seq (.oX [.mv p134 q16 tC, .mv p135 q1 tI, .P p136 (.conv (.ii .u8) q135) tC, .bn p137 .geq q134 q136 .b]) (.cond q137 (.seq (.oX [.P p138 (.mkif 170 (ci 2)) .v, .mv p6 (.c (.int .u64 (.ofNat 0))) (.i .u64), .mv p7 q138 .v]) .ret) .skip)) (.seq (.seq (.oX [.mv p139 q13 (.i .u64), .mv p140 q10 (.i .u64), .bn p141 .geq q139 q140 .b]) (.cond q141 (.seq (.oX [.mv p142 q11 (.i .u64), .P p143 (.mkif 170 (ci 1)) .v, .mv p6 q142 (.i .u64), .mv p7 q143 .v]) .ret) .skip)) (.sO [.mv p144 q13 (.i .u64), .mv p145 q1 tI, .P p146 (.conv (.ii .u64) q145) (.i .u64), .bn p147 .mul q144 q146 (.i .u64), .mv p13 q147 (.i .u64)] (.sO [.mv p148 q13 (.i .u64), .mv p149 q16 tC, .P p150 (.conv (.ii .u64) q149) (.i .u64), .bn p151 .add q148 q150 (.i .u64), .mv p17 q151 (.i .u64)] (.seq (.seq (.oX [.mv p152 q17 (.i .u64), .mv p153 q13 (.i .u64), .bn p154 .lss q152 q153 .b, .mv p155 q154 .b, .ge p155 (XL.of [.G p155 false p156 (.mov q17) (.i .u64), .G p155 false p157 (.mov q11) (.i .u64), .G p155 false p158 (.bin .gtr q156 q157) .b, .P p159 (.pick q155 (cb true) q158) .b]) p159 .b]) (.cond q159 (.seq (.oX [.mv p160 q11 (.i .u64), .P p161 (.mkif 170 (ci 1)) .v, .mv p6 q160 (.i .u64), .mv p7 q161 .v]) .ret) .skip)) (.s (.oX [.mv p162 q17 (.i .u64), .mv p13 q162 (.i .u64)])))))))
def c123_11 : XC := (.cond q121 (.s (.oX [.mv p130 q15 tC, .cl p131 147 [q130] tC, .bn p132 .sub q131 (.c (.int .u8 (.ofNat 97))) tC, .bn p133 .add q132 (.c (.int .u8 (.ofNat 10))) tC, .mv p16 q133 tC])) (.sO [.P p105 (.mkif 170 (ci 2)) .v, .mv p6 (.c (.int .u64 (.ofNat 0))) (.i .u64), .mv p7 q105 .v] (.s .ret)))
def l123_10 : XL := (XL.of [.mv p121 q129 .b])
def v123_7 : List Pos := [p1, p8, p9, p10, p11, p12, p13, p99, p100, p101]
def c123_7b : XC := (.sO [.bn p102 .lss q101 q100 .b] (.seq (.cond q102 .skip (.exit 3)) (.sj v123_8 (.block 4 (.sO [.P p103 (.iaddr (.sl 1) q99 q101) .v, .ld p104 q103 tC, .mv p15 q104 tC] (.sO [.mv p16 (.c (.int .u8 (.ofNat 0))) tC] (.sj v123_9 (.block 5 (.sO [.mv p107 q15 tC, .bn p108 .eql q107 (.c (.int .u8 (.ofNat 95))) .b, .mv p109 q108 .b, .ge p109 (XL.of [.G p109 true p110 (.mov q8) .b, .P p111 (.pick q109 q110 (cb false)) .b]) p111 .b, .mv p106 q111 .b] (.cond q106 (.sO [.mv p12 (cb true) .b] (.s (.exit 4))) (.sO [.mv p113 q15 tC, .bn p114 .leq (.c (.int .u8 (.ofNat 48))) q113 .b, .mv p115 q114 .b, .ge p115 (XL.of [.G p115 true p116 (.mov q15) tC, .G p115 true p117 (.bin .leq q116 (.c (.int .u8 (.ofNat 57)))) .b, .P p118 (.pick q115 q117 (cb false)) .b]) p118 .b, .mv p112 q118 .b] (.cond q112 (.s (.oX [.mv p119 q15 tC, .bn p120 .sub q119 (.c (.int .u8 (.ofNat 48))) tC, .mv p16 q120 tC])) (.opq false (XL.pre [.mv p122 q15 tC, .cl p123 147 [q122] tC, .bn p124 .leq (.c (.int .u8 (.ofNat 97))) q123 .b, .mv p125 q124 .b, .sp p125, .G p125 true p126 (.mov q15) tC, .o ⟨(some p127), (.call (.fn 147) [q126]), (some (p125, true)), []⟩ tC, .G p125 true p128 (.bin .leq q127 (.c (.int .u8 (.ofNat 122)))) .b, .P p129 (.pick q125 q128 (cb false)) .b, .jn p125 [p1, p8, p9, p10, p11, p12, p13, p15, p99, p100, p101, p129]] l123_10) c123_11)))))) c123_9)))) c123_8)))
def v123_2 : List Pos := [p0, p1, p2, p8, p9, p10]
def c123_2 : XC := (.sO [.mv p94 q2 tI, .P p95 (.conv (.ii .u64) q94) (.i .u64), .bn p96 .shl (.c (.int .u64 (.ofNat 1))) q95 (.i .u64), .bn p97 .sub q96 (.c (.int .u64 (.ofNat 1))) (.i .u64), .mv p11 q97 (.i .u64)] (.sO [.mv p12 (cb false) .b] (.sO [.mv p13 (.c (.int .u64 (.ofNat 0))) (.i .u64)] (.sj v123_3 (.sO [.mv p98 q0 .s, .o ⟨(some p99), (.e (.sb q98)), none, []⟩ .v, .P p100 (.lenl q99) tI, .mv p101 (ci 0) tI] (.block 3 (.loop v123_7 c123_7b))) c123_3))))
def v123_1 : List Pos := [p0, p1, p2, p8, p9]
def c123_1 : XC := (.sO [.mv p10 (.c (.int .u64 (.ofNat 0))) (.i .u64)] (.sj v123_2 (.sO [.mv p85 q1 tI] (.block 2 (.sO [.bn p91 .eql q85 (ci 10) .b, .mv p90 q91 .b] (.cond q90 (.s (.oX [.mv p10 (.c (.int .u64 (.ofNat 1844674407370955162))) (.i .u64)])) (.sO [.bn p93 .eql q85 (ci 16) .b, .mv p92 q93 .b] (.cond q92 (.s (.oX [.mv p10 (.c (.int .u64 (.ofNat 1152921504606846976))) (.i .u64)])) (.s (.oX [.mv p86 q1 tI, .P p87 (.conv (.ii .u64) q86) (.i .u64), .bn p88 .quo (.c (.int .u64 (.ofNat 18446744073709551615))) q87 (.i .u64), .bn p89 .add q88 (.c (.int .u64 (.ofNat 1))) (.i .u64), .mv p10 q89 (.i .u64)])))))))) c123_2))
def v123_0 : List Pos := [p0, p1, p2, p8, p9]
def c123_0 : XC := (.sj v123_1 (.sO [.mv p76 q2 tI, .bn p77 .eql q76 (ci 0) .b] (.cond q77 (.s (.oX [.mv p2 (ci 64) tI])) (.sO [.mv p78 q2 tI, .bn p79 .lss q78 (ci 0) .b, .mv p80 q79 .b, .ge p80 (XL.of [.G p80 false p81 (.mov q2) tI, .G p80 false p82 (.bin .gtr q81 (ci 64)) .b, .P p83 (.pick q80 (cb true) q82) .b]) p83 .b] (.cond q83 (.sO [.P p84 (.mkif 170 (ci 4)) .v, .mv p6 (.c (.int .u64 (.ofNat 0))) (.i .u64), .mv p7 q84 .v] (.s .ret)) (.s .skip))))) c123_1)
def c123_15 : XC := (.cond q64 (.sO [.mv p1 (ci 16) tI] (.s (.oX [.mv p74 q0 .s, .P p75 (.slice .str q74 (some (ci 2)) none none) .s, .mv p0 q75 .s]))) (.sO [.mv p1 (ci 8) tI] (.s (.oX [.mv p38 q0 .s, .P p39 (.slice .str q38 (some (ci 1)) none none) .s, .mv p0 q39 .s]))))
def l123_14 : XL := (XL.of [.mv p64 q73 .b])
def c123_16 : XC := (.cond q52 (.sO [.mv p1 (ci 8) tI] (.s (.oX [.mv p62 q0 .s, .P p63 (.slice .str q62 (some (ci 2)) none none) .s, .mv p0 q63 .s]))) (.opq false (XL.pre [.mv p65 q0 .s, .P p66 (.lens q65) tI, .bn p67 .geq q66 (ci 3) .b, .mv p68 q67 .b, .sp p68, .G p68 true p69 (.mov q0) .s, .G p68 true p70 (.idxs q69 (ci 1)) tC, .o ⟨(some p71), (.call (.fn 147) [q70]), (some (p68, true)), []⟩ tC, .G p68 true p72 (.bin .eql q71 (.c (.int .u8 (.ofNat 120)))) .b, .P p73 (.pick q68 q72 (cb false)) .b, .jn p68 [p0, p2, p8, p9, p73]] l123_14) c123_15))
def l123_13 : XL := (XL.of [.mv p52 q61 .b])
def c123_17 : XC := (.cond q40 (.sO [.mv p1 (ci 2) tI] (.s (.oX [.mv p50 q0 .s, .P p51 (.slice .str q50 (some (ci 2)) none none) .s, .mv p0 q51 .s]))) (.opq false (XL.pre [.mv p53 q0 .s, .P p54 (.lens q53) tI, .bn p55 .geq q54 (ci 3) .b, .mv p56 q55 .b, .sp p56, .G p56 true p57 (.mov q0) .s, .G p56 true p58 (.idxs q57 (ci 1)) tC, .o ⟨(some p59), (.call (.fn 147) [q58]), (some (p56, true)), []⟩ tC, .G p56 true p60 (.bin .eql q59 (.c (.int .u8 (.ofNat 111)))) .b, .P p61 (.pick q56 q60 (cb false)) .b, .jn p56 [p0, p2, p8, p9, p61]] l123_13) c123_16))
def l123_12 : XL := (XL.of [.mv p40 q49 .b])
def c123_e : XC := (.sO [.mv p6 (.c (.int .u64 (.ofNat 0))) (.i .u64), .mv p7 (.c .nili) .v] (.seq (.seq (.oX [.mv p18 q0 .s, .bn p19 .eql q18 (.c (.str [])) .b]) (.cond q19 (.seq (.oX [.P p20 (.mkif 170 (ci 2)) .v, .mv p6 (.c (.int .u64 (.ofNat 0))) (.i .u64), .mv p7 q20 .v]) .ret) .skip)) (.sO [.mv p21 q1 tI, .bn p22 .eql q21 (ci 0) .b, .mv p8 q22 .b] (.sO [.mv p23 q0 .s, .mv p9 q23 .s] (.sj v123_0 (.block 0 (.sO [.mv p26 q1 tI, .bn p27 .leq (ci 2) q26 .b, .mv p28 q27 .b, .ge p28 (XL.of [.G p28 true p29 (.mov q1) tI, .G p28 true p30 (.bin .leq q29 (ci 36)) .b, .P p31 (.pick q28 q30 (cb false)) .b]) p31 .b, .mv p25 q31 .b] (.cond q25 (.s .skip) (.sO [.mv p33 q1 tI, .bn p34 .eql q33 (ci 0) .b, .mv p32 q34 .b] (.cond q32 (.sO [.mv p1 (ci 10) tI] (.sO [.mv p35 q0 .s, .P p36 (.idxs q35 (ci 0)) tC, .bn p37 .eql q36 (.c (.int .u8 (.ofNat 48))) .b] (.cond q37 (.block 1 (.opq false (XL.pre [.mv p41 q0 .s, .P p42 (.lens q41) tI, .bn p43 .geq q42 (ci 3) .b, .mv p44 q43 .b, .sp p44, .G p44 true p45 (.mov q0) .s, .G p44 true p46 (.idxs q45 (ci 1)) tC, .o ⟨(some p47), (.call (.fn 147) [q46]), (some (p44, true)), []⟩ tC, .G p44 true p48 (.bin .eql q47 (.c (.int .u8 (.ofNat 98)))) .b, .P p49 (.pick q44 q48 (cb false)) .b, .jn p44 [p0, p2, p8, p9, p49]] l123_12) c123_17)) (.s .skip)))) (.sO [.P p24 (.mkif 170 (ci 3)) .v, .mv p6 (.c (.int .u64 (.ofNat 0))) (.i .u64), .mv p7 q24 .v] (.s .ret))))))) c123_0)))))
def x123 : XFn := ⟨[.s, tI, tI], false, [(.tmp p6), (.tmp p7)], c123_e⟩
def e123_4 (k t13 h) := kN k [(p13, (AV.int .u64 t13))] h
def S123_4 (D : CallD) (m : Nat) (t13 : Int) (h : HP) : Res2 :=
 some (.ret (.tup [(AV.int .u64 t13), (.nili : AV)]) h, .no)
def e123_5 (k t13 t169 h) := kN k [(p13, (AV.int .u64 t13)), (p169, (vB t169))] h
def S123_5 (D : CallD) (m : Nat) (t13 : Int) (t169 : Bool) (h : HP) : Res2 :=
 br t169 (
 let t170 := (AV.iface 170 (vI (Int.ofNat 2)))
 some (.ret (.tup [(AV.int .u64 (Int.ofNat 0)), t170]) h, .no)) (
 S123_4 D m t13 h)
def e123_3 (k t9 t12 t13 h) := kN k [(p9, (vS t9)), (p12, (vB t12)), (p13, (AV.int .u64 t13))] h
def S123_3 (D : CallD) (m : Nat) (t9 : LN) (t12 : Bool) (t13 : Int) (h : HP) : Res2 :=
 br t12 (
 cal D 148 [(vS t9)] h fun t167 h19 =>
 asB t167 fun t167a =>
 let t168 := !t167a
 S123_5 D m t13 t168 h19) (
 S123_5 D m t13 false h)
def e123_8 (k t1 t8 t9 t10 t11 t12 t13 t99 t100 t101 h) := kN k [(p1, (vI t1)), (p8, (vB t8)), (p9, (vS t9)), (p10, (AV.int .u64 t10)), (p11, (AV.int .u64 t11)), (p12, (vB t12)), (p13, (AV.int .u64 t13)), (p99, t99), (p100, (vI t100)), (p101, (vI t101))] h
def S123_8 (D : CallD) (m : Nat) (g7 : Int → Bool → LN → Int → Int → Bool → Int → AV → Int → Int → HP → Res2) (t1 : Int) (t8 : Bool) (t9 : LN) (t10 t11 : Int) (t12 : Bool) (t13 : Int) (t99 : AV) (t100 t101 : Int) (h : HP) : Res2 :=
 let t163 := wrQ .i64 (addQ t101 (Int.ofNat 1))
 g7 t1 t8 t9 t10 t11 t12 t13 t99 t100 t163 h
def e123_9 (k t1 t8 t9 t10 t11 t12 t13 t16 t99 t100 t101 h) := kN k [(p1, (vI t1)), (p8, (vB t8)), (p9, (vS t9)), (p10, (AV.int .u64 t10)), (p11, (AV.int .u64 t11)), (p12, (vB t12)), (p13, (AV.int .u64 t13)), (p16, (vC t16)), (p99, t99), (p100, (vI t100)), (p101, (vI t101))] h
def S123_9 (D : CallD) (m : Nat) (g7 : Int → Bool → LN → Int → Int → Bool → Int → AV → Int → Int → HP → Res2) (t1 : Int) (t8 : Bool) (t9 : LN) (t10 t11 : Int) (t12 : Bool) (t13 t16 : Int) (t99 : AV) (t100 t101 : Int) (h : HP) : Res2 :=
 let t136 := wrapF .u8 t1
 let t137 := leQ t136 t16
 br t137 (
 let t138 := (AV.iface 170 (vI (Int.ofNat 2)))
 some (.ret (.tup [(AV.int .u64 (Int.ofNat 0)), t138]) h, .no)) (
 let t141 := leQ t10 t13
 br t141 (
 let t143 := (AV.iface 170 (vI (Int.ofNat 1)))
 some (.ret (.tup [(AV.int .u64 t11), t143]) h, .no)) (
 let t146 := wrapF .u64 t1
 let t147 := wrQ .u64 (t13 * t146)
 let t150 := wrapF .u64 t16
 let t151 := wrQ .u64 (addQ t147 t150)
 let t154 := ltQ t151 t147
 obB (brV t154 (
 some (vB true)) (
 let t158 := ltQ t11 t151
 some (vB t158))) fun t159 =>
 br t159 (
 let t161 := (AV.iface 170 (vI (Int.ofNat 1)))
 some (.ret (.tup [(AV.int .u64 t11), t161]) h, .no)) (
 S123_8 D m g7 t1 t8 t9 t10 t11 t12 t151 t99 t100 t101 h)))
def e123_10 (k t1 t8 t9 t10 t11 t12 t13 t15 t99 t100 t101 t129 h) := kN k [(p1, (vI t1)), (p8, (vB t8)), (p9, (vS t9)), (p10, (AV.int .u64 t10)), (p11, (AV.int .u64 t11)), (p12, (vB t12)), (p13, (AV.int .u64 t13)), (p15, (vC t15)), (p99, t99), (p100, (vI t100)), (p101, (vI t101)), (p129, (vB t129))] h
def S123_10 (D : CallD) (m : Nat) (g7 : Int → Bool → LN → Int → Int → Bool → Int → AV → Int → Int → HP → Res2) (t1 : Int) (t8 : Bool) (t9 : LN) (t10 t11 : Int) (t12 : Bool) (t13 t15 : Int) (t99 : AV) (t100 t101 : Int) (t129 : Bool) (h : HP) : Res2 :=
 br t129 (
 cal D 147 [(vC t15)] h fun t131 h23 =>
 asI .u8 t131 fun t131a =>
 let t132 := wrQ .u8 (t131a - (Int.ofNat 97))
 let t133 := wrQ .u8 (addQ t132 (Int.ofNat 10))
 S123_9 D m g7 t1 t8 t9 t10 t11 t12 t13 t133 t99 t100 t101 h23) (
 let t105 := (AV.iface 170 (vI (Int.ofNat 2)))
 some (.ret (.tup [(AV.int .u64 (Int.ofNat 0)), t105]) h, .no))
def e123_7 (k t1 t8 t9 t10 t11 t12 t13 t99 t100 t101 h) := kN k [(p1, (vI t1)), (p8, (vB t8)), (p9, (vS t9)), (p10, (AV.int .u64 t10)), (p11, (AV.int .u64 t11)), (p12, (vB t12)), (p13, (AV.int .u64 t13)), (p99, t99), (p100, (vI t100)), (p101, (vI t101))] h
def S123_7b (D : CallD) (m : Nat) (g7 : Int → Bool → LN → Int → Int → Bool → Int → AV → Int → Int → HP → Res2) (t1 : Int) (t8 : Bool) (t9 : LN) (t10 t11 : Int) (t12 : Bool) (t13 : Int) (t99 : AV) (t100 t101 : Int) (h : HP) : Res2 :=
 let t102 := ltQ t101 t100
 br t102 (
 iasC 1 t99 (vI t101) fun t103 =>
 ldC t103 h fun t104 =>
 let t108 := eqQ t104 (Int.ofNat 95)
 obB (brV t108 (
 some (vB t8)) (
 some (vB false))) fun t111 =>
 br t111 (
 S123_8 D m g7 t1 t8 t9 t10 t11 true t13 t99 t100 t101 h) (
 let t114 := leQ (Int.ofNat 48) t104
 obB (brV t114 (
 let t117 := leQ t104 (Int.ofNat 57)
 some (vB t117)) (
 some (vB false))) fun t118 =>
 br t118 (
 let t120 := wrQ .u8 (t104 - (Int.ofNat 48))
 S123_9 D m g7 t1 t8 t9 t10 t11 t12 t13 t120 t99 t100 t101 h) (
 cal D 147 [(vC t104)] h fun t123 h21 =>
 asI .u8 t123 fun t123a =>
 let t124 := leQ (Int.ofNat 97) t123a
 br t124 (
 cal D 147 [(vC t104)] h21 fun t127 h22 =>
 asI .u8 t127 fun t127a =>
 let t128 := leQ t127a (Int.ofNat 122)
 S123_10 D m g7 t1 t8 t9 t10 t11 t12 t13 t104 t99 t100 t101 t128 h22) (
 S123_10 D m g7 t1 t8 t9 t10 t11 t12 t13 t104 t99 t100 t101 false h21)))) (
 S123_3 D m t9 t12 t13 h)
def S123_7 (D : CallD) (m : Nat) : Int → Bool → LN → Int → Int → Bool → Int → AV → Int → Int → HP → Res2 := nrec (fun _ _ _ _ _ _ _ _ _ _ _ => none) (fun _ g => S123_7b D m g) m
def e123_2 (k t0 t1 t2 t8 t9 t10 h) := kN k [(p0, (vS t0)), (p1, (vI t1)), (p2, (vI t2)), (p8, (vB t8)), (p9, (vS t9)), (p10, (AV.int .u64 t10))] h
def S123_2 (D : CallD) (m : Nat) (t0 : LN) (t1 t2 : Int) (t8 : Bool) (t9 : LN) (t10 : Int) (h : HP) : Res2 :=
 let t95 := wrapF .u64 t2
 obI .u64 (shiftF .shl .u64 (Int.ofNat 1) t95) fun t96 =>
 let t97 := wrQ .u64 (t96 - (Int.ofNat 1))
 eff (.sb (.c (vS t0))) h fun t99 h20 =>
 lenC t99 fun vt100 => asI .i64 vt100 fun t100 =>
 S123_7 D m t1 t8 t9 t10 t97 false (Int.ofNat 0) t99 t100 (Int.ofNat 0) h20
def e123_1 (k t0 t1 t2 t8 t9 h) := kN k [(p0, (vS t0)), (p1, (vI t1)), (p2, (vI t2)), (p8, (vB t8)), (p9, (vS t9))] h
def S123_1 (D : CallD) (m : Nat) (t0 : LN) (t1 t2 : Int) (t8 : Bool) (t9 : LN) (h : HP) : Res2 :=
 let t91 := eqQ t1 (Int.ofNat 10)
 br t91 (
 S123_2 D m t0 t1 t2 t8 t9 (Int.ofNat 1844674407370955162) h) (
 let t93 := eqQ t1 (Int.ofNat 16)
 br t93 (
 S123_2 D m t0 t1 t2 t8 t9 (Int.ofNat 1152921504606846976) h) (
 let t87 := wrapF .u64 t1
 obI .u64 (intBin .quo .u64 (Int.ofNat 18446744073709551615) t87) fun t88 =>
 let t89 := wrQ .u64 (addQ t88 (Int.ofNat 1))
 S123_2 D m t0 t1 t2 t8 t9 t89 h))
def e123_0 (k t0 t1 t2 t8 t9 h) := kN k [(p0, (vS t0)), (p1, (vI t1)), (p2, (vI t2)), (p8, (vB t8)), (p9, (vS t9))] h
def S123_0 (D : CallD) (m : Nat) (t0 : LN) (t1 t2 : Int) (t8 : Bool) (t9 : LN) (h : HP) : Res2 :=
 let t77 := eqQ t2 (Int.ofNat 0)
 br t77 (
 S123_1 D m t0 t1 (Int.ofNat 64) t8 t9 h) (
 let t79 := ltQ t2 (Int.ofNat 0)
 obB (brV t79 (
 some (vB true)) (
 let t82 := ltQ (Int.ofNat 64) t2
 some (vB t82))) fun t83 =>
 br t83 (
 let t84 := (AV.iface 170 (vI (Int.ofNat 4)))
 some (.ret (.tup [(AV.int .u64 (Int.ofNat 0)), t84]) h, .no)) (
 S123_1 D m t0 t1 t2 t8 t9 h))
def e123_14 (k t0 t2 t8 t9 t73 h) := kN k [(p0, (vS t0)), (p2, (vI t2)), (p8, (vB t8)), (p9, (vS t9)), (p73, (vB t73))] h
def S123_14 (D : CallD) (m : Nat) (t0 : LN) (t2 : Int) (t8 : Bool) (t9 : LN) (t73 : Bool) (h : HP) : Res2 :=
 br t73 (
 slC (vS t0) (some (vI (Int.ofNat 2))) none fun vt75 => asS vt75 fun t75 =>
 S123_0 D m t75 (Int.ofNat 16) t2 t8 t9 h) (
 slC (vS t0) (some (vI (Int.ofNat 1))) none fun vt39 => asS vt39 fun t39 =>
 S123_0 D m t39 (Int.ofNat 8) t2 t8 t9 h)
def e123_13 (k t0 t2 t8 t9 t61 h) := kN k [(p0, (vS t0)), (p2, (vI t2)), (p8, (vB t8)), (p9, (vS t9)), (p61, (vB t61))] h
def S123_13 (D : CallD) (m : Nat) (t0 : LN) (t2 : Int) (t8 : Bool) (t9 : LN) (t61 : Bool) (h : HP) : Res2 :=
 br t61 (
 slC (vS t0) (some (vI (Int.ofNat 2))) none fun vt63 => asS vt63 fun t63 =>
 S123_0 D m t63 (Int.ofNat 8) t2 t8 t9 h) (
 let t66 := Int.ofNat (lenL t0)
 let t67 := leQ (Int.ofNat 3) t66
 br t67 (
 ixC (vS t0) (vI (Int.ofNat 1)) fun vt70 => asI .u8 vt70 fun t70 =>
 cal D 147 [(vC t70)] h fun t71 h26 =>
 asI .u8 t71 fun t71a =>
 let t72 := eqQ t71a (Int.ofNat 120)
 S123_14 D m t0 t2 t8 t9 t72 h26) (
 S123_14 D m t0 t2 t8 t9 false h))
def e123_12 (k t0 t2 t8 t9 t49 h) := kN k [(p0, (vS t0)), (p2, (vI t2)), (p8, (vB t8)), (p9, (vS t9)), (p49, (vB t49))] h
def S123_12 (D : CallD) (m : Nat) (t0 : LN) (t2 : Int) (t8 : Bool) (t9 : LN) (t49 : Bool) (h : HP) : Res2 :=
 br t49 (
 slC (vS t0) (some (vI (Int.ofNat 2))) none fun vt51 => asS vt51 fun t51 =>
 S123_0 D m t51 (Int.ofNat 2) t2 t8 t9 h) (
 let t54 := Int.ofNat (lenL t0)
 let t55 := leQ (Int.ofNat 3) t54
 br t55 (
 ixC (vS t0) (vI (Int.ofNat 1)) fun vt58 => asI .u8 vt58 fun t58 =>
 cal D 147 [(vC t58)] h fun t59 h25 =>
 asI .u8 t59 fun t59a =>
 let t60 := eqQ t59a (Int.ofNat 111)
 S123_13 D m t0 t2 t8 t9 t60 h25) (
 S123_13 D m t0 t2 t8 t9 false h))
def e123_18 (k t0 t1 t2 h) := kN k [(p0, (vS t0)), (p1, (vI t1)), (p2, (vI t2))] h
def S123_18 (D : CallD) (m : Nat) (t0 : LN) (t1 t2 : Int) (h : HP) : Res2 :=
 let t19 := eqL t0 ([] : LN)
 br t19 (
 let t20 := (AV.iface 170 (vI (Int.ofNat 2)))
 some (.ret (.tup [(AV.int .u64 (Int.ofNat 0)), t20]) h, .no)) (
 let t22 := eqQ t1 (Int.ofNat 0)
 let t27 := leQ (Int.ofNat 2) t1
 obB (brV t27 (
 let t30 := leQ t1 (Int.ofNat 36)
 some (vB t30)) (
 some (vB false))) fun t31 =>
 br t31 (
 S123_0 D m t0 t1 t2 t22 t0 h) (
 let t34 := eqQ t1 (Int.ofNat 0)
 br t34 (
 ixC (vS t0) (vI (Int.ofNat 0)) fun vt36 => asI .u8 vt36 fun t36 =>
 let t37 := eqQ t36 (Int.ofNat 48)
 br t37 (
 let t42 := Int.ofNat (lenL t0)
 let t43 := leQ (Int.ofNat 3) t42
 br t43 (
 ixC (vS t0) (vI (Int.ofNat 1)) fun vt46 => asI .u8 vt46 fun t46 =>
 cal D 147 [(vC t46)] h fun t47 h24 =>
 asI .u8 t47 fun t47a =>
 let t48 := eqQ t47a (Int.ofNat 98)
 S123_12 D m t0 t2 t22 t0 t48 h24) (
 S123_12 D m t0 t2 t22 t0 false h)) (
 S123_0 D m t0 (Int.ofNat 10) t2 t22 t0 h)) (
 let t24 := (AV.iface 170 (vI (Int.ofNat 3)))
 some (.ret (.tup [(AV.int .u64 (Int.ofNat 0)), t24]) h, .no))))
def S123 : SFn := fun D m args h u => nou u <| popS args fun t0 args => popI .i64 args fun t1 args => popI .i64 args fun t2 args => endA args (S123_18 D m t0 t1 t2 h)
theorem T123_4 (hE : FX x123 D m E) : S123_4 D m = e123_4 (E c123_4 []) := by unfold S123_4; rw [hE c123_4]; kernel_rfl
theorem T123_5 (hE : FX x123 D m E) : S123_5 D m = e123_5 (E (.opq false l123_5 c123_6) [.sj v123_4 c123_4]) := by unfold S123_5; rw [T123_4 hE, hE (.opq false l123_5 c123_6)]; kernel_rfl
theorem T123_3 (hE : FX x123 D m E) : S123_3 D m = e123_3 (E c123_3 []) := by unfold S123_3; rw [T123_5 hE, hE c123_3]; kernel_rfl
theorem T123_8 (hE : FX x123 D m E) (G7) : S123_8 D m (e123_7 G7) = e123_8 (E c123_8 [.lp v123_7 G7, .blk 3, .sj v123_3 c123_3]) := by unfold S123_8; rw [hE c123_8]; kernel_rfl
theorem T123_9 (hE : FX x123 D m E) (G7) : S123_9 D m (e123_7 G7) = e123_9 (E c123_9 [.blk 4, .sj v123_8 c123_8, .lp v123_7 G7, .blk 3, .sj v123_3 c123_3]) := by unfold S123_9; rw [T123_8 hE G7, hE c123_9]; kernel_rfl
theorem T123_10 (hE : FX x123 D m E) (G7) : S123_10 D m (e123_7 G7) = e123_10 (E (.opq false l123_10 c123_11) [.blk 5, .sj v123_9 c123_9, .blk 4, .sj v123_8 c123_8, .lp v123_7 G7, .blk 3, .sj v123_3 c123_3]) := by unfold S123_10; rw [T123_9 hE G7, hE (.opq false l123_10 c123_11)]; kernel_rfl
theorem T123_7b (hE : FX x123 D m E) (G7) : S123_7b D m (e123_7 G7) = e123_7 (E c123_7b [.lp v123_7 G7, .blk 3, .sj v123_3 c123_3]) := by unfold S123_7b; rw [T123_8 hE G7, T123_9 hE G7, T123_10 hE G7, T123_3 hE, hE c123_7b]; kernel_rfl
theorem T123_7 (hE : FX x123 D m E) : S123_7 D m = e123_7 (nrec (fun _ => none) (fun _ G7 st => E c123_7b [.lp v123_7 G7, .blk 3, .sj v123_3 c123_3] st) m) :=
  nrec_emb e123_7 (fun _ _ _ _ _ _ _ _ _ _ _ => none) (fun g => S123_7b D m g) (fun G7 st => E c123_7b [.lp v123_7 G7, .blk 3, .sj v123_3 c123_3] st) rfl (fun g => T123_7b hE g) m
theorem T123_2 (hE : FX x123 D m E) : S123_2 D m = e123_2 (E c123_2 []) := by unfold S123_2; rw [T123_7 hE, hE c123_2]; kernel_rfl
theorem T123_1 (hE : FX x123 D m E) : S123_1 D m = e123_1 (E c123_1 []) := by unfold S123_1; rw [T123_2 hE, hE c123_1]; kernel_rfl
theorem T123_0 (hE : FX x123 D m E) : S123_0 D m = e123_0 (E c123_0 []) := by unfold S123_0; rw [T123_1 hE, hE c123_0]; kernel_rfl
theorem T123_14 (hE : FX x123 D m E) : S123_14 D m = e123_14 (E (.opq false l123_14 c123_15) [.blk 1, .blk 0, .sj v123_0 c123_0]) := by unfold S123_14; rw [T123_0 hE, hE (.opq false l123_14 c123_15)]; kernel_rfl
theorem T123_13 (hE : FX x123 D m E) : S123_13 D m = e123_13 (E (.opq false l123_13 c123_16) [.blk 1, .blk 0, .sj v123_0 c123_0]) := by unfold S123_13; rw [T123_0 hE, T123_14 hE, hE (.opq false l123_13 c123_16)]; kernel_rfl
theorem T123_12 (hE : FX x123 D m E) : S123_12 D m = e123_12 (E (.opq false l123_12 c123_17) [.blk 1, .blk 0, .sj v123_0 c123_0]) := by unfold S123_12; rw [T123_0 hE, T123_13 hE, hE (.opq false l123_12 c123_17)]; kernel_rfl
theorem T123_18 (hE : FX x123 D m E) : S123_18 D m = e123_18 (E c123_e []) := by unfold S123_18; rw [T123_0 hE, T123_12 hE, hE c123_e]; kernel_rfl
theorem X123 : XTie S123 x123 := X_of fun D m E hE args h u => by unfold S123; rw [T123_18 hE]; kernel_rfl
/- 129 -/
def c129_e : XC := (.s (.oX [.ld p1 q0 .v, .P p2 (.nilck q1) .v, .fa p3 2 q2, .ld p4 q3 tI, .bn p5 .sub q4 (ci 1) tI, .P p6 (.nilck q1) .v, .fa p7 2 q6, .st q7 q5]))
def x129 : XFn := ⟨[.v], true, [], c129_e⟩
def e129_0 (k : St → Res2) (t0 : AV) (h : HP) (u : AMode) : Res2 := k ⟨mkT [(p0, t0)], h, [], u⟩
def S129_0 (D : CallD) (m : Nat) (t0 : AV) (h : HP) (u : AMode) : Res2 :=
 cellC t0 h fun t1 =>
 nilckC t1 fun t2 =>
 faC 2 t2 fun t3 =>
 ldI t3 h fun t4 =>
 let t5 := wrQ .i64 (t4 - (Int.ofNat 1))
 nilckC t1 fun t6 =>
 faC 2 t6 fun t7 =>
 stoC t7 (vI t5) h fun h1 =>
 some (.ret (.tup []) h1, u)
def S129 : SFn := fun D m args h u => popV args fun t0 args => endA args (S129_0 D m t0 h u)
theorem T129_0 (hE : FX x129 D m E) : S129_0 D m = e129_0 (E c129_e []) := by unfold S129_0; rw [hE c129_e]; kernel_rfl
theorem X129 : XTie S129 x129 := X_of fun D m E hE args h u => by unfold S129; rw [T129_0 hE]; kernel_rfl
/- 130 -/
def v130_1 : List Pos := [p2, p4]
def c130_1 : XC := (.sO [.L p67 (.cells 8 q4) .v, .ss 8 q2 q67] (.s .ret))
def c130_3 : XC := (.cond q62 (.sO [.fa p63 0 q4, .st q63 (ci 7)] (.s (.oX [.mv p64 q0 .v, .cl p65 151 [q64] .v, .fa p66 5 q4, .st q66 q65]))) (.s .skip))
def l130_2 : XL := (XL.of [])
def v130_0 : List Pos := [p0, p2, p4]
def c130_0 : XC := (.sO [.mv p49 q0 .v, .P p50 (.nilck q49) .v, .fa p51 1 q50, .ld p52 q51 tI, .bn p53 .add q52 (ci 1) tI, .P p54 (.nilck q49) .v, .fa p55 1 q54, .st q55 q53] (.sj v130_1 (.opq false (XL.pre [.fa p56 0 q4, .ld p57 q56 tI, .bn p58 .eql q57 (ci 3) .b, .mv p59 q58 .b, .sp p59, .G p59 true p60 (.mov q0) .v, .o ⟨(some p61), (.call (.fn 38) [q60, (.c (.str [40]))]), (some (p59, true)), []⟩ .b, .P p62 (.pick q59 q61 (cb false)) .b, .jn p59 [p0, p2, p4, p62]] l130_2) c130_3) c130_1))
def c130_e : XC := (.sO [.al p2 (.new [(kI 0), (.str []), (.str []), (.int .u32 (.ofNat 0)), (.int .u64 (.ofNat 0)), .nils, (kI 0), (kI 0)])] (.sO [.mv p7 q0 .v, .cl p8 23 [q7] .v, .al p3 (.new [(kI 0), (.str []), (kI 0)]), .ss 3 q3 q8] (.sO [.fa p9 2 q3, .ld p10 q9 tI, .P p11 (.build [(kI 0), (.str []), (.str []), (.int .u32 (.ofNat 0)), (.int .u64 (.ofNat 0)), .nils, (kI 0), (kI 0)] [⟨7, 1, q10⟩]) .v, .al p4 (.new [(kI 0), (.str []), (.str []), (.int .u32 (.ofNat 0)), (.int .u64 (.ofNat 0)), .nils, (kI 0), (kI 0)]), .ss 8 q4 q11] (.sj v130_0 (.sO [.fa p12 0 q3, .ld p13 q12 tI] (.block 0 (.sO [.bn p22 .eql q13 (ci 2) .b, .mv p21 q22 .b] (.cond q21 (.sO [.fa p24 1 q3, .ld p25 q24 .s, .cl p26 91 [q25, (ci 10), (ci 32)] .v, .mv p23 q26 .v, .P p27 (.ext q23 0) (.i .u64), .P p28 (.ext q23 1) .v, .mv p5 q27 (.i .u64), .mv p6 q28 .v] (.s (.oX [.mv p29 q5 (.i .u64), .P p30 (.conv (.ii .u32) q29) tW, .fa p31 0 q4, .st q31 (ci 1), .fa p32 3 q4, .st q32 q30]))) (.sO [.bn p34 .eql q13 (ci 3) .b, .mv p33 q34 .b] (.cond q33 (.sO [.fa p35 0 q4, .st q35 (ci 2)] (.s (.oX [.fa p37 1 q3, .ld p38 q37 .s, .cl p39 90 [q38] .v, .mv p36 q39 .v, .P p40 (.ext q36 0) (.i .u64), .P p41 (.ext q36 1) tI, .fa p42 4 q4, .st q42 q40]))) (.sO [.bn p44 .eql q13 (ci 1) .b, .mv p43 q44 .b] (.cond q43 (.s (.ops true (XL.of [.fa p45 1 q3, .ld p46 q45 .s, .fa p47 0 q4, .o ⟨none, (.e (.store q47 (ci 3))), none, [⟨none, .cell q45, p46⟩]⟩ .v, .fa p48 2 q4, .st q48 q46]))) (.sO [.mv p14 q0 .v, .cl p15 44 [q14, (.c (.str [40]))] .v] (.sO [.mv p16 q0 .v, .cl p17 46 [q16] .v, .ss 8 q4 q17] (.sO [.mv p18 q0 .v, .cl p19 44 [q18, (.c (.str [41]))] .v] (.sO [.L p20 (.cells 8 q4) .v, .ss 8 q2 q20] (.s .ret))))))))))))) c130_0))))
def x130 : XFn := ⟨[.v], false, [(.cells 8 p2)], c130_e⟩
def e130_1 (k t2 t4 h) := kN k [(p2, t2), (p4, t4)] h
def S130_1 (D : CallD) (m : Nat) (t2 t4 : AV) (h : HP) : Res2 :=
 cellsC 8 t4 h fun t67 =>
 stsC 8 t2 t67 h fun h12 =>
 cellsC 8 t2 h12 fun t2a =>
 some (.ret t2a h12, .no)
def e130_2 (k t0 t2 t4 t62 h) := kN k [(p0, t0), (p2, t2), (p4, t4), (p62, (vB t62))] h
def S130_2 (D : CallD) (m : Nat) (t0 t2 t4 : AV) (t62 : Bool) (h : HP) : Res2 :=
 br t62 (
 faC 0 t4 fun t63 =>
 stoC t63 (vI (Int.ofNat 7)) h fun h14 =>
 cal D 151 [t0] h14 fun t65 h15 =>
 faC 5 t4 fun t66 =>
 stoC t66 t65 h15 fun h16 =>
 S130_1 D m t2 t4 h16) (
 S130_1 D m t2 t4 h)
def e130_0 (k t0 t2 t4 h) := kN k [(p0, t0), (p2, t2), (p4, t4)] h
def S130_0 (D : CallD) (m : Nat) (t0 t2 t4 : AV) (h : HP) : Res2 :=
 nilckC t0 fun t50 =>
 faC 1 t50 fun t51 =>
 ldI t51 h fun t52 =>
 let t53 := wrQ .i64 (addQ t52 (Int.ofNat 1))
 nilckC t0 fun t54 =>
 faC 1 t54 fun t55 =>
 stoC t55 (vI t53) h fun h11 =>
 faC 0 t4 fun t56 =>
 ldI t56 h11 fun t57 =>
 let t58 := eqQ t57 (Int.ofNat 3)
 br t58 (
 cal D 38 [t0, (vS ([40] : LN))] h11 fun t61 h13 =>
 asB t61 fun t61a =>
 S130_2 D m t0 t2 t4 t61a h13) (
 S130_2 D m t0 t2 t4 false h11)
def e130_4 (k t0 h) := kN k [(p0, t0)] h
def S130_4 (D : CallD) (m : Nat) (t0 : AV) (h : HP) : Res2 :=
 let t2 := AV.ptr (HP.nxQ h) 0
 let h5 := HP.newQ h (.cells true [(kI 0), (.str []), (.str []), (.int .u32 (.ofNat 0)), (.int .u64 (.ofNat 0)), .nils, (kI 0), (kI 0)])
 cal D 23 [t0] h5 fun t8 h6 =>
 let t3 := AV.ptr (HP.nxQ h6) 0
 let h7 := HP.newQ h6 (.cells true [(kI 0), (.str []), (kI 0)])
 stsC 3 t3 t8 h7 fun h8 =>
 let t9 := (AV.ptr (HP.nxQ h6) (Nat.add 0 2))
 ldI t9 h8 fun t10 =>
 let t11 := (AV.agg [(vI (Int.ofNat 0)), (vS ([] : LN)), (vS ([] : LN)), (vW (Int.ofNat 0)), (AV.int .u64 (Int.ofNat 0)), (.nils : AV), (vI (Int.ofNat 0)), (vI t10)])
 let t4 := AV.ptr (HP.nxQ h8) 0
 let h9 := HP.newQ h8 (.cells true [(kI 0), (.str []), (.str []), (.int .u32 (.ofNat 0)), (.int .u64 (.ofNat 0)), .nils, (kI 0), (kI 0)])
 stsC 8 t4 t11 h9 fun h10 =>
 let t12 := (AV.ptr (HP.nxQ h6) (Nat.add 0 0))
 ldI t12 h10 fun t13 =>
 let t22 := eqQ t13 (Int.ofNat 2)
 br t22 (
 let t24 := (AV.ptr (HP.nxQ h6) (Nat.add 0 1))
 ldS t24 h10 fun t25 =>
 cal D 91 [(vS t25), (vI (Int.ofNat 10)), (vI (Int.ofNat 32))] h10 fun t26 h17 =>
 extC t26 0 fun vt27 => asI .u64 vt27 fun t27 =>
 extC t26 1 fun t28 =>
 let t30 := wrapF .u32 t27
 let t31 := (AV.ptr (HP.nxQ h8) (Nat.add 0 0))
 stoC t31 (vI (Int.ofNat 1)) h17 fun h18 =>
 let t32 := (AV.ptr (HP.nxQ h8) (Nat.add 0 3))
 stoC t32 (vW t30) h18 fun h19 =>
 S130_0 D m t0 t2 t4 h19) (
 let t34 := eqQ t13 (Int.ofNat 3)
 br t34 (
 let t35 := (AV.ptr (HP.nxQ h8) (Nat.add 0 0))
 stoC t35 (vI (Int.ofNat 2)) h10 fun h20 =>
 let t37 := (AV.ptr (HP.nxQ h6) (Nat.add 0 1))
 ldS t37 h20 fun t38 =>
 cal D 90 [(vS t38)] h20 fun t39 h21 =>
 extC t39 0 fun vt40 => asI .u64 vt40 fun t40 =>
 extC t39 1 fun vt41 => asI .i64 vt41 fun t41 =>
 let t42 := (AV.ptr (HP.nxQ h8) (Nat.add 0 4))
 stoC t42 (AV.int .u64 t40) h21 fun h22 =>
 S130_0 D m t0 t2 t4 h22) (
 let t44 := eqQ t13 (Int.ofNat 1)
 br t44 (
 let t45 := (AV.ptr (HP.nxQ h6) (Nat.add 0 1))
 ldS t45 h10 fun t46 =>
 let t47 := (AV.ptr (HP.nxQ h8) (Nat.add 0 0))
 stoC t47 (vI (Int.ofNat 3)) h10 fun h23 =>
 br (againE (.store q47 (ci 3)) [⟨none, .cell q45, p46⟩] (mkT [(p47, t47), (p46, (vS t46)), (p45, t45)]) h23) (
 let t48 := (AV.ptr (HP.nxQ h8) (Nat.add 0 2))
 stoC t48 (vS t46) h23 fun h24 =>
 S130_0 D m t0 t2 t4 h24) none) (
 cal D 44 [t0, (vS ([40] : LN))] h10 fun t15 h25 =>
 cal D 46 [t0] h25 fun t17 h26 =>
 stsC 8 t4 t17 h26 fun h27 =>
 cal D 44 [t0, (vS ([41] : LN))] h27 fun t19 h28 =>
 cellsC 8 t4 h28 fun t20 =>
 stsC 8 t2 t20 h28 fun h29 =>
 cellsC 8 t2 h29 fun t2a =>
 some (.ret t2a h29, .no))))
def S130 : SFn := fun D m args h u => nou u <| popV args fun t0 args => endA args (S130_4 D m t0 h)
theorem T130_1 (hE : FX x130 D m E) : S130_1 D m = e130_1 (E c130_1 []) := by unfold S130_1; rw [hE c130_1]; kernel_rfl
theorem T130_2 (hE : FX x130 D m E) : S130_2 D m = e130_2 (E (.opq false l130_2 c130_3) [.sj v130_1 c130_1]) := by unfold S130_2; rw [T130_1 hE, hE (.opq false l130_2 c130_3)]; kernel_rfl
theorem T130_0 (hE : FX x130 D m E) : S130_0 D m = e130_0 (E c130_0 []) := by unfold S130_0; rw [T130_2 hE, hE c130_0]; kernel_rfl
theorem T130_4 (hE : FX x130 D m E) : S130_4 D m = e130_4 (E c130_e []) := by unfold S130_4; rw [T130_0 hE, hE c130_e]; kernel_rfl
theorem X130 : XTie S130 x130 := X_of fun D m E hE args h u => by unfold S130; rw [T130_4 hE]; kernel_rfl
/- 132 -/
def v132_0 : List Pos := [p0, p1]
def c132_0 : XC := (.sO [.mv p45 q0 tI, .P p46 (.conv (.ii .u64) q45) (.i .u64), .mv p47 q1 tI, .mv p48 q0 tI, .bn p49 .lss q48 (ci 0) .b, .cl p50 155 [(.c .nils), q46, q47, q49, (cb false)] .v, .mv p44 q50 .v, .P p51 (.ext q44 0) .v, .P p52 (.ext q44 1) .s, .mv p8 q51 .v, .mv p9 q52 .s] (.sO [.mv p53 q9 .s, .mv p4 q53 .s] (.s .ret)))
def v132_1 : List Pos := [p0, p5, p6]
def c132_1 : XC := (.sO [.mv p26 q6 (.i .u64), .cl p27 153 [q26] tI, .mv p7 q27 tI] (.sO [.mv p28 q7 tI, .bn p29 .add (ci 1) q28 tI, .P p30 (.slice (.arr 24 1) q5 (some (ci 1)) (some q29) none) .v, .mv p31 q6 (.i .u64), .cl p32 154 [q30, q31] .v] (.seq (.seq (.oX [.mv p33 q0 tI, .bn p34 .lss q33 (ci 0) .b]) (.cond q34 (.seq (.oX [.P p35 (.iaddr (.arr 24 1) q5 (ci 0)) .v, .st q35 (.c (.int .u8 (.ofNat 45)))]) (.seq (.oX [.mv p36 q7 tI, .bn p37 .add (ci 1) q36 tI, .P p38 (.slice (.arr 24 1) q5 none (some q37) none) .v, .L p39 (.bstr q38) .s, .mv p4 q39 .s]) .ret)) .skip)) (.sO [.mv p40 q7 tI, .bn p41 .add (ci 1) q40 tI, .P p42 (.slice (.arr 24 1) q5 (some (ci 1)) (some q41) none) .v, .L p43 (.bstr q42) .s, .mv p4 q43 .s] (.s .ret)))))
def c132_e : XC := (.sO [.mv p4 (.c (.str [])) .s] (.sj v132_0 (.sO [.mv p10 q1 tI, .bn p11 .eql q10 (ci 10) .b] (.cond q11 (.seq (.seq (.oX [.mv p12 q0 tI, .bn p13 .leq (ci 0) q12 .b, .mv p14 q13 .b, .ge p14 (XL.of [.G p14 true p15 (.mov q0) tI, .G p14 true p16 (.bin .lss q15 (ci 100)) .b, .P p17 (.pick q14 q16 (cb false)) .b]) p17 .b]) (.cond q17 (.seq (.oX [.mv p18 q0 tI, .cl p19 152 [q18] .s, .mv p4 q19 .s]) .ret) .skip)) (.sO [.al p5 (.new [(.int .u8 (.ofNat 0)), (.int .u8 (.ofNat 0)), (.int .u8 (.ofNat 0)), (.int .u8 (.ofNat 0)), (.int .u8 (.ofNat 0)), (.int .u8 (.ofNat 0)), (.int .u8 (.ofNat 0)), (.int .u8 (.ofNat 0)), (.int .u8 (.ofNat 0)), (.int .u8 (.ofNat 0)), (.int .u8 (.ofNat 0)), (.int .u8 (.ofNat 0)), (.int .u8 (.ofNat 0)), (.int .u8 (.ofNat 0)), (.int .u8 (.ofNat 0)), (.int .u8 (.ofNat 0)), (.int .u8 (.ofNat 0)), (.int .u8 (.ofNat 0)), (.int .u8 (.ofNat 0)), (.int .u8 (.ofNat 0)), (.int .u8 (.ofNat 0)), (.int .u8 (.ofNat 0)), (.int .u8 (.ofNat 0)), (.int .u8 (.ofNat 0))])] (.sO [.mv p20 q0 tI, .P p21 (.conv (.ii .u64) q20) (.i .u64), .mv p6 q21 (.i .u64)] (.sj v132_1 (.sO [.mv p22 q0 tI, .bn p23 .lss q22 (ci 0) .b] (.cond q23 (.s (.oX [.mv p24 q6 (.i .u64), .P p25 (.un .neg q24) (.i .u64), .mv p6 q25 (.i .u64)])) (.s .skip))) c132_1)))) (.s .skip))) c132_0))
def x132 : XFn := ⟨[tI, tI], false, [(.tmp p4)], c132_e⟩
def e132_0 (k t0 t1 h) := kN k [(p0, (vI t0)), (p1, (vI t1))] h
def S132_0 (D : CallD) (m : Nat) (t0 t1 : Int) (h : HP) : Res2 :=
 let t46 := wrapF .u64 t0
 let t49 := ltQ t0 (Int.ofNat 0)
 cal D 155 [(.nils : AV), (AV.int .u64 t46), (vI t1), (vB t49), (vB false)] h fun t50 h3 =>
 extC t50 0 fun t51 =>
 extC t50 1 fun vt52 => asS vt52 fun t52 =>
 some (.ret (vS t52) h3, .no)
def e132_1 (k t0 t5 t6 h) := kN k [(p0, (vI t0)), (p5, t5), (p6, (AV.int .u64 t6))] h
def S132_1 (D : CallD) (m : Nat) (t0 : Int) (t5 : AV) (t6 : Int) (h : HP) : Res2 :=
 cal D 153 [(AV.int .u64 t6)] h fun t27 h6 =>
 asI .i64 t27 fun t27a =>
 let t29 := wrQ .i64 (addQ (Int.ofNat 1) t27a)
 obQ (evP (.slice (.arr 24 1) (.c t5) (some (.c (vI (Int.ofNat 1)))) (some (.c (vI t29))) none) .leaf) fun t30 =>
 cal D 154 [t30, (AV.int .u64 t6)] h6 fun t32 h7 =>
 let t34 := ltQ t0 (Int.ofNat 0)
 br t34 (
 iarC 24 1 t5 (vI (Int.ofNat 0)) fun t35 =>
 stoC t35 (vC (Int.ofNat 45)) h7 fun h8 =>
 let t37 := wrQ .i64 (addQ (Int.ofNat 1) t27a)
 obQ (evP (.slice (.arr 24 1) (.c t5) none (some (.c (vI t37))) none) .leaf) fun t38 =>
 obS (bstrV t38 h8) fun t39 =>
 some (.ret (vS t39) h8, .no)) (
 let t41 := wrQ .i64 (addQ (Int.ofNat 1) t27a)
 obQ (evP (.slice (.arr 24 1) (.c t5) (some (.c (vI (Int.ofNat 1)))) (some (.c (vI t41))) none) .leaf) fun t42 =>
 obS (bstrV t42 h7) fun t43 =>
 some (.ret (vS t43) h7, .no))
def e132_2 (k t0 t1 h) := kN k [(p0, (vI t0)), (p1, (vI t1))] h
def S132_2 (D : CallD) (m : Nat) (t0 t1 : Int) (h : HP) : Res2 :=
 let t11 := eqQ t1 (Int.ofNat 10)
 br t11 (
 let t13 := leQ (Int.ofNat 0) t0
 obB (brV t13 (
 let t16 := ltQ t0 (Int.ofNat 100)
 some (vB t16)) (
 some (vB false))) fun t17 =>
 br t17 (
 cal D 152 [(vI t0)] h fun t19 h4 =>
 asS t19 fun t19a =>
 some (.ret (vS t19a) h4, .no)) (
 let t5 := AV.ptr (HP.nxQ h) 0
 let h5 := HP.newQ h (.cells true [(.int .u8 (.ofNat 0)), (.int .u8 (.ofNat 0)), (.int .u8 (.ofNat 0)), (.int .u8 (.ofNat 0)), (.int .u8 (.ofNat 0)), (.int .u8 (.ofNat 0)), (.int .u8 (.ofNat 0)), (.int .u8 (.ofNat 0)), (.int .u8 (.ofNat 0)), (.int .u8 (.ofNat 0)), (.int .u8 (.ofNat 0)), (.int .u8 (.ofNat 0)), (.int .u8 (.ofNat 0)), (.int .u8 (.ofNat 0)), (.int .u8 (.ofNat 0)), (.int .u8 (.ofNat 0)), (.int .u8 (.ofNat 0)), (.int .u8 (.ofNat 0)), (.int .u8 (.ofNat 0)), (.int .u8 (.ofNat 0)), (.int .u8 (.ofNat 0)), (.int .u8 (.ofNat 0)), (.int .u8 (.ofNat 0)), (.int .u8 (.ofNat 0))])
 let t21 := wrapF .u64 t0
 let t23 := ltQ t0 (Int.ofNat 0)
 br t23 (
 let t25 := IntKind.wrap .u64 (0 - t21)
 S132_1 D m t0 t5 t25 h5) (
 S132_1 D m t0 t5 t21 h5))) (
 S132_0 D m t0 t1 h)
def S132 : SFn := fun D m args h u => nou u <| popI .i64 args fun t0 args => popI .i64 args fun t1 args => endA args (S132_2 D m t0 t1 h)
theorem T132_0 (hE : FX x132 D m E) : S132_0 D m = e132_0 (E c132_0 []) := by unfold S132_0; rw [hE c132_0]; kernel_rfl
theorem T132_1 (hE : FX x132 D m E) : S132_1 D m = e132_1 (E c132_1 [.sj v132_0 c132_0]) := by unfold S132_1; rw [hE c132_1]; kernel_rfl
theorem T132_2 (hE : FX x132 D m E) : S132_2 D m = e132_2 (E c132_e []) := by unfold S132_2; rw [T132_1 hE, T132_0 hE, hE c132_e]; kernel_rfl
theorem X132 : XTie S132 x132 := X_of fun D m E hE args h u => by unfold S132; rw [T132_2 hE]; kernel_rfl
/- 142 -/
def c142_e : XC := (.sO [.mv p4 (.c (.str [])) .s] (.seq (.seq (.oX [.mv p7 q0 .s, .bn p8 .eql q7 (.c (.str [])) .b, .mv p9 q8 .b, .ge p9 (XL.of [.G p9 false p10 (.mov q1) .s, .G p9 false p11 (.bin .eql q10 (.c (.str []))) .b, .P p12 (.pick q9 (cb true) q11) .b]) p12 .b]) (.cond q12 (.seq (.oX [.mv p13 q0 .s, .mv p4 q13 .s]) .ret) .skip)) (.seq (.seq (.oX [.mv p14 q1 .s, .P p15 (.lens q14) tI, .bn p16 .eql q15 (ci 1) .b, .mv p17 q16 .b, .ge p17 (XL.of [.G p17 true p18 (.mov q1) .s, .G p17 true p19 (.idxs q18 (ci 0)) tC, .G p17 true p20 (.bin .lss q19 (.c (.int .u8 (.ofNat 128)))) .b, .P p21 (.pick q17 q20 (cb false)) .b]) p21 .b]) (.cond q21 (.seq (.oX [.mv p22 q0 .s, .mv p23 q1 .s, .P p24 (.idxs q23 (ci 0)) tC, .cl p25 162 [q22, q24] .s, .mv p4 q25 .s]) .ret) .skip)) (.seq (.seq (.oX [.mv p27 q1 .s, .cl p28 163 [q27] .v, .mv p26 q28 .v, .P p29 (.ext q26 0) .v, .P p30 (.ext q26 1) .b, .al p5 (.new [(.bool false), (.bool false), (.bool false), (.bool false), (.bool false), (.bool false), (.bool false), (.bool false), (.bool false), (.bool false), (.bool false), (.bool false), (.bool false), (.bool false), (.bool false), (.bool false), (.bool false), (.bool false), (.bool false), (.bool false), (.bool false), (.bool false), (.bool false), (.bool false), (.bool false), (.bool false), (.bool false), (.bool false), (.bool false), (.bool false), (.bool false), (.bool false), (.bool false), (.bool false), (.bool false), (.bool false), (.bool false), (.bool false), (.bool false), (.bool false), (.bool false), (.bool false), (.bool false), (.bool false), (.bool false), (.bool false), (.bool false), (.bool false), (.bool false), (.bool false), (.bool false), (.bool false), (.bool false), (.bool false), (.bool false), (.bool false), (.bool false), (.bool false), (.bool false), (.bool false), (.bool false), (.bool false), (.bool false), (.bool false), (.bool false), (.bool false), (.bool false), (.bool false), (.bool false), (.bool false), (.bool false), (.bool false), (.bool false), (.bool false), (.bool false), (.bool false), (.bool false), (.bool false), (.bool false), (.bool false), (.bool false), (.bool false), (.bool false), (.bool false), (.bool false), (.bool false), (.bool false), (.bool false), (.bool false), (.bool false), (.bool false), (.bool false), (.bool false), (.bool false), (.bool false), (.bool false), (.bool false), (.bool false), (.bool false), (.bool false), (.bool false), (.bool false), (.bool false), (.bool false), (.bool false), (.bool false), (.bool false), (.bool false), (.bool false), (.bool false), (.bool false), (.bool false), (.bool false), (.bool false), (.bool false), (.bool false), (.bool false), (.bool false), (.bool false), (.bool false), (.bool false), (.bool false), (.bool false), (.bool false), (.bool false), (.bool false), (.bool false), (.bool false), (.bool false), (.bool false), (.bool false), (.bool false), (.bool false), (.bool false), (.bool false), (.bool false), (.bool false), (.bool false), (.bool false), (.bool false), (.bool false), (.bool false), (.bool false), (.bool false), (.bool false), (.bool false), (.bool false), (.bool false), (.bool false), (.bool false), (.bool false), (.bool false), (.bool false), (.bool false), (.bool false), (.bool false), (.bool false), (.bool false), (.bool false), (.bool false), (.bool false), (.bool false), (.bool false), (.bool false), (.bool false), (.bool false), (.bool false), (.bool false), (.bool false), (.bool false), (.bool false), (.bool false), (.bool false), (.bool false), (.bool false), (.bool false), (.bool false), (.bool false), (.bool false), (.bool false), (.bool false), (.bool false), (.bool false), (.bool false), (.bool false), (.bool false), (.bool false), (.bool false), (.bool false), (.bool false), (.bool false), (.bool false), (.bool false), (.bool false), (.bool false), (.bool false), (.bool false), (.bool false), (.bool false), (.bool false), (.bool false), (.bool false), (.bool false), (.bool false), (.bool false), (.bool false), (.bool false), (.bool false), (.bool false), (.bool false), (.bool false), (.bool false), (.bool false), (.bool false), (.bool false), (.bool false), (.bool false), (.bool false), (.bool false), (.bool false), (.bool false), (.bool false), (.bool false), (.bool false), (.bool false), (.bool false), (.bool false), (.bool false), (.bool false), (.bool false), (.bool false), (.bool false), (.bool false), (.bool false), (.bool false), (.bool false), (.bool false), (.bool false), (.bool false), (.bool false), (.bool false), (.bool false), (.bool false), (.bool false), (.bool false), (.bool false), (.bool false), (.bool false), (.bool false), (.bool false), (.bool false), (.bool false), (.bool false), (.bool false), (.bool false), (.bool false)]), .ss 256 q5 q29, .mv p6 q30 .b]) (.seq (.oX [.mv p31 q6 .b]) (.cond q31 (.seq (.oX [.mv p32 q0 .s, .cl p33 164 [q32, q5] .s, .mv p4 q33 .s]) .ret) .skip))) (.sO [.mv p34 q0 .s, .mv p35 q1 .s, .cl p36 165 [q34, q35] .s, .mv p4 q36 .s] (.s .ret))))))
def x142 : XFn := ⟨[.s, .s], false, [(.tmp p4)], c142_e⟩
def e142_0 (k t0 t1 h) := kN k [(p0, (vS t0)), (p1, (vS t1))] h
def S142_0 (D : CallD) (m : Nat) (t0 t1 : LN) (h : HP) : Res2 :=
 let t8 := eqL t0 ([] : LN)
 obB (brV t8 (
 some (vB true)) (
 let t11 := eqL t1 ([] : LN)
 some (vB t11))) fun t12 =>
 br t12 (
 some (.ret (vS t0) h, .no)) (
 let t15 := Int.ofNat (lenL t1)
 let t16 := eqQ t15 (Int.ofNat 1)
 obB (brV t16 (
 ixCV (vS t1) (vI (Int.ofNat 0)) fun vt19 => asIV .u8 vt19 fun t19 =>
 let t20 := ltQ t19 (Int.ofNat 128)
 some (vB t20)) (
 some (vB false))) fun t21 =>
 br t21 (
 ixC (vS t1) (vI (Int.ofNat 0)) fun vt24 => asI .u8 vt24 fun t24 =>
 cal D 162 [(vS t0), (vC t24)] h fun t25 h1 =>
 asS t25 fun t25a =>
 some (.ret (vS t25a) h1, .no)) (
 cal D 163 [(vS t1)] h fun t28 h2 =>
 extC t28 0 fun t29 =>
 extC t28 1 fun vt30 => asB vt30 fun t30 =>
 let t5 := AV.ptr (HP.nxQ h2) 0
 let h3 := HP.newQ h2 (.cells true [(.bool false), (.bool false), (.bool false), (.bool false), (.bool false), (.bool false), (.bool false), (.bool false), (.bool false), (.bool false), (.bool false), (.bool false), (.bool false), (.bool false), (.bool false), (.bool false), (.bool false), (.bool false), (.bool false), (.bool false), (.bool false), (.bool false), (.bool false), (.bool false), (.bool false), (.bool false), (.bool false), (.bool false), (.bool false), (.bool false), (.bool false), (.bool false), (.bool false), (.bool false), (.bool false), (.bool false), (.bool false), (.bool false), (.bool false), (.bool false), (.bool false), (.bool false), (.bool false), (.bool false), (.bool false), (.bool false), (.bool false), (.bool false), (.bool false), (.bool false), (.bool false), (.bool false), (.bool false), (.bool false), (.bool false), (.bool false), (.bool false), (.bool false), (.bool false), (.bool false), (.bool false), (.bool false), (.bool false), (.bool false), (.bool false), (.bool false), (.bool false), (.bool false), (.bool false), (.bool false), (.bool false), (.bool false), (.bool false), (.bool false), (.bool false), (.bool false), (.bool false), (.bool false), (.bool false), (.bool false), (.bool false), (.bool false), (.bool false), (.bool false), (.bool false), (.bool false), (.bool false), (.bool false), (.bool false), (.bool false), (.bool false), (.bool false), (.bool false), (.bool false), (.bool false), (.bool false), (.bool false), (.bool false), (.bool false), (.bool false), (.bool false), (.bool false), (.bool false), (.bool false), (.bool false), (.bool false), (.bool false), (.bool false), (.bool false), (.bool false), (.bool false), (.bool false), (.bool false), (.bool false), (.bool false), (.bool false), (.bool false), (.bool false), (.bool false), (.bool false), (.bool false), (.bool false), (.bool false), (.bool false), (.bool false), (.bool false), (.bool false), (.bool false), (.bool false), (.bool false), (.bool false), (.bool false), (.bool false), (.bool false), (.bool false), (.bool false), (.bool false), (.bool false), (.bool false), (.bool false), (.bool false), (.bool false), (.bool false), (.bool false), (.bool false), (.bool false), (.bool false), (.bool false), (.bool false), (.bool false), (.bool false), (.bool false), (.bool false), (.bool false), (.bool false), (.bool false), (.bool false), (.bool false), (.bool false), (.bool false), (.bool false), (.bool false), (.bool false), (.bool false), (.bool false), (.bool false), (.bool false), (.bool false), (.bool false), (.bool false), (.bool false), (.bool false), (.bool false), (.bool false), (.bool false), (.bool false), (.bool false), (.bool false), (.bool false), (.bool false), (.bool false), (.bool false), (.bool false), (.bool false), (.bool false), (.bool false), (.bool false), (.bool false), (.bool false), (.bool false), (.bool false), (.bool false), (.bool false), (.bool false), (.bool false), (.bool false), (.bool false), (.bool false), (.bool false), (.bool false), (.bool false), (.bool false), (.bool false), (.bool false), (.bool false), (.bool false), (.bool false), (.bool false), (.bool false), (.bool false), (.bool false), (.bool false), (.bool false), (.bool false), (.bool false), (.bool false), (.bool false), (.bool false), (.bool false), (.bool false), (.bool false), (.bool false), (.bool false), (.bool false), (.bool false), (.bool false), (.bool false), (.bool false), (.bool false), (.bool false), (.bool false), (.bool false), (.bool false), (.bool false), (.bool false), (.bool false), (.bool false), (.bool false), (.bool false), (.bool false), (.bool false), (.bool false), (.bool false), (.bool false), (.bool false), (.bool false), (.bool false), (.bool false), (.bool false), (.bool false), (.bool false), (.bool false), (.bool false), (.bool false), (.bool false), (.bool false)])
 stsC 256 t5 t29 h3 fun h4 =>
 br t30 (
 cal D 164 [(vS t0), t5] h4 fun t33 h5 =>
 asS t33 fun t33a =>
 some (.ret (vS t33a) h5, .no)) (
 cal D 165 [(vS t0), (vS t1)] h4 fun t36 h6 =>
 asS t36 fun t36a =>
 some (.ret (vS t36a) h6, .no))))
def S142 : SFn := fun D m args h u => nou u <| popS args fun t0 args => popS args fun t1 args => endA args (S142_0 D m t0 t1 h)
theorem T142_0 (hE : FX x142 D m E) : S142_0 D m = e142_0 (E c142_e []) := by unfold S142_0; rw [hE c142_e]; kernel_rfl
theorem X142 : XTie S142 x142 := X_of fun D m E hE args h u => by unfold S142; rw [T142_0 hE]; kernel_rfl
/- 143 -/
def c143_e : XC := (.sO [.mv p4 (.c (.str [])) .s, .mv p5 (cb false) .b] (.seq (.seq (.oX [.mv p6 q0 .s, .mv p7 q1 .s, .cl p8 88 [q6, q7] .b, .P p9 (.un .not q8) .b]) (.cond q9 (.seq (.oX [.mv p10 q0 .s, .mv p4 q10 .s, .mv p5 (cb false) .b]) .ret) .skip)) (.sO [.mv p11 q0 .s, .mv p12 q1 .s, .P p13 (.lens q12) tI, .P p14 (.slice .str q11 (some q13) none none) .s, .mv p4 q14 .s, .mv p5 (cb true) .b] (.s .ret))))
def x143 : XFn := ⟨[.s, .s], false, [(.tmp p4), (.tmp p5)], c143_e⟩
def e143_0 (k t0 t1 h) := kN k [(p0, (vS t0)), (p1, (vS t1))] h
def S143_0 (D : CallD) (m : Nat) (t0 t1 : LN) (h : HP) : Res2 :=
 cal D 88 [(vS t0), (vS t1)] h fun t8 h1 =>
 asB t8 fun t8a =>
 let t9 := !t8a
 br t9 (
 some (.ret (.tup [(vS t0), (vB false)]) h1, .no)) (
 let t13 := Int.ofNat (lenL t1)
 slC (vS t0) (some (vI t13)) none fun vt14 => asS vt14 fun t14 =>
 some (.ret (.tup [(vS t14), (vB true)]) h1, .no))
def S143 : SFn := fun D m args h u => nou u <| popS args fun t0 args => popS args fun t1 args => endA args (S143_0 D m t0 t1 h)
theorem T143_0 (hE : FX x143 D m E) : S143_0 D m = e143_0 (E c143_e []) := by unfold S143_0; rw [hE c143_e]; kernel_rfl
theorem X143 : XTie S143 x143 := X_of fun D m E hE args h u => by unfold S143; rw [T143_0 hE]; kernel_rfl
/- 144 -/
def c144_e : XC := (.sO [.mv p4 (.c (.flt .f64 0)) .v, .mv p5 (.c .nili) .v] (.sO [.mv p10 q0 .s, .mv p11 q1 tI, .cl p12 166 [q10, q11] .v, .mv p9 q12 .v, .P p13 (.ext q9 0) .v, .P p14 (.ext q9 1) tI, .P p15 (.ext q9 2) .v, .mv p6 q13 .v, .mv p7 q14 tI, .mv p8 q15 .v] (.seq (.seq (.oX [.mv p16 q7 tI, .mv p17 q0 .s, .P p18 (.lens q17) tI, .bn p19 .neq q16 q18 .b]) (.cond q19 (.seq (.oX [.P p20 (.mkif 170 (ci 2)) .v, .mv p4 (.c (.flt .f64 0)) .v, .mv p5 q20 .v]) .ret) .skip)) (.sO [.mv p21 q6 .v, .mv p22 q8 .v, .mv p4 q21 .v, .mv p5 q22 .v] (.s .ret)))))
def x144 : XFn := ⟨[.s, tI], false, [(.tmp p4), (.tmp p5)], c144_e⟩
def e144_0 (k t0 t1 h) := kN k [(p0, (vS t0)), (p1, (vI t1))] h
def S144_0 (D : CallD) (m : Nat) (t0 : LN) (t1 : Int) (h : HP) : Res2 :=
 cal D 166 [(vS t0), (vI t1)] h fun t12 h1 =>
 extC t12 0 fun t13 =>
 extC t12 1 fun vt14 => asI .i64 vt14 fun t14 =>
 extC t12 2 fun t15 =>
 let t18 := Int.ofNat (lenL t0)
 let t19 := notQ (eqQ t14 t18)
 br t19 (
 let t20 := (AV.iface 170 (vI (Int.ofNat 2)))
 some (.ret (.tup [((.flt .f64 0) : AV), t20]) h1, .no)) (
 some (.ret (.tup [t13, t15]) h1, .no))
def S144 : SFn := fun D m args h u => nou u <| popS args fun t0 args => popI .i64 args fun t1 args => endA args (S144_0 D m t0 t1 h)
theorem T144_0 (hE : FX x144 D m E) : S144_0 D m = e144_0 (E c144_e []) := by unfold S144_0; rw [hE c144_e]; kernel_rfl
theorem X144 : XTie S144 x144 := X_of fun D m E hE args h u => by unfold S144; rw [T144_0 hE]; kernel_rfl
/- 145 -/
def c145_e : XC := (.sO [.mv p2 (cb false) .b] (.sO [.mv p3 q0 .v, .mv p4 q0 .v, .bn p5 .neq q3 q4 .b, .mv p2 q5 .b] (.s .ret)))
def x145 : XFn := ⟨[.v], false, [(.tmp p2)], c145_e⟩
def e145_0 (k t0 h) := kN k [(p0, t0)] h
def S145_0 (D : CallD) (m : Nat) (t0 : AV) (h : HP) : Res2 :=
 binC .neq t0 t0 fun vt5 => asB vt5 fun t5 =>
 some (.ret (vB t5) h, .no)
def S145 : SFn := fun D m args h u => nou u <| popV args fun t0 args => endA args (S145_0 D m t0 h)
theorem T145_0 (hE : FX x145 D m E) : S145_0 D m = e145_0 (E c145_e []) := by unfold S145_0; rw [hE c145_e]; kernel_rfl
theorem X145 : XTie S145 x145 := X_of fun D m E hE args h u => by unfold S145; rw [T145_0 hE]; kernel_rfl
/- 152 -/
def c152_e : XC := (.sO [.mv p2 (.c (.str [])) .s] (.seq (.seq (.oX [.mv p3 q0 tI, .bn p4 .lss q3 (ci 10) .b]) (.cond q4 (.seq (.oX [.mv p5 q0 tI, .mv p6 q0 tI, .bn p7 .add q6 (ci 1) tI, .P p8 (.slice .str (.c (.str [48, 49, 50, 51, 52, 53, 54, 55, 56, 57, 97, 98, 99, 100, 101, 102, 103, 104, 105, 106, 107, 108, 109, 110, 111, 112, 113, 114, 115, 116, 117, 118, 119, 120, 121, 122])) (some q5) (some q7) none) .s, .mv p2 q8 .s]) .ret) .skip)) (.sO [.mv p9 q0 tI, .bn p10 .mul q9 (ci 2) tI, .mv p11 q0 tI, .bn p12 .mul q11 (ci 2) tI, .bn p13 .add q12 (ci 2) tI, .P p14 (.slice .str (.c (.str [48, 48, 48, 49, 48, 50, 48, 51, 48, 52, 48, 53, 48, 54, 48, 55, 48, 56, 48, 57, 49, 48, 49, 49, 49, 50, 49, 51, 49, 52, 49, 53, 49, 54, 49, 55, 49, 56, 49, 57, 50, 48, 50, 49, 50, 50, 50, 51, 50, 52, 50, 53, 50, 54, 50, 55, 50, 56, 50, 57, 51, 48, 51, 49, 51, 50, 51, 51, 51, 52, 51, 53, 51, 54, 51, 55, 51, 56, 51, 57, 52, 48, 52, 49, 52, 50, 52, 51, 52, 52, 52, 53, 52, 54, 52, 55, 52, 56, 52, 57, 53, 48, 53, 49, 53, 50, 53, 51, 53, 52, 53, 53, 53, 54, 53, 55, 53, 56, 53, 57, 54, 48, 54, 49, 54, 50, 54, 51, 54, 52, 54, 53, 54, 54, 54, 55, 54, 56, 54, 57, 55, 48, 55, 49, 55, 50, 55, 51, 55, 52, 55, 53, 55, 54, 55, 55, 55, 56, 55, 57, 56, 48, 56, 49, 56, 50, 56, 51, 56, 52, 56, 53, 56, 54, 56, 55, 56, 56, 56, 57, 57, 48, 57, 49, 57, 50, 57, 51, 57, 52, 57, 53, 57, 54, 57, 55, 57, 56, 57, 57])) (some q10) (some q13) none) .s, .mv p2 q14 .s] (.s .ret))))
def x152 : XFn := ⟨[tI], false, [(.tmp p2)], c152_e⟩
def e152_0 (k t0 h) := kN k [(p0, (vI t0))] h
def S152_0 (D : CallD) (m : Nat) (t0 : Int) (h : HP) : Res2 :=
 let t4 := ltQ t0 (Int.ofNat 10)
 br t4 (
 let t7 := wrQ .i64 (addQ t0 (Int.ofNat 1))
 slC (vS ([48, 49, 50, 51, 52, 53, 54, 55, 56, 57, 97, 98, 99, 100, 101, 102, 103, 104, 105, 106, 107, 108, 109, 110, 111, 112, 113, 114, 115, 116, 117, 118, 119, 120, 121, 122] : LN)) (some (vI t0)) (some (vI t7)) fun vt8 => asS vt8 fun t8 =>
 some (.ret (vS t8) h, .no)) (
 let t10 := wrQ .i64 (t0 * (Int.ofNat 2))
 let t12 := wrQ .i64 (t0 * (Int.ofNat 2))
 let t13 := wrQ .i64 (addQ t12 (Int.ofNat 2))
 slC (vS ([48, 48, 48, 49, 48, 50, 48, 51, 48, 52, 48, 53, 48, 54, 48, 55, 48, 56, 48, 57, 49, 48, 49, 49, 49, 50, 49, 51, 49, 52, 49, 53, 49, 54, 49, 55, 49, 56, 49, 57, 50, 48, 50, 49, 50, 50, 50, 51, 50, 52, 50, 53, 50, 54, 50, 55, 50, 56, 50, 57, 51, 48, 51, 49, 51, 50, 51, 51, 51, 52, 51, 53, 51, 54, 51, 55, 51, 56, 51, 57, 52, 48, 52, 49, 52, 50, 52, 51, 52, 52, 52, 53, 52, 54, 52, 55, 52, 56, 52, 57, 53, 48, 53, 49, 53, 50, 53, 51, 53, 52, 53, 53, 53, 54, 53, 55, 53, 56, 53, 57, 54, 48, 54, 49, 54, 50, 54, 51, 54, 52, 54, 53, 54, 54, 54, 55, 54, 56, 54, 57, 55, 48, 55, 49, 55, 50, 55, 51, 55, 52, 55, 53, 55, 54, 55, 55, 55, 56, 55, 57, 56, 48, 56, 49, 56, 50, 56, 51, 56, 52, 56, 53, 56, 54, 56, 55, 56, 56, 56, 57, 57, 48, 57, 49, 57, 50, 57, 51, 57, 52, 57, 53, 57, 54, 57, 55, 57, 56, 57, 57] : LN)) (some (vI t10)) (some (vI t13)) fun vt14 => asS vt14 fun t14 =>
 some (.ret (vS t14) h, .no))
def S152 : SFn := fun D m args h u => nou u <| popI .i64 args fun t0 args => endA args (S152_0 D m t0 h)
theorem T152_0 (hE : FX x152 D m E) : S152_0 D m = e152_0 (E c152_e []) := by unfold S152_0; rw [hE c152_e]; kernel_rfl
theorem X152 : XTie S152 x152 := X_of fun D m E hE args h u => by unfold S152; rw [T152_0 hE]; kernel_rfl
/- 163 -/
def v163_0 : List Pos := [p2]
def c163_0 : XC := (.sO [.L p20 (.cells 256 q2) .v, .ss 256 q2 q20, .mv p3 (cb true) .b] (.s .ret))
def v163_1 : List Pos := [p0, p2, p4]
def c163_1b : XC := (.seq (.seq (.oX [.mv p6 q4 tI, .mv p7 q0 .s, .P p8 (.lens q7) tI, .bn p9 .lss q6 q8 .b]) (.cond q9 .skip (.exit 0))) (.seq (.block 1 (.seq (.oX [.mv p12 q0 .s, .mv p13 q4 tI, .P p14 (.idxs q12 q13) tC, .mv p5 q14 tC]) (.seq (.seq (.oX [.mv p15 q5 tC, .bn p16 .geq q15 (.c (.int .u8 (.ofNat 128))) .b]) (.cond q16 (.seq (.oX [.L p17 (.cells 256 q2) .v, .ss 256 q2 q17, .mv p3 (cb false) .b]) .ret) .skip)) (.oX [.mv p18 q5 tC, .P p19 (.iaddr (.arr 256 1) q2 q18) .v, .st q19 (cb true)])))) (.s (.oX [.mv p10 q4 tI, .bn p11 .add q10 (ci 1) tI, .mv p4 q11 tI]))))
def c163_e : XC := (.sO [.al p2 (.new [(.bool false), (.bool false), (.bool false), (.bool false), (.bool false), (.bool false), (.bool false), (.bool false), (.bool false), (.bool false), (.bool false), (.bool false), (.bool false), (.bool false), (.bool false), (.bool false), (.bool false), (.bool false), (.bool false), (.bool false), (.bool false), (.bool false), (.bool false), (.bool false), (.bool false), (.bool false), (.bool false), (.bool false), (.bool false), (.bool false), (.bool false), (.bool false), (.bool false), (.bool false), (.bool false), (.bool false), (.bool false), (.bool false), (.bool false), (.bool false), (.bool false), (.bool false), (.bool false), (.bool false), (.bool false), (.bool false), (.bool false), (.bool false), (.bool false), (.bool false), (.bool false), (.bool false), (.bool false), (.bool false), (.bool false), (.bool false), (.bool false), (.bool false), (.bool false), (.bool false), (.bool false), (.bool false), (.bool false), (.bool false), (.bool false), (.bool false), (.bool false), (.bool false), (.bool false), (.bool false), (.bool false), (.bool false), (.bool false), (.bool false), (.bool false), (.bool false), (.bool false), (.bool false), (.bool false), (.bool false), (.bool false), (.bool false), (.bool false), (.bool false), (.bool false), (.bool false), (.bool false), (.bool false), (.bool false), (.bool false), (.bool false), (.bool false), (.bool false), (.bool false), (.bool false), (.bool false), (.bool false), (.bool false), (.bool false), (.bool false), (.bool false), (.bool false), (.bool false), (.bool false), (.bool false), (.bool false), (.bool false), (.bool false), (.bool false), (.bool false), (.bool false), (.bool false), (.bool false), (.bool false), (.bool false), (.bool false), (.bool false), (.bool false), (.bool false), (.bool false), (.bool false), (.bool false), (.bool false), (.bool false), (.bool false), (.bool false), (.bool false), (.bool false), (.bool false), (.bool false), (.bool false), (.bool false), (.bool false), (.bool false), (.bool false), (.bool false), (.bool false), (.bool false), (.bool false), (.bool false), (.bool false), (.bool false), (.bool false), (.bool false), (.bool false), (.bool false), (.bool false), (.bool false), (.bool false), (.bool false), (.bool false), (.bool false), (.bool false), (.bool false), (.bool false), (.bool false), (.bool false), (.bool false), (.bool false), (.bool false), (.bool false), (.bool false), (.bool false), (.bool false), (.bool false), (.bool false), (.bool false), (.bool false), (.bool false), (.bool false), (.bool false), (.bool false), (.bool false), (.bool false), (.bool false), (.bool false), (.bool false), (.bool false), (.bool false), (.bool false), (.bool false), (.bool false), (.bool false), (.bool false), (.bool false), (.bool false), (.bool false), (.bool false), (.bool false), (.bool false), (.bool false), (.bool false), (.bool false), (.bool false), (.bool false), (.bool false), (.bool false), (.bool false), (.bool false), (.bool false), (.bool false), (.bool false), (.bool false), (.bool false), (.bool false), (.bool false), (.bool false), (.bool false), (.bool false), (.bool false), (.bool false), (.bool false), (.bool false), (.bool false), (.bool false), (.bool false), (.bool false), (.bool false), (.bool false), (.bool false), (.bool false), (.bool false), (.bool false), (.bool false), (.bool false), (.bool false), (.bool false), (.bool false), (.bool false), (.bool false), (.bool false), (.bool false), (.bool false), (.bool false), (.bool false), (.bool false), (.bool false), (.bool false), (.bool false), (.bool false), (.bool false), (.bool false), (.bool false), (.bool false), (.bool false), (.bool false), (.bool false), (.bool false), (.bool false), (.bool false), (.bool false), (.bool false), (.bool false), (.bool false), (.bool false), (.bool false)]), .mv p3 (cb false) .b] (.sj v163_0 (.sO [.mv p4 (ci 0) tI] (.block 0 (.loop v163_1 c163_1b))) c163_0))
def x163 : XFn := ⟨[.s], false, [(.cells 256 p2), (.tmp p3)], c163_e⟩
def e163_0 (k t2 h) := kN k [(p2, t2)] h
def S163_0 (D : CallD) (m : Nat) (t2 : AV) (h : HP) : Res2 :=
 cellsC 256 t2 h fun t20 =>
 stsC 256 t2 t20 h fun h4 =>
 cellsC 256 t2 h4 fun t2a =>
 some (.ret (.tup [t2a, (vB true)]) h4, .no)
def e163_1 (k t0 t2 t4 h) := kN k [(p0, (vS t0)), (p2, t2), (p4, (vI t4))] h
def S163_1b (D : CallD) (m : Nat) (g1 : LN → AV → Int → HP → Res2) (t0 : LN) (t2 : AV) (t4 : Int) (h : HP) : Res2 :=
 let t8 := Int.ofNat (lenL t0)
 let t9 := ltQ t4 t8
 br t9 (
 ixC (vS t0) (vI t4) fun vt14 => asI .u8 vt14 fun t14 =>
 let t16 := leQ (Int.ofNat 128) t14
 br t16 (
 cellsC 256 t2 h fun t17 =>
 stsC 256 t2 t17 h fun h5 =>
 cellsC 256 t2 h5 fun t2a =>
 some (.ret (.tup [t2a, (vB false)]) h5, .no)) (
 iarC 256 1 t2 (vC t14) fun t19 =>
 stoC t19 (vB true) h fun h6 =>
 let t11 := wrQ .i64 (addQ t4 (Int.ofNat 1))
 g1 t0 t2 t11 h6)) (
 S163_0 D m t2 h)
def S163_1 (D : CallD) (m : Nat) : LN → AV → Int → HP → Res2 := nrec (fun _ _ _ _ => none) (fun _ g => S163_1b D m g) m
def e163_2 (k t0 h) := kN k [(p0, (vS t0))] h
def S163_2 (D : CallD) (m : Nat) (t0 : LN) (h : HP) : Res2 :=
 let t2 := AV.ptr (HP.nxQ h) 0
 let h3 := HP.newQ h (.cells true [(.bool false), (.bool false), (.bool false), (.bool false), (.bool false), (.bool false), (.bool false), (.bool false), (.bool false), (.bool false), (.bool false), (.bool false), (.bool false), (.bool false), (.bool false), (.bool false), (.bool false), (.bool false), (.bool false), (.bool false), (.bool false), (.bool false), (.bool false), (.bool false), (.bool false), (.bool false), (.bool false), (.bool false), (.bool false), (.bool false), (.bool false), (.bool false), (.bool false), (.bool false), (.bool false), (.bool false), (.bool false), (.bool false), (.bool false), (.bool false), (.bool false), (.bool false), (.bool false), (.bool false), (.bool false), (.bool false), (.bool false), (.bool false), (.bool false), (.bool false), (.bool false), (.bool false), (.bool false), (.bool false), (.bool false), (.bool false), (.bool false), (.bool false), (.bool false), (.bool false), (.bool false), (.bool false), (.bool false), (.bool false), (.bool false), (.bool false), (.bool false), (.bool false), (.bool false), (.bool false), (.bool false), (.bool false), (.bool false), (.bool false), (.bool false), (.bool false), (.bool false), (.bool false), (.bool false), (.bool false), (.bool false), (.bool false), (.bool false), (.bool false), (.bool false), (.bool false), (.bool false), (.bool false), (.bool false), (.bool false), (.bool false), (.bool false), (.bool false), (.bool false), (.bool false), (.bool false), (.bool false), (.bool false), (.bool false), (.bool false), (.bool false), (.bool false), (.bool false), (.bool false), (.bool false), (.bool false), (.bool false), (.bool false), (.bool false), (.bool false), (.bool false), (.bool false), (.bool false), (.bool false), (.bool false), (.bool false), (.bool false), (.bool false), (.bool false), (.bool false), (.bool false), (.bool false), (.bool false), (.bool false), (.bool false), (.bool false), (.bool false), (.bool false), (.bool false), (.bool false), (.bool false), (.bool false), (.bool false), (.bool false), (.bool false), (.bool false), (.bool false), (.bool false), (.bool false), (.bool false), (.bool false), (.bool false), (.bool false), (.bool false), (.bool false), (.bool false), (.bool false), (.bool false), (.bool false), (.bool false), (.bool false), (.bool false), (.bool false), (.bool false), (.bool false), (.bool false), (.bool false), (.bool false), (.bool false), (.bool false), (.bool false), (.bool false), (.bool false), (.bool false), (.bool false), (.bool false), (.bool false), (.bool false), (.bool false), (.bool false), (.bool false), (.bool false), (.bool false), (.bool false), (.bool false), (.bool false), (.bool false), (.bool false), (.bool false), (.bool false), (.bool false), (.bool false), (.bool false), (.bool false), (.bool false), (.bool false), (.bool false), (.bool false), (.bool false), (.bool false), (.bool false), (.bool false), (.bool false), (.bool false), (.bool false), (.bool false), (.bool false), (.bool false), (.bool false), (.bool false), (.bool false), (.bool false), (.bool false), (.bool false), (.bool false), (.bool false), (.bool false), (.bool false), (.bool false), (.bool false), (.bool false), (.bool false), (.bool false), (.bool false), (.bool false), (.bool false), (.bool false), (.bool false), (.bool false), (.bool false), (.bool false), (.bool false), (.bool false), (.bool false), (.bool false), (.bool false), (.bool false), (.bool false), (.bool false), (.bool false), (.bool false), (.bool false), (.bool false), (.bool false), (.bool false), (.bool false), (.bool false), (.bool false), (.bool false), (.bool false), (.bool false), (.bool false), (.bool false), (.bool false), (.bool false), (.bool false), (.bool false), (.bool false), (.bool false), (.bool false), (.bool false), (.bool false), (.bool false), (.bool false), (.bool false), (.bool false)])
 S163_1 D m t0 t2 (Int.ofNat 0) h3
def S163 : SFn := fun D m args h u => nou u <| popS args fun t0 args => endA args (S163_2 D m t0 h)
theorem T163_0 (hE : FX x163 D m E) : S163_0 D m = e163_0 (E c163_0 []) := by unfold S163_0; rw [hE c163_0]; kernel_rfl
theorem T163_1b (hE : FX x163 D m E) (G1) : S163_1b D m (e163_1 G1) = e163_1 (E c163_1b [.lp v163_1 G1, .blk 0, .sj v163_0 c163_0]) := by unfold S163_1b; rw [T163_0 hE, hE c163_1b]; kernel_rfl
theorem T163_1 (hE : FX x163 D m E) : S163_1 D m = e163_1 (nrec (fun _ => none) (fun _ G1 st => E c163_1b [.lp v163_1 G1, .blk 0, .sj v163_0 c163_0] st) m) :=
  nrec_emb e163_1 (fun _ _ _ _ => none) (fun g => S163_1b D m g) (fun G1 st => E c163_1b [.lp v163_1 G1, .blk 0, .sj v163_0 c163_0] st) rfl (fun g => T163_1b hE g) m
theorem T163_2 (hE : FX x163 D m E) : S163_2 D m = e163_2 (E c163_e []) := by unfold S163_2; rw [T163_1 hE, hE c163_e]; kernel_rfl
theorem X163 : XTie S163 x163 := X_of fun D m E hE args h u => by unfold S163; rw [T163_2 hE]; kernel_rfl
/- 164 -/
def v164_0 : List Pos := [p0]
def c164_0 : XC := (.sO [.mv p15 q0 .s, .mv p4 q15 .s] (.s .ret))
def v164_1 : List Pos := [p0, p1]
def c164_1b : XC := (.seq (.seq (.oX [.mv p5 q0 .s, .P p6 (.lens q5) tI, .bn p7 .gtr q6 (ci 0) .b]) (.cond q7 .skip (.exit 0))) (.block 1 (.seq (.seq (.oX [.mv p8 q1 .v, .mv p9 q0 .s, .P p10 (.idxs q9 (ci 0)) tC, .cl p11 178 [q8, q10] .b, .P p12 (.un .not q11) .b]) (.cond q12 (.exit 0) .skip)) (.s (.oX [.mv p13 q0 .s, .P p14 (.slice .str q13 (some (ci 1)) none none) .s, .mv p0 q14 .s])))))
def c164_e : XC := (.sO [.mv p4 (.c (.str [])) .s] (.sj v164_0 (.block 0 (.loop v164_1 c164_1b)) c164_0))
def x164 : XFn := ⟨[.s, .v], false, [(.tmp p4)], c164_e⟩
def e164_0 (k t0 h) := kN k [(p0, (vS t0))] h
def S164_0 (D : CallD) (m : Nat) (t0 : LN) (h : HP) : Res2 :=
 some (.ret (vS t0) h, .no)
def e164_1 (k t0 t1 h) := kN k [(p0, (vS t0)), (p1, t1)] h
def S164_1b (D : CallD) (m : Nat) (g1 : LN → AV → HP → Res2) (t0 : LN) (t1 : AV) (h : HP) : Res2 :=
 let t6 := Int.ofNat (lenL t0)
 let t7 := ltQ (Int.ofNat 0) t6
 br t7 (
 ixC (vS t0) (vI (Int.ofNat 0)) fun vt10 => asI .u8 vt10 fun t10 =>
 cal D 178 [t1, (vC t10)] h fun t11 h3 =>
 asB t11 fun t11a =>
 let t12 := !t11a
 br t12 (
 S164_0 D m t0 h3) (
 slC (vS t0) (some (vI (Int.ofNat 1))) none fun vt14 => asS vt14 fun t14 =>
 g1 t14 t1 h3)) (
 S164_0 D m t0 h)
def S164_1 (D : CallD) (m : Nat) : LN → AV → HP → Res2 := nrec (fun _ _ _ => none) (fun _ g => S164_1b D m g) m
def e164_2 (k t0 t1 h) := kN k [(p0, (vS t0)), (p1, t1)] h
def S164_2 (D : CallD) (m : Nat) (t0 : LN) (t1 : AV) (h : HP) : Res2 :=
 S164_1 D m t0 t1 h
def S164 : SFn := fun D m args h u => nou u <| popS args fun t0 args => popV args fun t1 args => endA args (S164_2 D m t0 t1 h)
theorem T164_0 (hE : FX x164 D m E) : S164_0 D m = e164_0 (E c164_0 []) := by unfold S164_0; rw [hE c164_0]; kernel_rfl
theorem T164_1b (hE : FX x164 D m E) (G1) : S164_1b D m (e164_1 G1) = e164_1 (E c164_1b [.lp v164_1 G1, .blk 0, .sj v164_0 c164_0]) := by unfold S164_1b; rw [T164_0 hE, hE c164_1b]; kernel_rfl
theorem T164_1 (hE : FX x164 D m E) : S164_1 D m = e164_1 (nrec (fun _ => none) (fun _ G1 st => E c164_1b [.lp v164_1 G1, .blk 0, .sj v164_0 c164_0] st) m) :=
  nrec_emb e164_1 (fun _ _ _ => none) (fun g => S164_1b D m g) (fun G1 st => E c164_1b [.lp v164_1 G1, .blk 0, .sj v164_0 c164_0] st) rfl (fun g => T164_1b hE g) m
theorem T164_2 (hE : FX x164 D m E) : S164_2 D m = e164_2 (E c164_e []) := by unfold S164_2; rw [T164_1 hE, hE c164_e]; kernel_rfl
theorem X164 : XTie S164 x164 := X_of fun D m E hE args h u => by unfold S164; rw [T164_2 hE]; kernel_rfl
/- 166 -/
def c166_e : XC := (.sO [.mv p4 (.c (.flt .f64 0)) .v, .mv p5 (ci 0) tI, .mv p6 (.c .nili) .v] (.seq (.seq (.oX [.mv p10 q1 tI, .bn p11 .eql q10 (ci 32) .b]) (.cond q11 (.seq (.oX [.mv p13 q0 .s, .cl p14 180 [q13] .v, .mv p12 q14 .v, .P p15 (.ext q12 0) .v, .P p16 (.ext q12 1) tI, .P p17 (.ext q12 2) .v, .mv p7 q15 .v, .mv p8 q16 tI, .mv p9 q17 .v]) (.seq (.oX [.mv p18 q7 .v, .o ⟨(some p19), .bad, none, []⟩ .v, .mv p20 q8 tI, .mv p21 q9 .v, .mv p4 q19 .v, .mv p5 q20 tI, .mv p6 q21 .v]) .ret)) .skip)) (.sO [.mv p22 q0 .s, .cl p23 181 [q22] .v, .P p24 (.ext q23 0) .v, .P p25 (.ext q23 1) tI, .P p26 (.ext q23 2) .v, .mv p4 q24 .v, .mv p5 q25 tI, .mv p6 q26 .v] (.s .ret))))
def x166 : XFn := ⟨[.s, tI], false, [(.tmp p4), (.tmp p5), (.tmp p6)], c166_e⟩
def e166_0 (k t0 t1 h) := kN k [(p0, (vS t0)), (p1, (vI t1))] h
def S166_0 (D : CallD) (m : Nat) (t0 : LN) (t1 : Int) (h : HP) : Res2 :=
 let t11 := eqQ t1 (Int.ofNat 32)
 br t11 (
 cal D 180 [(vS t0)] h fun t14 h1 =>
 extC t14 0 fun t15 =>
 extC t14 1 fun vt16 => asI .i64 vt16 fun t16 =>
 extC t14 2 fun t17 =>
 none) (
 cal D 181 [(vS t0)] h fun t23 h2 =>
 extC t23 0 fun t24 =>
 extC t23 1 fun vt25 => asI .i64 vt25 fun t25 =>
 extC t23 2 fun t26 =>
 some (.ret (.tup [t24, (vI t25), t26]) h2, .no))
def S166 : SFn := fun D m args h u => nou u <| popS args fun t0 args => popI .i64 args fun t1 args => endA args (S166_0 D m t0 t1 h)
theorem T166_0 (hE : FX x166 D m E) : S166_0 D m = e166_0 (E c166_e []) := by unfold S166_0; rw [hE c166_e]; kernel_rfl
theorem X166 : XTie S166 x166 := X_of fun D m E hE args h u => by unfold S166; rw [T166_0 hE]; kernel_rfl
/- 178 -/
def c178_e : XC := (.sO [.mv p4 (cb false) .b] (.sO [.mv p5 q0 .v, .mv p6 q1 tC, .P p7 (.nilck q5) .v, .P p8 (.iaddr (.arr 256 1) q7 q6) .v, .ld p9 q8 .b, .mv p4 q9 .b] (.s .ret)))
def x178 : XFn := ⟨[.v, tC], false, [(.tmp p4)], c178_e⟩
def e178_0 (k t0 t1 h) := kN k [(p0, t0), (p1, (vC t1))] h
def S178_0 (D : CallD) (m : Nat) (t0 : AV) (t1 : Int) (h : HP) : Res2 :=
 nilckC t0 fun t7 =>
 iarC 256 1 t7 (vC t1) fun t8 =>
 ldB t8 h fun t9 =>
 some (.ret (vB t9) h, .no)
def S178 : SFn := fun D m args h u => nou u <| popV args fun t0 args => popI .u8 args fun t1 args => endA args (S178_0 D m t0 t1 h)
theorem T178_0 (hE : FX x178 D m E) : S178_0 D m = e178_0 (E c178_e []) := by unfold S178_0; rw [hE c178_e]; kernel_rfl
theorem X178 : XTie S178 x178 := X_of fun D m E hE args h u => by unfold S178; rw [T178_0 hE]; kernel_rfl
/- 181 -/
def v181_1 : List Pos := [p2, p3, p4]
def c181_1 : XC := (.sO [.mv p140 q2 .v, .mv p141 q3 tI, .mv p142 q4 .v, .mv p2 q140 .v, .mv p3 q141 tI, .mv p4 q142 .v] (.s .ret))
def v181_0 : List Pos := [p0, p3, p4]
def c181_0 : XC := (.sO [.al p23 (.new [(.int .u8 (.ofNat 0)), (.int .u8 (.ofNat 0)), (.int .u8 (.ofNat 0)), (.int .u8 (.ofNat 0)), (.int .u8 (.ofNat 0)), (.int .u8 (.ofNat 0)), (.int .u8 (.ofNat 0)), (.int .u8 (.ofNat 0)), (.int .u8 (.ofNat 0)), (.int .u8 (.ofNat 0)), (.int .u8 (.ofNat 0)), (.int .u8 (.ofNat 0)), (.int .u8 (.ofNat 0)), (.int .u8 (.ofNat 0)), (.int .u8 (.ofNat 0)), (.int .u8 (.ofNat 0)), (.int .u8 (.ofNat 0)), (.int .u8 (.ofNat 0)), (.int .u8 (.ofNat 0)), (.int .u8 (.ofNat 0)), (.int .u8 (.ofNat 0)), (.int .u8 (.ofNat 0)), (.int .u8 (.ofNat 0)), (.int .u8 (.ofNat 0)), (.int .u8 (.ofNat 0)), (.int .u8 (.ofNat 0)), (.int .u8 (.ofNat 0)), (.int .u8 (.ofNat 0)), (.int .u8 (.ofNat 0)), (.int .u8 (.ofNat 0)), (.int .u8 (.ofNat 0)), (.int .u8 (.ofNat 0)), (.int .u8 (.ofNat 0)), (.int .u8 (.ofNat 0)), (.int .u8 (.ofNat 0)), (.int .u8 (.ofNat 0)), (.int .u8 (.ofNat 0)), (.int .u8 (.ofNat 0)), (.int .u8 (.ofNat 0)), (.int .u8 (.ofNat 0)), (.int .u8 (.ofNat 0)), (.int .u8 (.ofNat 0)), (.int .u8 (.ofNat 0)), (.int .u8 (.ofNat 0)), (.int .u8 (.ofNat 0)), (.int .u8 (.ofNat 0)), (.int .u8 (.ofNat 0)), (.int .u8 (.ofNat 0)), (.int .u8 (.ofNat 0)), (.int .u8 (.ofNat 0)), (.int .u8 (.ofNat 0)), (.int .u8 (.ofNat 0)), (.int .u8 (.ofNat 0)), (.int .u8 (.ofNat 0)), (.int .u8 (.ofNat 0)), (.int .u8 (.ofNat 0)), (.int .u8 (.ofNat 0)), (.int .u8 (.ofNat 0)), (.int .u8 (.ofNat 0)), (.int .u8 (.ofNat 0)), (.int .u8 (.ofNat 0)), (.int .u8 (.ofNat 0)), (.int .u8 (.ofNat 0)), (.int .u8 (.ofNat 0)), (.int .u8 (.ofNat 0)), (.int .u8 (.ofNat 0)), (.int .u8 (.ofNat 0)), (.int .u8 (.ofNat 0)), (.int .u8 (.ofNat 0)), (.int .u8 (.ofNat 0)), (.int .u8 (.ofNat 0)), (.int .u8 (.ofNat 0)), (.int .u8 (.ofNat 0)), (.int .u8 (.ofNat 0)), (.int .u8 (.ofNat 0)), (.int .u8 (.ofNat 0)), (.int .u8 (.ofNat 0)), (.int .u8 (.ofNat 0)), (.int .u8 (.ofNat 0)), (.int .u8 (.ofNat 0)), (.int .u8 (.ofNat 0)), (.int .u8 (.ofNat 0)), (.int .u8 (.ofNat 0)), (.int .u8 (.ofNat 0)), (.int .u8 (.ofNat 0)), (.int .u8 (.ofNat 0)), (.int .u8 (.ofNat 0)), (.int .u8 (.ofNat 0)), (.int .u8 (.ofNat 0)), (.int .u8 (.ofNat 0)), (.int .u8 (.ofNat 0)), (.int .u8 (.ofNat 0)), (.int .u8 (.ofNat 0)), (.int .u8 (.ofNat 0)), (.int .u8 (.ofNat 0)), (.int .u8 (.ofNat 0)), (.int .u8 (.ofNat 0)), (.int .u8 (.ofNat 0)), (.int .u8 (.ofNat 0)), (.int .u8 (.ofNat 0)), (.int .u8 (.ofNat 0)), (.int .u8 (.ofNat 0)), (.int .u8 (.ofNat 0)), (.int .u8 (.ofNat 0)), (.int .u8 (.ofNat 0)), (.int .u8 (.ofNat 0)), (.int .u8 (.ofNat 0)), (.int .u8 (.ofNat 0)), (.int .u8 (.ofNat 0)), (.int .u8 (.ofNat 0)), (.int .u8 (.ofNat 0)), (.int .u8 (.ofNat 0)), (.int .u8 (.ofNat 0)), (.int .u8 (.ofNat 0)), (.int .u8 (.ofNat 0)), (.int .u8 (.ofNat 0)), (.int .u8 (.ofNat 0)), (.int .u8 (.ofNat 0)), (.int .u8 (.ofNat 0)), (.int .u8 (.ofNat 0)), (.int .u8 (.ofNat 0)), (.int .u8 (.ofNat 0)), (.int .u8 (.ofNat 0)), (.int .u8 (.ofNat 0)), (.int .u8 (.ofNat 0)), (.int .u8 (.ofNat 0)), (.int .u8 (.ofNat 0)), (.int .u8 (.ofNat 0)), (.int .u8 (.ofNat 0)), (.int .u8 (.ofNat 0)), (.int .u8 (.ofNat 0)), (.int .u8 (.ofNat 0)), (.int .u8 (.ofNat 0)), (.int .u8 (.ofNat 0)), (.int .u8 (.ofNat 0)), (.int .u8 (.ofNat 0)), (.int .u8 (.ofNat 0)), (.int .u8 (.ofNat 0)), (.int .u8 (.ofNat 0)), (.int .u8 (.ofNat 0)), (.int .u8 (.ofNat 0)), (.int .u8 (.ofNat 0)), (.int .u8 (.ofNat 0)), (.int .u8 (.ofNat 0)), (.int .u8 (.ofNat 0)), (.int .u8 (.ofNat 0)), (.int .u8 (.ofNat 0)), (.int .u8 (.ofNat 0)), (.int .u8 (.ofNat 0)), (.int .u8 (.ofNat 0)), (.int .u8 (.ofNat 0)), (.int .u8 (.ofNat 0)), (.int .u8 (.ofNat 0)), (.int .u8 (.ofNat 0)), (.int .u8 (.ofNat 0)), (.int .u8 (.ofNat 0)), (.int .u8 (.ofNat 0)), (.int .u8 (.ofNat 0)), (.int .u8 (.ofNat 0)), (.int .u8 (.ofNat 0)), (.int .u8 (.ofNat 0)), (.int .u8 (.ofNat 0)), (.int .u8 (.ofNat 0)), (.int .u8 (.ofNat 0)), (.int .u8 (.ofNat 0)), (.int .u8 (.ofNat 0)), (.int .u8 (.ofNat 0)), (.int .u8 (.ofNat 0)), (.int .u8 (.ofNat 0)), (.int .u8 (.ofNat 0)), (.int .u8 (.ofNat 0)), (.int .u8 (.ofNat 0)), (.int .u8 (.ofNat 0)), (.int .u8 (.ofNat 0)), (.int .u8 (.ofNat 0)), (.int .u8 (.ofNat 0)), (.int .u8 (.ofNat 0)), (.int .u8 (.ofNat 0)), (.int .u8 (.ofNat 0)), (.int .u8 (.ofNat 0)), (.int .u8 (.ofNat 0)), (.int .u8 (.ofNat 0)), (.int .u8 (.ofNat 0)), (.int .u8 (.ofNat 0)), (.int .u8 (.ofNat 0)), (.int .u8 (.ofNat 0)), (.int .u8 (.ofNat 0)), (.int .u8 (.ofNat 0)), (.int .u8 (.ofNat 0)), (.int .u8 (.ofNat 0)), (.int .u8 (.ofNat 0)), (.int .u8 (.ofNat 0)), (.int .u8 (.ofNat 0)), (.int .u8 (.ofNat 0)), (.int .u8 (.ofNat 0)), (.int .u8 (.ofNat 0)), (.int .u8 (.ofNat 0)), (.int .u8 (.ofNat 0)), (.int .u8 (.ofNat 0)), (.int .u8 (.ofNat 0)), (.int .u8 (.ofNat 0)), (.int .u8 (.ofNat 0)), (.int .u8 (.ofNat 0)), (.int .u8 (.ofNat 0)), (.int .u8 (.ofNat 0)), (.int .u8 (.ofNat 0)), (.int .u8 (.ofNat 0)), (.int .u8 (.ofNat 0)), (.int .u8 (.ofNat 0)), (.int .u8 (.ofNat 0)), (.int .u8 (.ofNat 0)), (.int .u8 (.ofNat 0)), (.int .u8 (.ofNat 0)), (.int .u8 (.ofNat 0)), (.int .u8 (.ofNat 0)), (.int .u8 (.ofNat 0)), (.int .u8 (.ofNat 0)), (.int .u8 (.ofNat 0)), (.int .u8 (.ofNat 0)), (.int .u8 (.ofNat 0)), (.int .u8 (.ofNat 0)), (.int .u8 (.ofNat 0)), (.int .u8 (.ofNat 0)), (.int .u8 (.ofNat 0)), (.int .u8 (.ofNat 0)), (.int .u8 (.ofNat 0)), (.int .u8 (.ofNat 0)), (.int .u8 (.ofNat 0)), (.int .u8 (.ofNat 0)), (.int .u8 (.ofNat 0)), (.int .u8 (.ofNat 0)), (.int .u8 (.ofNat 0)), (.int .u8 (.ofNat 0)), (.int .u8 (.ofNat 0)), (.int .u8 (.ofNat 0)), (.int .u8 (.ofNat 0)), (.int .u8 (.ofNat 0)), (.int .u8 (.ofNat 0)), (.int .u8 (.ofNat 0)), (.int .u8 (.ofNat 0)), (.int .u8 (.ofNat 0)), (.int .u8 (.ofNat 0)), (.int .u8 (.ofNat 0)), (.int .u8 (.ofNat 0)), (.int .u8 (.ofNat 0)), (.int .u8 (.ofNat 0)), (.int .u8 (.ofNat 0)), (.int .u8 (.ofNat 0)), (.int .u8 (.ofNat 0)), (.int .u8 (.ofNat 0)), (.int .u8 (.ofNat 0)), (.int .u8 (.ofNat 0)), (.int .u8 (.ofNat 0)), (.int .u8 (.ofNat 0)), (.int .u8 (.ofNat 0)), (.int .u8 (.ofNat 0)), (.int .u8 (.ofNat 0)), (.int .u8 (.ofNat 0)), (.int .u8 (.ofNat 0)), (.int .u8 (.ofNat 0)), (.int .u8 (.ofNat 0)), (.int .u8 (.ofNat 0)), (.int .u8 (.ofNat 0)), (.int .u8 (.ofNat 0)), (.int .u8 (.ofNat 0)), (.int .u8 (.ofNat 0)), (.int .u8 (.ofNat 0)), (.int .u8 (.ofNat 0)), (.int .u8 (.ofNat 0)), (.int .u8 (.ofNat 0)), (.int .u8 (.ofNat 0)), (.int .u8 (.ofNat 0)), (.int .u8 (.ofNat 0)), (.int .u8 (.ofNat 0)), (.int .u8 (.ofNat 0)), (.int .u8 (.ofNat 0)), (.int .u8 (.ofNat 0)), (.int .u8 (.ofNat 0)), (.int .u8 (.ofNat 0)), (.int .u8 (.ofNat 0)), (.int .u8 (.ofNat 0)), (.int .u8 (.ofNat 0)), (.int .u8 (.ofNat 0)), (.int .u8 (.ofNat 0)), (.int .u8 (.ofNat 0)), (.int .u8 (.ofNat 0)), (.int .u8 (.ofNat 0)), (.int .u8 (.ofNat 0)), (.int .u8 (.ofNat 0)), (.int .u8 (.ofNat 0)), (.int .u8 (.ofNat 0)), (.int .u8 (.ofNat 0)), (.int .u8 (.ofNat 0)), (.int .u8 (.ofNat 0)), (.int .u8 (.ofNat 0)), (.int .u8 (.ofNat 0)), (.int .u8 (.ofNat 0)), (.int .u8 (.ofNat 0)), (.int .u8 (.ofNat 0)), (.int .u8 (.ofNat 0)), (.int .u8 (.ofNat 0)), (.int .u8 (.ofNat 0)), (.int .u8 (.ofNat 0)), (.int .u8 (.ofNat 0)), (.int .u8 (.ofNat 0)), (.int .u8 (.ofNat 0)), (.int .u8 (.ofNat 0)), (.int .u8 (.ofNat 0)), (.int .u8 (.ofNat 0)), (.int .u8 (.ofNat 0)), (.int .u8 (.ofNat 0)), (.int .u8 (.ofNat 0)), (.int .u8 (.ofNat 0)), (.int .u8 (.ofNat 0)), (.int .u8 (.ofNat 0)), (.int .u8 (.ofNat 0)), (.int .u8 (.ofNat 0)), (.int .u8 (.ofNat 0)), (.int .u8 (.ofNat 0)), (.int .u8 (.ofNat 0)), (.int .u8 (.ofNat 0)), (.int .u8 (.ofNat 0)), (.int .u8 (.ofNat 0)), (.int .u8 (.ofNat 0)), (.int .u8 (.ofNat 0)), (.int .u8 (.ofNat 0)), (.int .u8 (.ofNat 0)), (.int .u8 (.ofNat 0)), (.int .u8 (.ofNat 0)), (.int .u8 (.ofNat 0)), (.int .u8 (.ofNat 0)), (.int .u8 (.ofNat 0)), (.int .u8 (.ofNat 0)), (.int .u8 (.ofNat 0)), (.int .u8 (.ofNat 0)), (.int .u8 (.ofNat 0)), (.int .u8 (.ofNat 0)), (.int .u8 (.ofNat 0)), (.int .u8 (.ofNat 0)), (.int .u8 (.ofNat 0)), (.int .u8 (.ofNat 0)), (.int .u8 (.ofNat 0)), (.int .u8 (.ofNat 0)), (.int .u8 (.ofNat 0)), (.int .u8 (.ofNat 0)), (.int .u8 (.ofNat 0)), (.int .u8 (.ofNat 0)), (.int .u8 (.ofNat 0)), (.int .u8 (.ofNat 0)), (.int .u8 (.ofNat 0)), (.int .u8 (.ofNat 0)), (.int .u8 (.ofNat 0)), (.int .u8 (.ofNat 0)), (.int .u8 (.ofNat 0)), (.int .u8 (.ofNat 0)), (.int .u8 (.ofNat 0)), (.int .u8 (.ofNat 0)), (.int .u8 (.ofNat 0)), (.int .u8 (.ofNat 0)), (.int .u8 (.ofNat 0)), (.int .u8 (.ofNat 0)), (.int .u8 (.ofNat 0)), (.int .u8 (.ofNat 0)), (.int .u8 (.ofNat 0)), (.int .u8 (.ofNat 0)), (.int .u8 (.ofNat 0)), (.int .u8 (.ofNat 0)), (.int .u8 (.ofNat 0)), (.int .u8 (.ofNat 0)), (.int .u8 (.ofNat 0)), (.int .u8 (.ofNat 0)), (.int .u8 (.ofNat 0)), (.int .u8 (.ofNat 0)), (.int .u8 (.ofNat 0)), (.int .u8 (.ofNat 0)), (.int .u8 (.ofNat 0)), (.int .u8 (.ofNat 0)), (.int .u8 (.ofNat 0)), (.int .u8 (.ofNat 0)), (.int .u8 (.ofNat 0)), (.int .u8 (.ofNat 0)), (.int .u8 (.ofNat 0)), (.int .u8 (.ofNat 0)), (.int .u8 (.ofNat 0)), (.int .u8 (.ofNat 0)), (.int .u8 (.ofNat 0)), (.int .u8 (.ofNat 0)), (.int .u8 (.ofNat 0)), (.int .u8 (.ofNat 0)), (.int .u8 (.ofNat 0)), (.int .u8 (.ofNat 0)), (.int .u8 (.ofNat 0)), (.int .u8 (.ofNat 0)), (.int .u8 (.ofNat 0)), (.int .u8 (.ofNat 0)), (.int .u8 (.ofNat 0)), (.int .u8 (.ofNat 0)), (.int .u8 (.ofNat 0)), (.int .u8 (.ofNat 0)), (.int .u8 (.ofNat 0)), (.int .u8 (.ofNat 0)), (.int .u8 (.ofNat 0)), (.int .u8 (.ofNat 0)), (.int .u8 (.ofNat 0)), (.int .u8 (.ofNat 0)), (.int .u8 (.ofNat 0)), (.int .u8 (.ofNat 0)), (.int .u8 (.ofNat 0)), (.int .u8 (.ofNat 0)), (.int .u8 (.ofNat 0)), (.int .u8 (.ofNat 0)), (.int .u8 (.ofNat 0)), (.int .u8 (.ofNat 0)), (.int .u8 (.ofNat 0)), (.int .u8 (.ofNat 0)), (.int .u8 (.ofNat 0)), (.int .u8 (.ofNat 0)), (.int .u8 (.ofNat 0)), (.int .u8 (.ofNat 0)), (.int .u8 (.ofNat 0)), (.int .u8 (.ofNat 0)), (.int .u8 (.ofNat 0)), (.int .u8 (.ofNat 0)), (.int .u8 (.ofNat 0)), (.int .u8 (.ofNat 0)), (.int .u8 (.ofNat 0)), (.int .u8 (.ofNat 0)), (.int .u8 (.ofNat 0)), (.int .u8 (.ofNat 0)), (.int .u8 (.ofNat 0)), (.int .u8 (.ofNat 0)), (.int .u8 (.ofNat 0)), (.int .u8 (.ofNat 0)), (.int .u8 (.ofNat 0)), (.int .u8 (.ofNat 0)), (.int .u8 (.ofNat 0)), (.int .u8 (.ofNat 0)), (.int .u8 (.ofNat 0)), (.int .u8 (.ofNat 0)), (.int .u8 (.ofNat 0)), (.int .u8 (.ofNat 0)), (.int .u8 (.ofNat 0)), (.int .u8 (.ofNat 0)), (.int .u8 (.ofNat 0)), (.int .u8 (.ofNat 0)), (.int .u8 (.ofNat 0)), (.int .u8 (.ofNat 0)), (.int .u8 (.ofNat 0)), (.int .u8 (.ofNat 0)), (.int .u8 (.ofNat 0)), (.int .u8 (.ofNat 0)), (.int .u8 (.ofNat 0)), (.int .u8 (.ofNat 0)), (.int .u8 (.ofNat 0)), (.int .u8 (.ofNat 0)), (.int .u8 (.ofNat 0)), (.int .u8 (.ofNat 0)), (.int .u8 (.ofNat 0)), (.int .u8 (.ofNat 0)), (.int .u8 (.ofNat 0)), (.int .u8 (.ofNat 0)), (.int .u8 (.ofNat 0)), (.int .u8 (.ofNat 0)), (.int .u8 (.ofNat 0)), (.int .u8 (.ofNat 0)), (.int .u8 (.ofNat 0)), (.int .u8 (.ofNat 0)), (.int .u8 (.ofNat 0)), (.int .u8 (.ofNat 0)), (.int .u8 (.ofNat 0)), (.int .u8 (.ofNat 0)), (.int .u8 (.ofNat 0)), (.int .u8 (.ofNat 0)), (.int .u8 (.ofNat 0)), (.int .u8 (.ofNat 0)), (.int .u8 (.ofNat 0)), (.int .u8 (.ofNat 0)), (.int .u8 (.ofNat 0)), (.int .u8 (.ofNat 0)), (.int .u8 (.ofNat 0)), (.int .u8 (.ofNat 0)), (.int .u8 (.ofNat 0)), (.int .u8 (.ofNat 0)), (.int .u8 (.ofNat 0)), (.int .u8 (.ofNat 0)), (.int .u8 (.ofNat 0)), (.int .u8 (.ofNat 0)), (.int .u8 (.ofNat 0)), (.int .u8 (.ofNat 0)), (.int .u8 (.ofNat 0)), (.int .u8 (.ofNat 0)), (.int .u8 (.ofNat 0)), (.int .u8 (.ofNat 0)), (.int .u8 (.ofNat 0)), (.int .u8 (.ofNat 0)), (.int .u8 (.ofNat 0)), (.int .u8 (.ofNat 0)), (.int .u8 (.ofNat 0)), (.int .u8 (.ofNat 0)), (.int .u8 (.ofNat 0)), (.int .u8 (.ofNat 0)), (.int .u8 (.ofNat 0)), (.int .u8 (.ofNat 0)), (.int .u8 (.ofNat 0)), (.int .u8 (.ofNat 0)), (.int .u8 (.ofNat 0)), (.int .u8 (.ofNat 0)), (.int .u8 (.ofNat 0)), (.int .u8 (.ofNat 0)), (.int .u8 (.ofNat 0)), (.int .u8 (.ofNat 0)), (.int .u8 (.ofNat 0)), (.int .u8 (.ofNat 0)), (.int .u8 (.ofNat 0)), (.int .u8 (.ofNat 0)), (.int .u8 (.ofNat 0)), (.int .u8 (.ofNat 0)), (.int .u8 (.ofNat 0)), (.int .u8 (.ofNat 0)), (.int .u8 (.ofNat 0)), (.int .u8 (.ofNat 0)), (.int .u8 (.ofNat 0)), (.int .u8 (.ofNat 0)), (.int .u8 (.ofNat 0)), (.int .u8 (.ofNat 0)), (.int .u8 (.ofNat 0)), (.int .u8 (.ofNat 0)), (.int .u8 (.ofNat 0)), (.int .u8 (.ofNat 0)), (.int .u8 (.ofNat 0)), (.int .u8 (.ofNat 0)), (.int .u8 (.ofNat 0)), (.int .u8 (.ofNat 0)), (.int .u8 (.ofNat 0)), (.int .u8 (.ofNat 0)), (.int .u8 (.ofNat 0)), (.int .u8 (.ofNat 0)), (.int .u8 (.ofNat 0)), (.int .u8 (.ofNat 0)), (.int .u8 (.ofNat 0)), (.int .u8 (.ofNat 0)), (.int .u8 (.ofNat 0)), (.int .u8 (.ofNat 0)), (.int .u8 (.ofNat 0)), (.int .u8 (.ofNat 0)), (.int .u8 (.ofNat 0)), (.int .u8 (.ofNat 0)), (.int .u8 (.ofNat 0)), (.int .u8 (.ofNat 0)), (.int .u8 (.ofNat 0)), (.int .u8 (.ofNat 0)), (.int .u8 (.ofNat 0)), (.int .u8 (.ofNat 0)), (.int .u8 (.ofNat 0)), (.int .u8 (.ofNat 0)), (.int .u8 (.ofNat 0)), (.int .u8 (.ofNat 0)), (.int .u8 (.ofNat 0)), (.int .u8 (.ofNat 0)), (.int .u8 (.ofNat 0)), (.int .u8 (.ofNat 0)), (.int .u8 (.ofNat 0)), (.int .u8 (.ofNat 0)), (.int .u8 (.ofNat 0)), (.int .u8 (.ofNat 0)), (.int .u8 (.ofNat 0)), (.int .u8 (.ofNat 0)), (.int .u8 (.ofNat 0)), (.int .u8 (.ofNat 0)), (.int .u8 (.ofNat 0)), (.int .u8 (.ofNat 0)), (.int .u8 (.ofNat 0)), (.int .u8 (.ofNat 0)), (.int .u8 (.ofNat 0)), (.int .u8 (.ofNat 0)), (.int .u8 (.ofNat 0)), (.int .u8 (.ofNat 0)), (.int .u8 (.ofNat 0)), (.int .u8 (.ofNat 0)), (.int .u8 (.ofNat 0)), (.int .u8 (.ofNat 0)), (.int .u8 (.ofNat 0)), (.int .u8 (.ofNat 0)), (.int .u8 (.ofNat 0)), (.int .u8 (.ofNat 0)), (.int .u8 (.ofNat 0)), (.int .u8 (.ofNat 0)), (.int .u8 (.ofNat 0)), (.int .u8 (.ofNat 0)), (.int .u8 (.ofNat 0)), (.int .u8 (.ofNat 0)), (.int .u8 (.ofNat 0)), (.int .u8 (.ofNat 0)), (.int .u8 (.ofNat 0)), (.int .u8 (.ofNat 0)), (.int .u8 (.ofNat 0)), (.int .u8 (.ofNat 0)), (.int .u8 (.ofNat 0)), (.int .u8 (.ofNat 0)), (.int .u8 (.ofNat 0)), (.int .u8 (.ofNat 0)), (.int .u8 (.ofNat 0)), (.int .u8 (.ofNat 0)), (.int .u8 (.ofNat 0)), (.int .u8 (.ofNat 0)), (.int .u8 (.ofNat 0)), (.int .u8 (.ofNat 0)), (.int .u8 (.ofNat 0)), (.int .u8 (.ofNat 0)), (.int .u8 (.ofNat 0)), (.int .u8 (.ofNat 0)), (.int .u8 (.ofNat 0)), (.int .u8 (.ofNat 0)), (.int .u8 (.ofNat 0)), (.int .u8 (.ofNat 0)), (.int .u8 (.ofNat 0)), (.int .u8 (.ofNat 0)), (.int .u8 (.ofNat 0)), (.int .u8 (.ofNat 0)), (.int .u8 (.ofNat 0)), (.int .u8 (.ofNat 0)), (.int .u8 (.ofNat 0)), (.int .u8 (.ofNat 0)), (.int .u8 (.ofNat 0)), (.int .u8 (.ofNat 0)), (.int .u8 (.ofNat 0)), (.int .u8 (.ofNat 0)), (.int .u8 (.ofNat 0)), (.int .u8 (.ofNat 0)), (.int .u8 (.ofNat 0)), (.int .u8 (.ofNat 0)), (.int .u8 (.ofNat 0)), (.int .u8 (.ofNat 0)), (.int .u8 (.ofNat 0)), (.int .u8 (.ofNat 0)), (.int .u8 (.ofNat 0)), (.int .u8 (.ofNat 0)), (.int .u8 (.ofNat 0)), (.int .u8 (.ofNat 0)), (.int .u8 (.ofNat 0)), (.int .u8 (.ofNat 0)), (.int .u8 (.ofNat 0)), (.int .u8 (.ofNat 0)), (.int .u8 (.ofNat 0)), (.int .u8 (.ofNat 0)), (.int .u8 (.ofNat 0)), (.int .u8 (.ofNat 0)), (.int .u8 (.ofNat 0)), (.int .u8 (.ofNat 0)), (.int .u8 (.ofNat 0)), (.int .u8 (.ofNat 0)), (.int .u8 (.ofNat 0)), (.int .u8 (.ofNat 0)), (.int .u8 (.ofNat 0)), (.int .u8 (.ofNat 0)), (.int .u8 (.ofNat 0)), (.int .u8 (.ofNat 0)), (.int .u8 (.ofNat 0)), (.int .u8 (.ofNat 0)), (.int .u8 (.ofNat 0)), (.int .u8 (.ofNat 0)), (.int .u8 (.ofNat 0)), (.int .u8 (.ofNat 0)), (.int .u8 (.ofNat 0)), (.int .u8 (.ofNat 0)), (.int .u8 (.ofNat 0)), (.int .u8 (.ofNat 0)), (.int .u8 (.ofNat 0)), (.int .u8 (.ofNat 0)), (.int .u8 (.ofNat 0)), (.int .u8 (.ofNat 0)), (.int .u8 (.ofNat 0)), (.int .u8 (.ofNat 0)), (.int .u8 (.ofNat 0)), (.int .u8 (.ofNat 0)), (.int .u8 (.ofNat 0)), (.int .u8 (.ofNat 0)), (.int .u8 (.ofNat 0)), (.int .u8 (.ofNat 0)), (.int .u8 (.ofNat 0)), (.int .u8 (.ofNat 0)), (.int .u8 (.ofNat 0)), (.int .u8 (.ofNat 0)), (.int .u8 (.ofNat 0)), (.int .u8 (.ofNat 0)), (.int .u8 (.ofNat 0)), (.int .u8 (.ofNat 0)), (.int .u8 (.ofNat 0)), (.int .u8 (.ofNat 0)), (.int .u8 (.ofNat 0)), (.int .u8 (.ofNat 0)), (.int .u8 (.ofNat 0)), (.int .u8 (.ofNat 0)), (.int .u8 (.ofNat 0)), (.int .u8 (.ofNat 0)), (.int .u8 (.ofNat 0)), (.int .u8 (.ofNat 0)), (.int .u8 (.ofNat 0)), (.int .u8 (.ofNat 0)), (.int .u8 (.ofNat 0)), (.int .u8 (.ofNat 0)), (.int .u8 (.ofNat 0)), (.int .u8 (.ofNat 0)), (.int .u8 (.ofNat 0)), (.int .u8 (.ofNat 0)), (.int .u8 (.ofNat 0)), (.int .u8 (.ofNat 0)), (.int .u8 (.ofNat 0)), (.int .u8 (.ofNat 0)), (.int .u8 (.ofNat 0)), (.int .u8 (.ofNat 0)), (.int .u8 (.ofNat 0)), (.int .u8 (.ofNat 0)), (.int .u8 (.ofNat 0)), (.int .u8 (.ofNat 0)), (.int .u8 (.ofNat 0)), (.int .u8 (.ofNat 0)), (.int .u8 (.ofNat 0)), (.int .u8 (.ofNat 0)), (.int .u8 (.ofNat 0)), (.int .u8 (.ofNat 0)), (.int .u8 (.ofNat 0)), (.int .u8 (.ofNat 0)), (.int .u8 (.ofNat 0)), (.int .u8 (.ofNat 0)), (.int .u8 (.ofNat 0)), (.int .u8 (.ofNat 0)), (.int .u8 (.ofNat 0)), (.int .u8 (.ofNat 0)), (.int .u8 (.ofNat 0)), (.int .u8 (.ofNat 0)), (.int .u8 (.ofNat 0)), (.int .u8 (.ofNat 0)), (.int .u8 (.ofNat 0)), (.int .u8 (.ofNat 0)), (.int .u8 (.ofNat 0)), (.int .u8 (.ofNat 0)), (.int .u8 (.ofNat 0)), (.int .u8 (.ofNat 0)), (.int .u8 (.ofNat 0)), (.int .u8 (.ofNat 0)), (.int .u8 (.ofNat 0)), (.int .u8 (.ofNat 0)), (.int .u8 (.ofNat 0)), (.int .u8 (.ofNat 0)), (.int .u8 (.ofNat 0)), (.int .u8 (.ofNat 0)), (.int .u8 (.ofNat 0)), (.int .u8 (.ofNat 0)), (.int .u8 (.ofNat 0)), (.int .u8 (.ofNat 0)), (.int .u8 (.ofNat 0)), (.int .u8 (.ofNat 0)), (.int .u8 (.ofNat 0)), (.int .u8 (.ofNat 0)), (.int .u8 (.ofNat 0)), (.int .u8 (.ofNat 0)), (.int .u8 (.ofNat 0)), (.int .u8 (.ofNat 0)), (.int .u8 (.ofNat 0)), (.int .u8 (.ofNat 0)), (.int .u8 (.ofNat 0)), (.int .u8 (.ofNat 0)), (.int .u8 (.ofNat 0)), (.int .u8 (.ofNat 0)), (.int .u8 (.ofNat 0)), (.int .u8 (.ofNat 0)), (.int .u8 (.ofNat 0)), (.int .u8 (.ofNat 0)), (.int .u8 (.ofNat 0)), (.int .u8 (.ofNat 0)), (.int .u8 (.ofNat 0)), (.int .u8 (.ofNat 0)), (.int .u8 (.ofNat 0)), (.int .u8 (.ofNat 0)), (.int .u8 (.ofNat 0)), (.int .u8 (.ofNat 0)), (.int .u8 (.ofNat 0)), (.int .u8 (.ofNat 0)), (.int .u8 (.ofNat 0)), (.int .u8 (.ofNat 0)), (.int .u8 (.ofNat 0)), (.int .u8 (.ofNat 0)), (.int .u8 (.ofNat 0)), (.int .u8 (.ofNat 0)), (.int .u8 (.ofNat 0)), (.int .u8 (.ofNat 0)), (.int .u8 (.ofNat 0)), (.int .u8 (.ofNat 0)), (.int .u8 (.ofNat 0)), (.int .u8 (.ofNat 0)), (.int .u8 (.ofNat 0)), (.int .u8 (.ofNat 0)), (.int .u8 (.ofNat 0)), (.int .u8 (.ofNat 0)), (.int .u8 (.ofNat 0)), (.int .u8 (.ofNat 0)), (.int .u8 (.ofNat 0)), (.int .u8 (.ofNat 0)), (.int .u8 (.ofNat 0)), (kI 0), (kI 0), (.bool false), (.bool false)])] (.seq (.seq (.oX [.mv p125 q0 .s, .mv p126 q3 tI, .P p127 (.slice .str q125 none (some q126) none) .s, .cl p128 205 [q23, q127] .b, .P p129 (.un .not q128) .b]) (.cond q129 (.seq (.oX [.mv p130 q3 tI, .P p131 (.mkif 170 (ci 2)) .v, .mv p2 (.c (.flt .f64 0)) .v, .mv p3 q130 tI, .mv p4 q131 .v]) .ret) .skip)) (.sO [.cl p133 206 [q23, (.c (.ptr p9 0))] .v, .mv p132 q133 .v, .P p134 (.ext q132 0) (.i .u64), .P p135 (.ext q132 1) .b, .mv p24 q134 (.i .u64), .mv p25 q135 .b] (.sO [.mv p136 q24 (.i .u64), .P p137 (.xt .ffrom [q136]) .v, .mv p2 q137 .v] (.sj v181_1 (.sO [.mv p138 q25 .b] (.cond q138 (.s (.oX [.P p139 (.mkif 170 (ci 1)) .v, .mv p4 q139 .v])) (.s .skip))) c181_1)))))
def v181_2 : List Pos := [p0, p3, p4, p8, p9, p11, p16]
def c181_2 : XC := (.sO [.mv p100 q8 (.i .u64), .mv p101 q9 tI, .mv p102 q16 (.i .u64), .cl p103 210 [q100, q101, q102] .v, .mv p99 q103 .v, .P p104 (.ext q99 0) .v, .P p105 (.ext q99 1) .v, .mv p19 q104 .v, .mv p20 q105 .v] (.seq (.seq (.oX [.mv p106 q11 .b, .P p107 (.un .not q106) .b]) (.cond q107 (.seq (.oX [.mv p108 q19 .v, .mv p109 q3 tI, .mv p110 q20 .v, .mv p2 q108 .v, .mv p3 q109 tI, .mv p4 q110 .v]) .ret) .skip)) (.sO [.mv p112 q8 (.i .u64), .bn p113 .add q112 (.c (.int .u64 (.ofNat 1))) (.i .u64), .mv p114 q9 tI, .mv p115 q16 (.i .u64), .cl p116 210 [q113, q114, q115] .v, .mv p111 q116 .v, .P p117 (.ext q111 0) .v, .P p118 (.ext q111 1) .v, .mv p21 q117 .v, .mv p22 q118 .v] (.sO [.mv p119 q19 .v, .mv p120 q21 .v, .bn p121 .eql q119 q120 .b] (.cond q121 (.sO [.mv p122 q19 .v, .mv p123 q3 tI, .mv p124 q20 .v, .mv p2 q122 .v, .mv p3 q123 tI, .mv p4 q124 .v] (.s .ret)) (.s .skip))))))
def c181_e : XC := (.sO [.mv p2 (.c (.flt .f64 0)) .v, .mv p3 (ci 0) tI, .mv p4 (.c .nili) .v] (.seq (.seq (.oX [.mv p27 q0 .s, .cl p28 198 [q27] .v, .mv p26 q28 .v, .P p29 (.ext q26 0) .v, .P p30 (.ext q26 1) tI, .P p31 (.ext q26 2) .b, .mv p5 q29 .v, .mv p6 q30 tI, .mv p7 q31 .b]) (.seq (.oX [.mv p32 q7 .b]) (.cond q32 (.seq (.oX [.mv p33 q5 .v, .mv p34 q6 tI, .mv p2 q33 .v, .mv p3 q34 tI, .mv p4 (.c .nili) .v]) .ret) .skip))) (.sO [.mv p36 q0 .s, .cl p37 199 [q36] .v, .mv p35 q37 .v, .P p38 (.ext q35 0) (.i .u64), .P p39 (.ext q35 1) tI, .P p40 (.ext q35 2) .b, .P p41 (.ext q35 3) .b, .P p42 (.ext q35 4) .b, .P p43 (.ext q35 5) tI, .P p44 (.ext q35 6) .b, .mv p8 q38 (.i .u64), .mv p9 q39 tI, .mv p10 q40 .b, .mv p11 q41 .b, .mv p12 q42 .b, .mv p3 q43 tI, .mv p13 q44 .b] (.seq (.seq (.oX [.mv p45 q13 .b, .P p46 (.un .not q45) .b]) (.cond q46 (.seq (.oX [.mv p47 q3 tI, .P p48 (.mkif 170 (ci 2)) .v, .mv p2 (.c (.flt .f64 0)) .v, .mv p3 q47 tI, .mv p4 q48 .v]) .ret) .skip)) (.seq (.seq (.oX [.mv p49 q12 .b]) (.cond q49 (.seq (.oX [.mv p51 q0 .s, .mv p52 q3 tI, .P p53 (.slice .str q51 none (some q52) none) .s, .mv p54 q8 (.i .u64), .mv p55 q9 tI, .mv p56 q10 .b, .mv p57 q11 .b, .cl p58 200 [q53, (.c (.ptr p9 0)), q54, q55, q56, q57] .v, .mv p50 q58 .v, .P p59 (.ext q50 0) .v, .P p60 (.ext q50 1) .v, .mv p14 q59 .v, .mv p15 q60 .v]) (.seq (.oX [.mv p61 q14 .v, .mv p62 q3 tI, .mv p63 q15 .v, .mv p2 q61 .v, .mv p3 q62 tI, .mv p4 q63 .v]) .ret)) .skip)) (.sj v181_0 (.sO [.ld p64 (.c (.ptr p5 0)) .b] (.cond q64 (.sO [.mv p65 q10 .b, .cl p66 207 [q65] (.i .u64), .bn p67 .shl q66 (.c (.int .u64 (.ofNat 63))) (.i .u64), .mv p16 q67 (.i .u64)] (.seq (.seq (.oX [.mv p68 q8 (.i .u64), .bn p69 .eql q68 (.c (.int .u64 (.ofNat 0))) .b]) (.cond q69 (.seq (.oX [.mv p70 q16 (.i .u64), .bn p71 .or q70 (.c (.int .u64 (.ofNat 0))) (.i .u64), .P p72 (.xt .ffrom [q71]) .v, .mv p73 q3 tI, .mv p2 q72 .v, .mv p3 q73 tI, .mv p4 (.c .nili) .v]) .ret) .skip)) (.seq (.seq (.oX [.mv p74 q9 tI, .bn p75 .gtr q74 (ci 310) .b]) (.cond q75 (.seq (.oX [.mv p76 q16 (.i .u64), .bn p77 .or q76 (.c (.int .u64 (.ofNat 9218868437227405312))) (.i .u64), .P p78 (.xt .ffrom [q77]) .v, .mv p79 q3 tI, .P p80 (.mkif 170 (ci 1)) .v, .mv p2 q78 .v, .mv p3 q79 tI, .mv p4 q80 .v]) .ret) .skip)) (.seq (.seq (.oX [.mv p81 q9 tI, .bn p82 .lss q81 (.c (.int .i64 (.negSucc 344))) .b]) (.cond q82 (.seq (.oX [.mv p83 q16 (.i .u64), .bn p84 .or q83 (.c (.int .u64 (.ofNat 0))) (.i .u64), .P p85 (.xt .ffrom [q84]) .v, .mv p86 q3 tI, .mv p2 q85 .v, .mv p3 q86 tI, .mv p4 (.c .nili) .v]) .ret) .skip)) (.sj v181_2 (.sO [.mv p87 q11 .b, .P p88 (.un .not q87) .b] (.cond q88 (.sO [.mv p90 q8 (.i .u64), .mv p91 q9 tI, .mv p92 q10 .b, .cl p93 209 [q90, q91, q92] .v, .mv p89 q93 .v, .P p94 (.ext q89 0) .v, .P p95 (.ext q89 1) .b, .mv p17 q94 .v, .mv p18 q95 .b] (.sO [.mv p96 q18 .b] (.cond q96 (.sO [.mv p97 q17 .v, .mv p98 q3 tI, .mv p2 q97 .v, .mv p3 q98 tI, .mv p4 (.c .nili) .v] (.s .ret)) (.s .skip)))) (.s .skip))) c181_2))))) (.s .skip))) c181_0))))))
def x181 : XFn := ⟨[.s], false, [(.tmp p2), (.tmp p3), (.tmp p4)], c181_e⟩
def e181_1 (k t2 t3 t4 h) := kN k [(p2, t2), (p3, (vI t3)), (p4, t4)] h
def S181_1 (D : CallD) (m : Nat) (t2 : AV) (t3 : Int) (t4 : AV) (h : HP) : Res2 :=
 some (.ret (.tup [t2, (vI t3), t4]) h, .no)
def e181_0 (k t0 t3 t4 h) := kN k [(p0, (vS t0)), (p3, (vI t3)), (p4, t4)] h
def S181_0 (D : CallD) (m : Nat) (t0 : LN) (t3 : Int) (t4 : AV) (h : HP) : Res2 :=
 let t23 := AV.ptr (HP.nxQ h) 0
 let h7 := HP.newQ h (.cells true [(.int .u8 (.ofNat 0)), (.int .u8 (.ofNat 0)), (.int .u8 (.ofNat 0)), (.int .u8 (.ofNat 0)), (.int .u8 (.ofNat 0)), (.int .u8 (.ofNat 0)), (.int .u8 (.ofNat 0)), (.int .u8 (.ofNat 0)), (.int .u8 (.ofNat 0)), (.int .u8 (.ofNat 0)), (.int .u8 (.ofNat 0)), (.int .u8 (.ofNat 0)), (.int .u8 (.ofNat 0)), (.int .u8 (.ofNat 0)), (.int .u8 (.ofNat 0)), (.int .u8 (.ofNat 0)), (.int .u8 (.ofNat 0)), (.int .u8 (.ofNat 0)), (.int .u8 (.ofNat 0)), (.int .u8 (.ofNat 0)), (.int .u8 (.ofNat 0)), (.int .u8 (.ofNat 0)), (.int .u8 (.ofNat 0)), (.int .u8 (.ofNat 0)), (.int .u8 (.ofNat 0)), (.int .u8 (.ofNat 0)), (.int .u8 (.ofNat 0)), (.int .u8 (.ofNat 0)), (.int .u8 (.ofNat 0)), (.int .u8 (.ofNat 0)), (.int .u8 (.ofNat 0)), (.int .u8 (.ofNat 0)), (.int .u8 (.ofNat 0)), (.int .u8 (.ofNat 0)), (.int .u8 (.ofNat 0)), (.int .u8 (.ofNat 0)), (.int .u8 (.ofNat 0)), (.int .u8 (.ofNat 0)), (.int .u8 (.ofNat 0)), (.int .u8 (.ofNat 0)), (.int .u8 (.ofNat 0)), (.int .u8 (.ofNat 0)), (.int .u8 (.ofNat 0)), (.int .u8 (.ofNat 0)), (.int .u8 (.ofNat 0)), (.int .u8 (.ofNat 0)), (.int .u8 (.ofNat 0)), (.int .u8 (.ofNat 0)), (.int .u8 (.ofNat 0)), (.int .u8 (.ofNat 0)), (.int .u8 (.ofNat 0)), (.int .u8 (.ofNat 0)), (.int .u8 (.ofNat 0)), (.int .u8 (.ofNat 0)), (.int .u8 (.ofNat 0)), (.int .u8 (.ofNat 0)), (.int .u8 (.ofNat 0)), (.int .u8 (.ofNat 0)), (.int .u8 (.ofNat 0)), (.int .u8 (.ofNat 0)), (.int .u8 (.ofNat 0)), (.int .u8 (.ofNat 0)), (.int .u8 (.ofNat 0)), (.int .u8 (.ofNat 0)), (.int .u8 (.ofNat 0)), (.int .u8 (.ofNat 0)), (.int .u8 (.ofNat 0)), (.int .u8 (.ofNat 0)), (.int .u8 (.ofNat 0)), (.int .u8 (.ofNat 0)), (.int .u8 (.ofNat 0)), (.int .u8 (.ofNat 0)), (.int .u8 (.ofNat 0)), (.int .u8 (.ofNat 0)), (.int .u8 (.ofNat 0)), (.int .u8 (.ofNat 0)), (.int .u8 (.ofNat 0)), (.int .u8 (.ofNat 0)), (.int .u8 (.ofNat 0)), (.int .u8 (.ofNat 0)), (.int .u8 (.ofNat 0)), (.int .u8 (.ofNat 0)), (.int .u8 (.ofNat 0)), (.int .u8 (.ofNat 0)), (.int .u8 (.ofNat 0)), (.int .u8 (.ofNat 0)), (.int .u8 (.ofNat 0)), (.int .u8 (.ofNat 0)), (.int .u8 (.ofNat 0)), (.int .u8 (.ofNat 0)), (.int .u8 (.ofNat 0)), (.int .u8 (.ofNat 0)), (.int .u8 (.ofNat 0)), (.int .u8 (.ofNat 0)), (.int .u8 (.ofNat 0)), (.int .u8 (.ofNat 0)), (.int .u8 (.ofNat 0)), (.int .u8 (.ofNat 0)), (.int .u8 (.ofNat 0)), (.int .u8 (.ofNat 0)), (.int .u8 (.ofNat 0)), (.int .u8 (.ofNat 0)), (.int .u8 (.ofNat 0)), (.int .u8 (.ofNat 0)), (.int .u8 (.ofNat 0)), (.int .u8 (.ofNat 0)), (.int .u8 (.ofNat 0)), (.int .u8 (.ofNat 0)), (.int .u8 (.ofNat 0)), (.int .u8 (.ofNat 0)), (.int .u8 (.ofNat 0)), (.int .u8 (.ofNat 0)), (.int .u8 (.ofNat 0)), (.int .u8 (.ofNat 0)), (.int .u8 (.ofNat 0)), (.int .u8 (.ofNat 0)), (.int .u8 (.ofNat 0)), (.int .u8 (.ofNat 0)), (.int .u8 (.ofNat 0)), (.int .u8 (.ofNat 0)), (.int .u8 (.ofNat 0)), (.int .u8 (.ofNat 0)), (.int .u8 (.ofNat 0)), (.int .u8 (.ofNat 0)), (.int .u8 (.ofNat 0)), (.int .u8 (.ofNat 0)), (.int .u8 (.ofNat 0)), (.int .u8 (.ofNat 0)), (.int .u8 (.ofNat 0)), (.int .u8 (.ofNat 0)), (.int .u8 (.ofNat 0)), (.int .u8 (.ofNat 0)), (.int .u8 (.ofNat 0)), (.int .u8 (.ofNat 0)), (.int .u8 (.ofNat 0)), (.int .u8 (.ofNat 0)), (.int .u8 (.ofNat 0)), (.int .u8 (.ofNat 0)), (.int .u8 (.ofNat 0)), (.int .u8 (.ofNat 0)), (.int .u8 (.ofNat 0)), (.int .u8 (.ofNat 0)), (.int .u8 (.ofNat 0)), (.int .u8 (.ofNat 0)), (.int .u8 (.ofNat 0)), (.int .u8 (.ofNat 0)), (.int .u8 (.ofNat 0)), (.int .u8 (.ofNat 0)), (.int .u8 (.ofNat 0)), (.int .u8 (.ofNat 0)), (.int .u8 (.ofNat 0)), (.int .u8 (.ofNat 0)), (.int .u8 (.ofNat 0)), (.int .u8 (.ofNat 0)), (.int .u8 (.ofNat 0)), (.int .u8 (.ofNat 0)), (.int .u8 (.ofNat 0)), (.int .u8 (.ofNat 0)), (.int .u8 (.ofNat 0)), (.int .u8 (.ofNat 0)), (.int .u8 (.ofNat 0)), (.int .u8 (.ofNat 0)), (.int .u8 (.ofNat 0)), (.int .u8 (.ofNat 0)), (.int .u8 (.ofNat 0)), (.int .u8 (.ofNat 0)), (.int .u8 (.ofNat 0)), (.int .u8 (.ofNat 0)), (.int .u8 (.ofNat 0)), (.int .u8 (.ofNat 0)), (.int .u8 (.ofNat 0)), (.int .u8 (.ofNat 0)), (.int .u8 (.ofNat 0)), (.int .u8 (.ofNat 0)), (.int .u8 (.ofNat 0)), (.int .u8 (.ofNat 0)), (.int .u8 (.ofNat 0)), (.int .u8 (.ofNat 0)), (.int .u8 (.ofNat 0)), (.int .u8 (.ofNat 0)), (.int .u8 (.ofNat 0)), (.int .u8 (.ofNat 0)), (.int .u8 (.ofNat 0)), (.int .u8 (.ofNat 0)), (.int .u8 (.ofNat 0)), (.int .u8 (.ofNat 0)), (.int .u8 (.ofNat 0)), (.int .u8 (.ofNat 0)), (.int .u8 (.ofNat 0)), (.int .u8 (.ofNat 0)), (.int .u8 (.ofNat 0)), (.int .u8 (.ofNat 0)), (.int .u8 (.ofNat 0)), (.int .u8 (.ofNat 0)), (.int .u8 (.ofNat 0)), (.int .u8 (.ofNat 0)), (.int .u8 (.ofNat 0)), (.int .u8 (.ofNat 0)), (.int .u8 (.ofNat 0)), (.int .u8 (.ofNat 0)), (.int .u8 (.ofNat 0)), (.int .u8 (.ofNat 0)), (.int .u8 (.ofNat 0)), (.int .u8 (.ofNat 0)), (.int .u8 (.ofNat 0)), (.int .u8 (.ofNat 0)), (.int .u8 (.ofNat 0)), (.int .u8 (.ofNat 0)), (.int .u8 (.ofNat 0)), (.int .u8 (.ofNat 0)), (.int .u8 (.ofNat 0)), (.int .u8 (.ofNat 0)), (.int .u8 (.ofNat 0)), (.int .u8 (.ofNat 0)), (.int .u8 (.ofNat 0)), (.int .u8 (.ofNat 0)), (.int .u8 (.ofNat 0)), (.int .u8 (.ofNat 0)), (.int .u8 (.ofNat 0)), (.int .u8 (.ofNat 0)), (.int .u8 (.ofNat 0)), (.int .u8 (.ofNat 0)), (.int .u8 (.ofNat 0)), (.int .u8 (.ofNat 0)), (.int .u8 (.ofNat 0)), (.int .u8 (.ofNat 0)), (.int .u8 (.ofNat 0)), (.int .u8 (.ofNat 0)), (.int .u8 (.ofNat 0)), (.int .u8 (.ofNat 0)), (.int .u8 (.ofNat 0)), (.int .u8 (.ofNat 0)), (.int .u8 (.ofNat 0)), (.int .u8 (.ofNat 0)), (.int .u8 (.ofNat 0)), (.int .u8 (.ofNat 0)), (.int .u8 (.ofNat 0)), (.int .u8 (.ofNat 0)), (.int .u8 (.ofNat 0)), (.int .u8 (.ofNat 0)), (.int .u8 (.ofNat 0)), (.int .u8 (.ofNat 0)), (.int .u8 (.ofNat 0)), (.int .u8 (.ofNat 0)), (.int .u8 (.ofNat 0)), (.int .u8 (.ofNat 0)), (.int .u8 (.ofNat 0)), (.int .u8 (.ofNat 0)), (.int .u8 (.ofNat 0)), (.int .u8 (.ofNat 0)), (.int .u8 (.ofNat 0)), (.int .u8 (.ofNat 0)), (.int .u8 (.ofNat 0)), (.int .u8 (.ofNat 0)), (.int .u8 (.ofNat 0)), (.int .u8 (.ofNat 0)), (.int .u8 (.ofNat 0)), (.int .u8 (.ofNat 0)), (.int .u8 (.ofNat 0)), (.int .u8 (.ofNat 0)), (.int .u8 (.ofNat 0)), (.int .u8 (.ofNat 0)), (.int .u8 (.ofNat 0)), (.int .u8 (.ofNat 0)), (.int .u8 (.ofNat 0)), (.int .u8 (.ofNat 0)), (.int .u8 (.ofNat 0)), (.int .u8 (.ofNat 0)), (.int .u8 (.ofNat 0)), (.int .u8 (.ofNat 0)), (.int .u8 (.ofNat 0)), (.int .u8 (.ofNat 0)), (.int .u8 (.ofNat 0)), (.int .u8 (.ofNat 0)), (.int .u8 (.ofNat 0)), (.int .u8 (.ofNat 0)), (.int .u8 (.ofNat 0)), (.int .u8 (.ofNat 0)), (.int .u8 (.ofNat 0)), (.int .u8 (.ofNat 0)), (.int .u8 (.ofNat 0)), (.int .u8 (.ofNat 0)), (.int .u8 (.ofNat 0)), (.int .u8 (.ofNat 0)), (.int .u8 (.ofNat 0)), (.int .u8 (.ofNat 0)), (.int .u8 (.ofNat 0)), (.int .u8 (.ofNat 0)), (.int .u8 (.ofNat 0)), (.int .u8 (.ofNat 0)), (.int .u8 (.ofNat 0)), (.int .u8 (.ofNat 0)), (.int .u8 (.ofNat 0)), (.int .u8 (.ofNat 0)), (.int .u8 (.ofNat 0)), (.int .u8 (.ofNat 0)), (.int .u8 (.ofNat 0)), (.int .u8 (.ofNat 0)), (.int .u8 (.ofNat 0)), (.int .u8 (.ofNat 0)), (.int .u8 (.ofNat 0)), (.int .u8 (.ofNat 0)), (.int .u8 (.ofNat 0)), (.int .u8 (.ofNat 0)), (.int .u8 (.ofNat 0)), (.int .u8 (.ofNat 0)), (.int .u8 (.ofNat 0)), (.int .u8 (.ofNat 0)), (.int .u8 (.ofNat 0)), (.int .u8 (.ofNat 0)), (.int .u8 (.ofNat 0)), (.int .u8 (.ofNat 0)), (.int .u8 (.ofNat 0)), (.int .u8 (.ofNat 0)), (.int .u8 (.ofNat 0)), (.int .u8 (.ofNat 0)), (.int .u8 (.ofNat 0)), (.int .u8 (.ofNat 0)), (.int .u8 (.ofNat 0)), (.int .u8 (.ofNat 0)), (.int .u8 (.ofNat 0)), (.int .u8 (.ofNat 0)), (.int .u8 (.ofNat 0)), (.int .u8 (.ofNat 0)), (.int .u8 (.ofNat 0)), (.int .u8 (.ofNat 0)), (.int .u8 (.ofNat 0)), (.int .u8 (.ofNat 0)), (.int .u8 (.ofNat 0)), (.int .u8 (.ofNat 0)), (.int .u8 (.ofNat 0)), (.int .u8 (.ofNat 0)), (.int .u8 (.ofNat 0)), (.int .u8 (.ofNat 0)), (.int .u8 (.ofNat 0)), (.int .u8 (.ofNat 0)), (.int .u8 (.ofNat 0)), (.int .u8 (.ofNat 0)), (.int .u8 (.ofNat 0)), (.int .u8 (.ofNat 0)), (.int .u8 (.ofNat 0)), (.int .u8 (.ofNat 0)), (.int .u8 (.ofNat 0)), (.int .u8 (.ofNat 0)), (.int .u8 (.ofNat 0)), (.int .u8 (.ofNat 0)), (.int .u8 (.ofNat 0)), (.int .u8 (.ofNat 0)), (.int .u8 (.ofNat 0)), (.int .u8 (.ofNat 0)), (.int .u8 (.ofNat 0)), (.int .u8 (.ofNat 0)), (.int .u8 (.ofNat 0)), (.int .u8 (.ofNat 0)), (.int .u8 (.ofNat 0)), (.int .u8 (.ofNat 0)), (.int .u8 (.ofNat 0)), (.int .u8 (.ofNat 0)), (.int .u8 (.ofNat 0)), (.int .u8 (.ofNat 0)), (.int .u8 (.ofNat 0)), (.int .u8 (.ofNat 0)), (.int .u8 (.ofNat 0)), (.int .u8 (.ofNat 0)), (.int .u8 (.ofNat 0)), (.int .u8 (.ofNat 0)), (.int .u8 (.ofNat 0)), (.int .u8 (.ofNat 0)), (.int .u8 (.ofNat 0)), (.int .u8 (.ofNat 0)), (.int .u8 (.ofNat 0)), (.int .u8 (.ofNat 0)), (.int .u8 (.ofNat 0)), (.int .u8 (.ofNat 0)), (.int .u8 (.ofNat 0)), (.int .u8 (.ofNat 0)), (.int .u8 (.ofNat 0)), (.int .u8 (.ofNat 0)), (.int .u8 (.ofNat 0)), (.int .u8 (.ofNat 0)), (.int .u8 (.ofNat 0)), (.int .u8 (.ofNat 0)), (.int .u8 (.ofNat 0)), (.int .u8 (.ofNat 0)), (.int .u8 (.ofNat 0)), (.int .u8 (.ofNat 0)), (.int .u8 (.ofNat 0)), (.int .u8 (.ofNat 0)), (.int .u8 (.ofNat 0)), (.int .u8 (.ofNat 0)), (.int .u8 (.ofNat 0)), (.int .u8 (.ofNat 0)), (.int .u8 (.ofNat 0)), (.int .u8 (.ofNat 0)), (.int .u8 (.ofNat 0)), (.int .u8 (.ofNat 0)), (.int .u8 (.ofNat 0)), (.int .u8 (.ofNat 0)), (.int .u8 (.ofNat 0)), (.int .u8 (.ofNat 0)), (.int .u8 (.ofNat 0)), (.int .u8 (.ofNat 0)), (.int .u8 (.ofNat 0)), (.int .u8 (.ofNat 0)), (.int .u8 (.ofNat 0)), (.int .u8 (.ofNat 0)), (.int .u8 (.ofNat 0)), (.int .u8 (.ofNat 0)), (.int .u8 (.ofNat 0)), (.int .u8 (.ofNat 0)), (.int .u8 (.ofNat 0)), (.int .u8 (.ofNat 0)), (.int .u8 (.ofNat 0)), (.int .u8 (.ofNat 0)), (.int .u8 (.ofNat 0)), (.int .u8 (.ofNat 0)), (.int .u8 (.ofNat 0)), (.int .u8 (.ofNat 0)), (.int .u8 (.ofNat 0)), (.int .u8 (.ofNat 0)), (.int .u8 (.ofNat 0)), (.int .u8 (.ofNat 0)), (.int .u8 (.ofNat 0)), (.int .u8 (.ofNat 0)), (.int .u8 (.ofNat 0)), (.int .u8 (.ofNat 0)), (.int .u8 (.ofNat 0)), (.int .u8 (.ofNat 0)), (.int .u8 (.ofNat 0)), (.int .u8 (.ofNat 0)), (.int .u8 (.ofNat 0)), (.int .u8 (.ofNat 0)), (.int .u8 (.ofNat 0)), (.int .u8 (.ofNat 0)), (.int .u8 (.ofNat 0)), (.int .u8 (.ofNat 0)), (.int .u8 (.ofNat 0)), (.int .u8 (.ofNat 0)), (.int .u8 (.ofNat 0)), (.int .u8 (.ofNat 0)), (.int .u8 (.ofNat 0)), (.int .u8 (.ofNat 0)), (.int .u8 (.ofNat 0)), (.int .u8 (.ofNat 0)), (.int .u8 (.ofNat 0)), (.int .u8 (.ofNat 0)), (.int .u8 (.ofNat 0)), (.int .u8 (.ofNat 0)), (.int .u8 (.ofNat 0)), (.int .u8 (.ofNat 0)), (.int .u8 (.ofNat 0)), (.int .u8 (.ofNat 0)), (.int .u8 (.ofNat 0)), (.int .u8 (.ofNat 0)), (.int .u8 (.ofNat 0)), (.int .u8 (.ofNat 0)), (.int .u8 (.ofNat 0)), (.int .u8 (.ofNat 0)), (.int .u8 (.ofNat 0)), (.int .u8 (.ofNat 0)), (.int .u8 (.ofNat 0)), (.int .u8 (.ofNat 0)), (.int .u8 (.ofNat 0)), (.int .u8 (.ofNat 0)), (.int .u8 (.ofNat 0)), (.int .u8 (.ofNat 0)), (.int .u8 (.ofNat 0)), (.int .u8 (.ofNat 0)), (.int .u8 (.ofNat 0)), (.int .u8 (.ofNat 0)), (.int .u8 (.ofNat 0)), (.int .u8 (.ofNat 0)), (.int .u8 (.ofNat 0)), (.int .u8 (.ofNat 0)), (.int .u8 (.ofNat 0)), (.int .u8 (.ofNat 0)), (.int .u8 (.ofNat 0)), (.int .u8 (.ofNat 0)), (.int .u8 (.ofNat 0)), (.int .u8 (.ofNat 0)), (.int .u8 (.ofNat 0)), (.int .u8 (.ofNat 0)), (.int .u8 (.ofNat 0)), (.int .u8 (.ofNat 0)), (.int .u8 (.ofNat 0)), (.int .u8 (.ofNat 0)), (.int .u8 (.ofNat 0)), (.int .u8 (.ofNat 0)), (.int .u8 (.ofNat 0)), (.int .u8 (.ofNat 0)), (.int .u8 (.ofNat 0)), (.int .u8 (.ofNat 0)), (.int .u8 (.ofNat 0)), (.int .u8 (.ofNat 0)), (.int .u8 (.ofNat 0)), (.int .u8 (.ofNat 0)), (.int .u8 (.ofNat 0)), (.int .u8 (.ofNat 0)), (.int .u8 (.ofNat 0)), (.int .u8 (.ofNat 0)), (.int .u8 (.ofNat 0)), (.int .u8 (.ofNat 0)), (.int .u8 (.ofNat 0)), (.int .u8 (.ofNat 0)), (.int .u8 (.ofNat 0)), (.int .u8 (.ofNat 0)), (.int .u8 (.ofNat 0)), (.int .u8 (.ofNat 0)), (.int .u8 (.ofNat 0)), (.int .u8 (.ofNat 0)), (.int .u8 (.ofNat 0)), (.int .u8 (.ofNat 0)), (.int .u8 (.ofNat 0)), (.int .u8 (.ofNat 0)), (.int .u8 (.ofNat 0)), (.int .u8 (.ofNat 0)), (.int .u8 (.ofNat 0)), (.int .u8 (.ofNat 0)), (.int .u8 (.ofNat 0)), (.int .u8 (.ofNat 0)), (.int .u8 (.ofNat 0)), (.int .u8 (.ofNat 0)), (.int .u8 (.ofNat 0)), (.int .u8 (.ofNat 0)), (.int .u8 (.ofNat 0)), (.int .u8 (.ofNat 0)), (.int .u8 (.ofNat 0)), (.int .u8 (.ofNat 0)), (.int .u8 (.ofNat 0)), (.int .u8 (.ofNat 0)), (.int .u8 (.ofNat 0)), (.int .u8 (.ofNat 0)), (.int .u8 (.ofNat 0)), (.int .u8 (.ofNat 0)), (.int .u8 (.ofNat 0)), (.int .u8 (.ofNat 0)), (.int .u8 (.ofNat 0)), (.int .u8 (.ofNat 0)), (.int .u8 (.ofNat 0)), (.int .u8 (.ofNat 0)), (.int .u8 (.ofNat 0)), (.int .u8 (.ofNat 0)), (.int .u8 (.ofNat 0)), (.int .u8 (.ofNat 0)), (.int .u8 (.ofNat 0)), (.int .u8 (.ofNat 0)), (.int .u8 (.ofNat 0)), (.int .u8 (.ofNat 0)), (.int .u8 (.ofNat 0)), (.int .u8 (.ofNat 0)), (.int .u8 (.ofNat 0)), (.int .u8 (.ofNat 0)), (.int .u8 (.ofNat 0)), (.int .u8 (.ofNat 0)), (.int .u8 (.ofNat 0)), (.int .u8 (.ofNat 0)), (.int .u8 (.ofNat 0)), (.int .u8 (.ofNat 0)), (.int .u8 (.ofNat 0)), (.int .u8 (.ofNat 0)), (.int .u8 (.ofNat 0)), (.int .u8 (.ofNat 0)), (.int .u8 (.ofNat 0)), (.int .u8 (.ofNat 0)), (.int .u8 (.ofNat 0)), (.int .u8 (.ofNat 0)), (.int .u8 (.ofNat 0)), (.int .u8 (.ofNat 0)), (.int .u8 (.ofNat 0)), (.int .u8 (.ofNat 0)), (.int .u8 (.ofNat 0)), (.int .u8 (.ofNat 0)), (.int .u8 (.ofNat 0)), (.int .u8 (.ofNat 0)), (.int .u8 (.ofNat 0)), (.int .u8 (.ofNat 0)), (.int .u8 (.ofNat 0)), (.int .u8 (.ofNat 0)), (.int .u8 (.ofNat 0)), (.int .u8 (.ofNat 0)), (.int .u8 (.ofNat 0)), (.int .u8 (.ofNat 0)), (.int .u8 (.ofNat 0)), (.int .u8 (.ofNat 0)), (.int .u8 (.ofNat 0)), (.int .u8 (.ofNat 0)), (.int .u8 (.ofNat 0)), (.int .u8 (.ofNat 0)), (.int .u8 (.ofNat 0)), (.int .u8 (.ofNat 0)), (.int .u8 (.ofNat 0)), (.int .u8 (.ofNat 0)), (.int .u8 (.ofNat 0)), (.int .u8 (.ofNat 0)), (.int .u8 (.ofNat 0)), (.int .u8 (.ofNat 0)), (.int .u8 (.ofNat 0)), (.int .u8 (.ofNat 0)), (.int .u8 (.ofNat 0)), (.int .u8 (.ofNat 0)), (.int .u8 (.ofNat 0)), (.int .u8 (.ofNat 0)), (.int .u8 (.ofNat 0)), (.int .u8 (.ofNat 0)), (.int .u8 (.ofNat 0)), (.int .u8 (.ofNat 0)), (.int .u8 (.ofNat 0)), (.int .u8 (.ofNat 0)), (.int .u8 (.ofNat 0)), (.int .u8 (.ofNat 0)), (.int .u8 (.ofNat 0)), (.int .u8 (.ofNat 0)), (.int .u8 (.ofNat 0)), (.int .u8 (.ofNat 0)), (.int .u8 (.ofNat 0)), (.int .u8 (.ofNat 0)), (.int .u8 (.ofNat 0)), (.int .u8 (.ofNat 0)), (.int .u8 (.ofNat 0)), (.int .u8 (.ofNat 0)), (.int .u8 (.ofNat 0)), (.int .u8 (.ofNat 0)), (.int .u8 (.ofNat 0)), (.int .u8 (.ofNat 0)), (.int .u8 (.ofNat 0)), (.int .u8 (.ofNat 0)), (.int .u8 (.ofNat 0)), (.int .u8 (.ofNat 0)), (.int .u8 (.ofNat 0)), (.int .u8 (.ofNat 0)), (.int .u8 (.ofNat 0)), (.int .u8 (.ofNat 0)), (.int .u8 (.ofNat 0)), (.int .u8 (.ofNat 0)), (.int .u8 (.ofNat 0)), (.int .u8 (.ofNat 0)), (.int .u8 (.ofNat 0)), (.int .u8 (.ofNat 0)), (.int .u8 (.ofNat 0)), (.int .u8 (.ofNat 0)), (.int .u8 (.ofNat 0)), (.int .u8 (.ofNat 0)), (.int .u8 (.ofNat 0)), (.int .u8 (.ofNat 0)), (.int .u8 (.ofNat 0)), (.int .u8 (.ofNat 0)), (.int .u8 (.ofNat 0)), (.int .u8 (.ofNat 0)), (.int .u8 (.ofNat 0)), (.int .u8 (.ofNat 0)), (.int .u8 (.ofNat 0)), (.int .u8 (.ofNat 0)), (.int .u8 (.ofNat 0)), (.int .u8 (.ofNat 0)), (.int .u8 (.ofNat 0)), (.int .u8 (.ofNat 0)), (.int .u8 (.ofNat 0)), (.int .u8 (.ofNat 0)), (.int .u8 (.ofNat 0)), (.int .u8 (.ofNat 0)), (.int .u8 (.ofNat 0)), (.int .u8 (.ofNat 0)), (.int .u8 (.ofNat 0)), (.int .u8 (.ofNat 0)), (.int .u8 (.ofNat 0)), (.int .u8 (.ofNat 0)), (.int .u8 (.ofNat 0)), (.int .u8 (.ofNat 0)), (.int .u8 (.ofNat 0)), (.int .u8 (.ofNat 0)), (.int .u8 (.ofNat 0)), (.int .u8 (.ofNat 0)), (.int .u8 (.ofNat 0)), (.int .u8 (.ofNat 0)), (.int .u8 (.ofNat 0)), (.int .u8 (.ofNat 0)), (.int .u8 (.ofNat 0)), (.int .u8 (.ofNat 0)), (.int .u8 (.ofNat 0)), (.int .u8 (.ofNat 0)), (.int .u8 (.ofNat 0)), (.int .u8 (.ofNat 0)), (.int .u8 (.ofNat 0)), (.int .u8 (.ofNat 0)), (.int .u8 (.ofNat 0)), (.int .u8 (.ofNat 0)), (.int .u8 (.ofNat 0)), (.int .u8 (.ofNat 0)), (.int .u8 (.ofNat 0)), (.int .u8 (.ofNat 0)), (.int .u8 (.ofNat 0)), (.int .u8 (.ofNat 0)), (.int .u8 (.ofNat 0)), (.int .u8 (.ofNat 0)), (.int .u8 (.ofNat 0)), (.int .u8 (.ofNat 0)), (.int .u8 (.ofNat 0)), (.int .u8 (.ofNat 0)), (.int .u8 (.ofNat 0)), (.int .u8 (.ofNat 0)), (.int .u8 (.ofNat 0)), (.int .u8 (.ofNat 0)), (.int .u8 (.ofNat 0)), (.int .u8 (.ofNat 0)), (.int .u8 (.ofNat 0)), (.int .u8 (.ofNat 0)), (.int .u8 (.ofNat 0)), (.int .u8 (.ofNat 0)), (.int .u8 (.ofNat 0)), (.int .u8 (.ofNat 0)), (.int .u8 (.ofNat 0)), (.int .u8 (.ofNat 0)), (.int .u8 (.ofNat 0)), (.int .u8 (.ofNat 0)), (.int .u8 (.ofNat 0)), (.int .u8 (.ofNat 0)), (.int .u8 (.ofNat 0)), (.int .u8 (.ofNat 0)), (.int .u8 (.ofNat 0)), (.int .u8 (.ofNat 0)), (.int .u8 (.ofNat 0)), (.int .u8 (.ofNat 0)), (.int .u8 (.ofNat 0)), (.int .u8 (.ofNat 0)), (.int .u8 (.ofNat 0)), (.int .u8 (.ofNat 0)), (.int .u8 (.ofNat 0)), (.int .u8 (.ofNat 0)), (.int .u8 (.ofNat 0)), (.int .u8 (.ofNat 0)), (.int .u8 (.ofNat 0)), (.int .u8 (.ofNat 0)), (.int .u8 (.ofNat 0)), (.int .u8 (.ofNat 0)), (.int .u8 (.ofNat 0)), (.int .u8 (.ofNat 0)), (.int .u8 (.ofNat 0)), (.int .u8 (.ofNat 0)), (.int .u8 (.ofNat 0)), (.int .u8 (.ofNat 0)), (.int .u8 (.ofNat 0)), (.int .u8 (.ofNat 0)), (.int .u8 (.ofNat 0)), (.int .u8 (.ofNat 0)), (.int .u8 (.ofNat 0)), (.int .u8 (.ofNat 0)), (.int .u8 (.ofNat 0)), (.int .u8 (.ofNat 0)), (.int .u8 (.ofNat 0)), (.int .u8 (.ofNat 0)), (.int .u8 (.ofNat 0)), (.int .u8 (.ofNat 0)), (.int .u8 (.ofNat 0)), (.int .u8 (.ofNat 0)), (.int .u8 (.ofNat 0)), (.int .u8 (.ofNat 0)), (.int .u8 (.ofNat 0)), (.int .u8 (.ofNat 0)), (.int .u8 (.ofNat 0)), (.int .u8 (.ofNat 0)), (.int .u8 (.ofNat 0)), (.int .u8 (.ofNat 0)), (.int .u8 (.ofNat 0)), (.int .u8 (.ofNat 0)), (.int .u8 (.ofNat 0)), (.int .u8 (.ofNat 0)), (.int .u8 (.ofNat 0)), (.int .u8 (.ofNat 0)), (.int .u8 (.ofNat 0)), (.int .u8 (.ofNat 0)), (.int .u8 (.ofNat 0)), (.int .u8 (.ofNat 0)), (.int .u8 (.ofNat 0)), (.int .u8 (.ofNat 0)), (.int .u8 (.ofNat 0)), (.int .u8 (.ofNat 0)), (.int .u8 (.ofNat 0)), (.int .u8 (.ofNat 0)), (.int .u8 (.ofNat 0)), (.int .u8 (.ofNat 0)), (.int .u8 (.ofNat 0)), (.int .u8 (.ofNat 0)), (.int .u8 (.ofNat 0)), (.int .u8 (.ofNat 0)), (.int .u8 (.ofNat 0)), (.int .u8 (.ofNat 0)), (.int .u8 (.ofNat 0)), (.int .u8 (.ofNat 0)), (.int .u8 (.ofNat 0)), (.int .u8 (.ofNat 0)), (.int .u8 (.ofNat 0)), (.int .u8 (.ofNat 0)), (.int .u8 (.ofNat 0)), (.int .u8 (.ofNat 0)), (.int .u8 (.ofNat 0)), (.int .u8 (.ofNat 0)), (.int .u8 (.ofNat 0)), (.int .u8 (.ofNat 0)), (.int .u8 (.ofNat 0)), (.int .u8 (.ofNat 0)), (kI 0), (kI 0), (.bool false), (.bool false)])
 slC (vS t0) none (some (vI t3)) fun vt127 => asS vt127 fun t127 =>
 cal D 205 [t23, (vS t127)] h7 fun t128 h8 =>
 asB t128 fun t128a =>
 let t129 := !t128a
 br t129 (
 let t131 := (AV.iface 170 (vI (Int.ofNat 2)))
 some (.ret (.tup [((.flt .f64 0) : AV), (vI t3), t131]) h8, .no)) (
 cal D 206 [t23, ((.ptr p9 0) : AV)] h8 fun t133 h9 =>
 extC t133 0 fun vt134 => asI .u64 vt134 fun t134 =>
 extC t133 1 fun vt135 => asB vt135 fun t135 =>
 obQ (evP (.xt .ffrom [(.c (AV.int .u64 t134))]) .leaf) fun t137 =>
 br t135 (
 let t139 := (AV.iface 170 (vI (Int.ofNat 1)))
 S181_1 D m t137 t3 t139 h9) (
 S181_1 D m t137 t3 t4 h9))
def e181_2 (k t0 t3 t4 t8 t9 t11 t16 h) := kN k [(p0, (vS t0)), (p3, (vI t3)), (p4, t4), (p8, (AV.int .u64 t8)), (p9, (vI t9)), (p11, (vB t11)), (p16, (AV.int .u64 t16))] h
def S181_2 (D : CallD) (m : Nat) (t0 : LN) (t3 : Int) (t4 : AV) (t8 t9 : Int) (t11 : Bool) (t16 : Int) (h : HP) : Res2 :=
 cal D 210 [(AV.int .u64 t8), (vI t9), (AV.int .u64 t16)] h fun t103 h11 =>
 extC t103 0 fun t104 =>
 extC t103 1 fun t105 =>
 let t107 := !t11
 br t107 (
 some (.ret (.tup [t104, (vI t3), t105]) h11, .no)) (
 let t113 := wrQ .u64 (addQ t8 (Int.ofNat 1))
 cal D 210 [(AV.int .u64 t113), (vI t9), (AV.int .u64 t16)] h11 fun t116 h12 =>
 extC t116 0 fun t117 =>
 extC t116 1 fun t118 =>
 binC .eql t104 t117 fun vt121 => asB vt121 fun t121 =>
 br t121 (
 some (.ret (.tup [t104, (vI t3), t105]) h12, .no)) (
 S181_0 D m t0 t3 t4 h12))
def e181_3 (k t0 h) := kN k [(p0, (vS t0))] h
def S181_3 (D : CallD) (m : Nat) (t0 : LN) (h : HP) : Res2 :=
 cal D 198 [(vS t0)] h fun t28 h4 =>
 extC t28 0 fun t29 =>
 extC t28 1 fun vt30 => asI .i64 vt30 fun t30 =>
 extC t28 2 fun vt31 => asB vt31 fun t31 =>
 br t31 (
 some (.ret (.tup [t29, (vI t30), (.nili : AV)]) h4, .no)) (
 cal D 199 [(vS t0)] h4 fun t37 h5 =>
 extC t37 0 fun vt38 => asI .u64 vt38 fun t38 =>
 extC t37 1 fun vt39 => asI .i64 vt39 fun t39 =>
 extC t37 2 fun vt40 => asB vt40 fun t40 =>
 extC t37 3 fun vt41 => asB vt41 fun t41 =>
 extC t37 4 fun vt42 => asB vt42 fun t42 =>
 extC t37 5 fun vt43 => asI .i64 vt43 fun t43 =>
 extC t37 6 fun vt44 => asB vt44 fun t44 =>
 let t46 := !t44
 br t46 (
 let t48 := (AV.iface 170 (vI (Int.ofNat 2)))
 some (.ret (.tup [((.flt .f64 0) : AV), (vI t43), t48]) h5, .no)) (
 br t42 (
 slC (vS t0) none (some (vI t43)) fun vt53 => asS vt53 fun t53 =>
 cal D 200 [(vS t53), ((.ptr p9 0) : AV), (AV.int .u64 t38), (vI t39), (vB t40), (vB t41)] h5 fun t58 h6 =>
 extC t58 0 fun t59 =>
 extC t58 1 fun t60 =>
 some (.ret (.tup [t59, (vI t43), t60]) h6, .no)) (
 ldB ((.ptr p5 0) : AV) h5 fun t64 =>
 br t64 (
 cal D 207 [(vB t40)] h5 fun t66 h10 =>
 asI .u64 t66 fun t66a =>
 let t67 := shlF .u64 t66a 63
 let t69 := eqQ t38 (Int.ofNat 0)
 br t69 (
 obI .u64 (intBin .or .u64 t67 (Int.ofNat 0)) fun t71 =>
 obQ (evP (.xt .ffrom [(.c (AV.int .u64 t71))]) .leaf) fun t72 =>
 some (.ret (.tup [t72, (vI t43), (.nili : AV)]) h10, .no)) (
 let t75 := ltQ (Int.ofNat 310) t39
 br t75 (
 obI .u64 (intBin .or .u64 t67 (Int.ofNat 9218868437227405312)) fun t77 =>
 obQ (evP (.xt .ffrom [(.c (AV.int .u64 t77))]) .leaf) fun t78 =>
 let t80 := (AV.iface 170 (vI (Int.ofNat 1)))
 some (.ret (.tup [t78, (vI t43), t80]) h10, .no)) (
 let t82 := ltQ t39 (Int.negSucc 344)
 br t82 (
 obI .u64 (intBin .or .u64 t67 (Int.ofNat 0)) fun t84 =>
 obQ (evP (.xt .ffrom [(.c (AV.int .u64 t84))]) .leaf) fun t85 =>
 some (.ret (.tup [t85, (vI t43), (.nili : AV)]) h10, .no)) (
 let t88 := !t41
 br t88 (
 cal D 209 [(AV.int .u64 t38), (vI t39), (vB t40)] h10 fun t93 h13 =>
 extC t93 0 fun t94 =>
 extC t93 1 fun vt95 => asB vt95 fun t95 =>
 br t95 (
 some (.ret (.tup [t94, (vI t43), (.nili : AV)]) h13, .no)) (
 S181_2 D m t0 t43 (.nili : AV) t38 t39 t41 t67 h13)) (
 S181_2 D m t0 t43 (.nili : AV) t38 t39 t41 t67 h10))))) (
 S181_0 D m t0 t43 (.nili : AV) h5))))
def S181 : SFn := fun D m args h u => nou u <| popS args fun t0 args => endA args (S181_3 D m t0 h)
theorem T181_1 (hE : FX x181 D m E) : S181_1 D m = e181_1 (E c181_1 []) := by unfold S181_1; rw [hE c181_1]; kernel_rfl
theorem T181_0 (hE : FX x181 D m E) : S181_0 D m = e181_0 (E c181_0 []) := by unfold S181_0; rw [T181_1 hE, hE c181_0]; kernel_rfl
theorem T181_2 (hE : FX x181 D m E) : S181_2 D m = e181_2 (E c181_2 [.sj v181_0 c181_0]) := by unfold S181_2; rw [T181_0 hE, hE c181_2]; kernel_rfl
theorem T181_3 (hE : FX x181 D m E) : S181_3 D m = e181_3 (E c181_e []) := by unfold S181_3; rw [T181_2 hE, T181_0 hE, hE c181_e]; kernel_rfl
theorem X181 : XTie S181 x181 := X_of fun D m E hE args h u => by unfold S181; rw [T181_3 hE]; kernel_rfl
/- 198 -/
def v198_0 : List Pos := []
def c198_0 : XC := (.sO [.mv p2 (.c (.flt .f64 0)) .v, .mv p3 (ci 0) tI, .mv p4 (cb false) .b] (.s .ret))
def v198_1 : List Pos := [p0]
def c198_1 : XC := (.seq (.seq (.oX [.mv p46 q0 .s, .cl p47 230 [q46, (.c (.str [110, 97, 110]))] tI, .bn p48 .eql q47 (ci 3) .b]) (.cond q48 (.seq (.oX [.cl p49 232 [] .v, .mv p2 q49 .v, .mv p3 (ci 3) tI, .mv p4 (cb true) .b]) .ret) .skip)) (.s (.exit 0)))
def v198_3 : List Pos := []
def c198_3 : XC := (.s (.exit 0))
def v198_4 : List Pos := [p5, p6, p7]
def c198_4 : XC := (.sO [.mv p35 q7 tI, .bn p36 .eql q35 (ci 3) .b, .mv p37 q36 .b, .ge p37 (XL.of [.G p37 false p38 (.mov q7) tI, .G p37 false p39 (.bin .eql q38 (ci 8)) .b, .P p40 (.pick q37 (cb true) q39) .b]) p40 .b] (.cond q40 (.sO [.mv p41 q5 tI, .cl p42 231 [q41] .v, .mv p43 q6 tI, .mv p44 q7 tI, .bn p45 .add q43 q44 tI, .mv p2 q42 .v, .mv p3 q45 tI, .mv p4 (cb true) .b] (.s .ret)) (.s .skip)))
def v198_2 : List Pos := [p0, p5, p6]
def c198_2 : XC := (.sj v198_3 (.sO [.mv p27 q0 .s, .cl p28 230 [q27, (.c (.str [105, 110, 102, 105, 110, 105, 116, 121]))] tI, .mv p7 q28 tI] (.sj v198_4 (.sO [.mv p29 q7 tI, .bn p30 .lss (ci 3) q29 .b, .mv p31 q30 .b, .ge p31 (XL.of [.G p31 true p32 (.mov q7) tI, .G p31 true p33 (.bin .lss q32 (ci 8)) .b, .P p34 (.pick q31 q33 (cb false)) .b]) p34 .b] (.cond q34 (.s (.oX [.mv p7 (ci 3) tI])) (.s .skip))) c198_4)) c198_3)
def v198_6 : List Pos := [p0, p5]
def c198_6 : XC := (.sO [.mv p6 (ci 1) tI] (.s (.oX [.mv p25 q0 .s, .P p26 (.slice .str q25 (some (ci 1)) none none) .s, .mv p0 q26 .s])))
def v198_5 : List Pos := [p0, p5]
def c198_5 : XC := (.sj v198_6 (.sO [.mv p22 q0 .s, .P p23 (.idxs q22 (ci 0)) tC, .bn p24 .eql q23 (.c (.int .u8 (.ofNat 45))) .b] (.cond q24 (.s (.oX [.mv p5 (.c (.int .i64 (.negSucc 0))) tI])) (.s .skip))) c198_6)
def v198_7 : List Pos := []
def c198_7 : XC := (.s (.exit 0))
def v198_10 : List Pos := [p0, p19]
def c198_10 : XC := (.cond q19 (.s (.exit 3)) (.s .skip))
def v198_9 : List Pos := [p0, p12]
def c198_9 : XC := (.sj v198_10 (.sO [.bn p20 .eql q12 (.c (.int .u8 (.ofNat 110))) .b, .mv p19 q20 .b] (.cond q19 (.s .skip) (.s (.oX [.bn p21 .eql q12 (.c (.int .u8 (.ofNat 78))) .b, .mv p19 q21 .b])))) c198_10)
def v198_11 : List Pos := [p0, p5, p6, p12, p16]
def c198_11 : XC := (.cond q16 (.s (.exit 2)) (.s .skip))
def v198_8 : List Pos := [p0, p5, p6, p12]
def c198_8 : XC := (.sj v198_9 (.sj v198_11 (.sO [.bn p17 .eql q12 (.c (.int .u8 (.ofNat 105))) .b, .mv p16 q17 .b] (.cond q16 (.s .skip) (.s (.oX [.bn p18 .eql q12 (.c (.int .u8 (.ofNat 73))) .b, .mv p16 q18 .b])))) c198_11) c198_9)
def v198_12 : List Pos := [p0, p5, p6, p12, p13]
def c198_12 : XC := (.cond q13 (.s (.exit 1)) (.s .skip))
def c198_e : XC := (.sO [.mv p2 (.c (.flt .f64 0)) .v, .mv p3 (ci 0) tI, .mv p4 (cb false) .b] (.seq (.seq (.oX [.mv p8 q0 .s, .P p9 (.lens q8) tI, .bn p10 .eql q9 (ci 0) .b]) (.cond q10 (.seq (.oX [.mv p2 (.c (.flt .f64 0)) .v, .mv p3 (ci 0) tI, .mv p4 (cb false) .b]) .ret) .skip)) (.sO [.mv p5 (ci 1) tI] (.sO [.mv p6 (ci 0) tI] (.sj v198_0 (.sO [.mv p11 q0 .s, .P p12 (.idxs q11 (ci 0)) tC] (.block 0 (.sj v198_1 (.block 3 (.sj v198_2 (.block 2 (.sj v198_5 (.block 1 (.sj v198_7 (.sj v198_8 (.sj v198_12 (.sO [.bn p14 .eql q12 (.c (.int .u8 (.ofNat 43))) .b, .mv p13 q14 .b] (.cond q13 (.s .skip) (.s (.oX [.bn p15 .eql q12 (.c (.int .u8 (.ofNat 45))) .b, .mv p13 q15 .b])))) c198_12) c198_8) c198_7)) c198_5)) c198_2)) c198_1))) c198_0)))))
def x198 : XFn := ⟨[.s], false, [(.tmp p2), (.tmp p3), (.tmp p4)], c198_e⟩
def e198_0 (k h) := kN k [] h
def S198_0 (D : CallD) (m : Nat) (h : HP) : Res2 :=
 some (.ret (.tup [((.flt .f64 0) : AV), (vI (Int.ofNat 0)), (vB false)]) h, .no)
def e198_1 (k t0 h) := kN k [(p0, (vS t0))] h
def S198_1 (D : CallD) (m : Nat) (t0 : LN) (h : HP) : Res2 :=
 cal D 230 [(vS t0), (vS ([110, 97, 110] : LN))] h fun t47 h14 =>
 asI .i64 t47 fun t47a =>
 let t48 := eqQ t47a (Int.ofNat 3)
 br t48 (
 cal D 232 [] h14 fun t49 h15 =>
 some (.ret (.tup [t49, (vI (Int.ofNat 3)), (vB true)]) h15, .no)) (
 S198_0 D m h14)
def e198_3 (k h) := kN k [] h
def S198_3 (D : CallD) (m : Nat) (h : HP) : Res2 :=
 S198_0 D m h
def e198_4 (k t5 t6 t7 h) := kN k [(p5, (vI t5)), (p6, (vI t6)), (p7, (vI t7))] h
def S198_4 (D : CallD) (m : Nat) (t5 t6 t7 : Int) (h : HP) : Res2 :=
 let t36 := eqQ t7 (Int.ofNat 3)
 obB (brV t36 (
 some (vB true)) (
 let t39 := eqQ t7 (Int.ofNat 8)
 some (vB t39))) fun t40 =>
 br t40 (
 cal D 231 [(vI t5)] h fun t42 h17 =>
 let t45 := wrQ .i64 (addQ t6 t7)
 some (.ret (.tup [t42, (vI t45), (vB true)]) h17, .no)) (
 S198_3 D m h)
def e198_2 (k t0 t5 t6 h) := kN k [(p0, (vS t0)), (p5, (vI t5)), (p6, (vI t6))] h
def S198_2 (D : CallD) (m : Nat) (t0 : LN) (t5 t6 : Int) (h : HP) : Res2 :=
 cal D 230 [(vS t0), (vS ([105, 110, 102, 105, 110, 105, 116, 121] : LN))] h fun t28 h16 =>
 asI .i64 t28 fun t28a =>
 let t30 := ltQ (Int.ofNat 3) t28a
 obB (brV t30 (
 let t33 := ltQ t28a (Int.ofNat 8)
 some (vB t33)) (
 some (vB false))) fun t34 =>
 br t34 (
 S198_4 D m t5 t6 (Int.ofNat 3) h16) (
 S198_4 D m t5 t6 t28a h16)
def e198_6 (k t0 t5 h) := kN k [(p0, (vS t0)), (p5, (vI t5))] h
def S198_6 (D : CallD) (m : Nat) (t0 : LN) (t5 : Int) (h : HP) : Res2 :=
 slC (vS t0) (some (vI (Int.ofNat 1))) none fun vt26 => asS vt26 fun t26 =>
 S198_2 D m t26 t5 (Int.ofNat 1) h
def e198_5 (k t0 t5 h) := kN k [(p0, (vS t0)), (p5, (vI t5))] h
def S198_5 (D : CallD) (m : Nat) (t0 : LN) (t5 : Int) (h : HP) : Res2 :=
 ixC (vS t0) (vI (Int.ofNat 0)) fun vt23 => asI .u8 vt23 fun t23 =>
 let t24 := eqQ t23 (Int.ofNat 45)
 br t24 (
 S198_6 D m t0 (Int.negSucc 0) h) (
 S198_6 D m t0 t5 h)
def e198_7 (k h) := kN k [] h
def S198_7 (D : CallD) (m : Nat) (h : HP) : Res2 :=
 S198_0 D m h
def e198_10 (k t0 t19 h) := kN k [(p0, (vS t0)), (p19, (vB t19))] h
def S198_10 (D : CallD) (m : Nat) (t0 : LN) (t19 : Bool) (h : HP) : Res2 :=
 br t19 (
 S198_1 D m t0 h) (
 S198_7 D m h)
def e198_9 (k t0 t12 h) := kN k [(p0, (vS t0)), (p12, (vC t12))] h
def S198_9 (D : CallD) (m : Nat) (t0 : LN) (t12 : Int) (h : HP) : Res2 :=
 let t20 := eqQ t12 (Int.ofNat 110)
 br t20 (
 S198_10 D m t0 t20 h) (
 let t21 := eqQ t12 (Int.ofNat 78)
 S198_10 D m t0 t21 h)
def e198_11 (k t0 t5 t6 t12 t16 h) := kN k [(p0, (vS t0)), (p5, (vI t5)), (p6, (vI t6)), (p12, (vC t12)), (p16, (vB t16))] h
def S198_11 (D : CallD) (m : Nat) (t0 : LN) (t5 t6 t12 : Int) (t16 : Bool) (h : HP) : Res2 :=
 br t16 (
 S198_2 D m t0 t5 t6 h) (
 S198_9 D m t0 t12 h)
def e198_8 (k t0 t5 t6 t12 h) := kN k [(p0, (vS t0)), (p5, (vI t5)), (p6, (vI t6)), (p12, (vC t12))] h
def S198_8 (D : CallD) (m : Nat) (t0 : LN) (t5 t6 t12 : Int) (h : HP) : Res2 :=
 let t17 := eqQ t12 (Int.ofNat 105)
 br t17 (
 S198_11 D m t0 t5 t6 t12 t17 h) (
 let t18 := eqQ t12 (Int.ofNat 73)
 S198_11 D m t0 t5 t6 t12 t18 h)
def e198_12 (k t0 t5 t6 t12 t13 h) := kN k [(p0, (vS t0)), (p5, (vI t5)), (p6, (vI t6)), (p12, (vC t12)), (p13, (vB t13))] h
def S198_12 (D : CallD) (m : Nat) (t0 : LN) (t5 t6 t12 : Int) (t13 : Bool) (h : HP) : Res2 :=
 br t13 (
 S198_5 D m t0 t5 h) (
 S198_8 D m t0 t5 t6 t12 h)
def e198_13 (k t0 h) := kN k [(p0, (vS t0))] h
def S198_13 (D : CallD) (m : Nat) (t0 : LN) (h : HP) : Res2 :=
 let t9 := Int.ofNat (lenL t0)
 let t10 := eqQ t9 (Int.ofNat 0)
 br t10 (
 some (.ret (.tup [((.flt .f64 0) : AV), (vI (Int.ofNat 0)), (vB false)]) h, .no)) (
 ixC (vS t0) (vI (Int.ofNat 0)) fun vt12 => asI .u8 vt12 fun t12 =>
 let t14 := eqQ t12 (Int.ofNat 43)
 br t14 (
 S198_12 D m t0 (Int.ofNat 1) (Int.ofNat 0) t12 t14 h) (
 let t15 := eqQ t12 (Int.ofNat 45)
 S198_12 D m t0 (Int.ofNat 1) (Int.ofNat 0) t12 t15 h))
def S198 : SFn := fun D m args h u => nou u <| popS args fun t0 args => endA args (S198_13 D m t0 h)
theorem T198_0 (hE : FX x198 D m E) : S198_0 D m = e198_0 (E c198_0 []) := by unfold S198_0; rw [hE c198_0]; kernel_rfl
theorem T198_1 (hE : FX x198 D m E) : S198_1 D m = e198_1 (E c198_1 [.blk 0, .sj v198_0 c198_0]) := by unfold S198_1; rw [T198_0 hE, hE c198_1]; kernel_rfl
theorem T198_3 (hE : FX x198 D m E) : S198_3 D m = e198_3 (E c198_3 [.blk 3, .sj v198_1 c198_1, .blk 0, .sj v198_0 c198_0]) := by unfold S198_3; rw [T198_0 hE, hE c198_3]; kernel_rfl
theorem T198_4 (hE : FX x198 D m E) : S198_4 D m = e198_4 (E c198_4 [.sj v198_3 c198_3, .blk 3, .sj v198_1 c198_1, .blk 0, .sj v198_0 c198_0]) := by unfold S198_4; rw [T198_3 hE, hE c198_4]; kernel_rfl
theorem T198_2 (hE : FX x198 D m E) : S198_2 D m = e198_2 (E c198_2 [.blk 3, .sj v198_1 c198_1, .blk 0, .sj v198_0 c198_0]) := by unfold S198_2; rw [T198_4 hE, hE c198_2]; kernel_rfl
theorem T198_6 (hE : FX x198 D m E) : S198_6 D m = e198_6 (E c198_6 [.blk 2, .sj v198_2 c198_2, .blk 3, .sj v198_1 c198_1, .blk 0, .sj v198_0 c198_0]) := by unfold S198_6; rw [T198_2 hE, hE c198_6]; kernel_rfl
theorem T198_5 (hE : FX x198 D m E) : S198_5 D m = e198_5 (E c198_5 [.blk 2, .sj v198_2 c198_2, .blk 3, .sj v198_1 c198_1, .blk 0, .sj v198_0 c198_0]) := by unfold S198_5; rw [T198_6 hE, hE c198_5]; kernel_rfl
theorem T198_7 (hE : FX x198 D m E) : S198_7 D m = e198_7 (E c198_7 [.blk 1, .sj v198_5 c198_5, .blk 2, .sj v198_2 c198_2, .blk 3, .sj v198_1 c198_1, .blk 0, .sj v198_0 c198_0]) := by unfold S198_7; rw [T198_0 hE, hE c198_7]; kernel_rfl
theorem T198_10 (hE : FX x198 D m E) : S198_10 D m = e198_10 (E c198_10 [.sj v198_7 c198_7, .blk 1, .sj v198_5 c198_5, .blk 2, .sj v198_2 c198_2, .blk 3, .sj v198_1 c198_1, .blk 0, .sj v198_0 c198_0]) := by unfold S198_10; rw [T198_1 hE, T198_7 hE, hE c198_10]; kernel_rfl
theorem T198_9 (hE : FX x198 D m E) : S198_9 D m = e198_9 (E c198_9 [.sj v198_7 c198_7, .blk 1, .sj v198_5 c198_5, .blk 2, .sj v198_2 c198_2, .blk 3, .sj v198_1 c198_1, .blk 0, .sj v198_0 c198_0]) := by unfold S198_9; rw [T198_10 hE, hE c198_9]; kernel_rfl
theorem T198_11 (hE : FX x198 D m E) : S198_11 D m = e198_11 (E c198_11 [.sj v198_9 c198_9, .sj v198_7 c198_7, .blk 1, .sj v198_5 c198_5, .blk 2, .sj v198_2 c198_2, .blk 3, .sj v198_1 c198_1, .blk 0, .sj v198_0 c198_0]) := by unfold S198_11; rw [T198_2 hE, T198_9 hE, hE c198_11]; kernel_rfl
theorem T198_8 (hE : FX x198 D m E) : S198_8 D m = e198_8 (E c198_8 [.sj v198_7 c198_7, .blk 1, .sj v198_5 c198_5, .blk 2, .sj v198_2 c198_2, .blk 3, .sj v198_1 c198_1, .blk 0, .sj v198_0 c198_0]) := by unfold S198_8; rw [T198_11 hE, hE c198_8]; kernel_rfl
theorem T198_12 (hE : FX x198 D m E) : S198_12 D m = e198_12 (E c198_12 [.sj v198_8 c198_8, .sj v198_7 c198_7, .blk 1, .sj v198_5 c198_5, .blk 2, .sj v198_2 c198_2, .blk 3, .sj v198_1 c198_1, .blk 0, .sj v198_0 c198_0]) := by unfold S198_12; rw [T198_5 hE, T198_8 hE, hE c198_12]; kernel_rfl
theorem T198_13 (hE : FX x198 D m E) : S198_13 D m = e198_13 (E c198_e []) := by unfold S198_13; rw [T198_12 hE, hE c198_e]; kernel_rfl
theorem X198 : XTie S198 x198 := X_of fun D m E hE args h u => by unfold S198; rw [T198_13 hE]; kernel_rfl
end
end Go.Proofs.YtnpadfengpoehaaGreatDoor.Sx
