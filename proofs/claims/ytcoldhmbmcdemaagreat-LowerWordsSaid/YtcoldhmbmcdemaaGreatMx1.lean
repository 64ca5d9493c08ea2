/- Functions, printed by a program of ours: their code, what they do, and that it is so. -/
import Derived.Test.YtcoldhmbmcdemaaGreatMp
set_option maxRecDepth 8000
set_option linter.unusedVariables false
namespace Go.Proofs.YtcoldhmbmcdemaaGreat.Sx
open Go Go.Proofs.YtcoldhmbmcdemaaGreat.Ev
noncomputable section
variable {D : CallD} {m : Nat} {E : XE}
/- 59 -/
def c59_e : XC := (.sO [.al p2 (.box q0), .al p3 (.box q1)] (.sO [.fa p4 0 q2, .ld p5 q4 tI] (.block 0 (.sO [.bn p7 .eql q5 (ci 1) .b, .mv p6 q7 .b] (.cond q6 (.s (.oX [.fa p8 0 q3, .ld p9 q8 .v, .fa p10 1 q2, .ld p11 q10 tI, .fa p12 4 q2, .ld p13 q12 tW, .P p14 (.iaddr (.sl 1) q9 q11) .v, .st q14 q13])) (.sO [.bn p16 .eql q5 (ci 2) .b, .mv p15 q16 .b] (.cond q15 (.s (.ops true (XL.of [.fa p17 1 q3, .ld p18 q17 .v, .fa p19 1 q2, .ld p20 q19 tI, .fa p21 5 q2, .ld p22 q21 (.i .u64), .o ⟨(some p23), (.call (.fn 100) [q22]), none, [⟨none, .cell q17, p18⟩, ⟨none, .cell q19, p20⟩]⟩ (.i .u64), .P p24 (.iaddr (.sl 1) q18 q20) .v, .st q24 q23]))) (.sO [.bn p26 .eql q5 (ci 3) .b, .mv p25 q26 .b] (.cond q25 (.seq (.ops true (XL.of [.fa p27 0 q3, .ld p28 q27 .v, .fa p29 1 q2, .ld p30 q29 tI, .fa p31 0 q3, .ld p32 q31 .v, .fa p33 2 q2, .ld p34 q33 tI, .P p35 (.iaddr (.sl 1) q32 q34) .v, .ld p36 q35 tW, .P p37 (.iaddr (.sl 1) q28 q30) .v, .st q37 q36])) (.s (.ops true (XL.of [.fa p38 1 q3, .ld p39 q38 .v, .fa p40 1 q2, .ld p41 q40 tI, .fa p42 1 q3, .ld p43 q42 .v, .fa p44 2 q2, .ld p45 q44 tI, .P p46 (.iaddr (.sl 1) q43 q45) .v, .ld p47 q46 (.i .u64), .P p48 (.iaddr (.sl 1) q39 q41) .v, .st q48 q47])))) (.sO [.bn p50 .eql q5 (ci 4) .b, .mv p49 q50 .b] (.cond q49 (.s (.ops true (XL.of [.fa p52 0 q3, .ld p53 q52 .v, .fa p54 1 q2, .ld p55 q54 tI, .fa p56 4 q2, .ld p57 q56 tW, .P p58 (.conv (.ii .i64) q57) tI, .fa p59 0 q3, .ld p60 q59 .v, .fa p61 2 q2, .ld p62 q61 tI, .P p63 (.iaddr (.sl 1) q60 q62) .v, .ld p64 q63 tW, .fa p65 0 q3, .ld p66 q65 .v, .fa p67 3 q2, .ld p68 q67 tI, .P p69 (.iaddr (.sl 1) q66 q68) .v, .ld p70 q69 tW, .o ⟨(some p71), (.call (.fn 12) [q58, q64, q70]), none, [⟨none, .cell q52, p53⟩, ⟨none, .cell q54, p55⟩]⟩ .v, .mv p51 q71 .v, .P p72 (.ext q51 0) tW, .P p73 (.ext q51 1) .b, .P p74 (.iaddr (.sl 1) q53 q55) .v, .st q74 q72]))) (.sO [.bn p76 .eql q5 (ci 5) .b, .mv p75 q76 .b] (.cond q75 (.s (.ops true (XL.of [.fa p78 1 q3, .ld p79 q78 .v, .fa p80 1 q2, .ld p81 q80 tI, .fa p82 4 q2, .ld p83 q82 tW, .P p84 (.conv (.ii .i64) q83) tI, .fa p85 1 q3, .ld p86 q85 .v, .fa p87 2 q2, .ld p88 q87 tI, .P p89 (.iaddr (.sl 1) q86 q88) .v, .ld p90 q89 (.i .u64), .fa p91 1 q3, .ld p92 q91 .v, .fa p93 3 q2, .ld p94 q93 tI, .P p95 (.iaddr (.sl 1) q92 q94) .v, .ld p96 q95 (.i .u64), .o ⟨(some p97), (.call (.fn 14) [q84, q90, q96]), none, [⟨none, .cell q78, p79⟩, ⟨none, .cell q80, p81⟩]⟩ .v, .mv p77 q97 .v, .P p98 (.ext q77 0) (.i .u64), .P p99 (.ext q77 1) .b, .P p100 (.iaddr (.sl 1) q79 q81) .v, .st q100 q98]))) (.sO [.bn p102 .eql q5 (ci 6) .b, .mv p101 q102 .b] (.cond q101 (.s (.ops true (XL.of [.fa p104 0 q3, .ld p105 q104 .v, .fa p106 1 q2, .ld p107 q106 tI, .fa p108 4 q2, .ld p109 q108 tW, .P p110 (.conv (.ii .i64) q109) tI, .fa p111 1 q3, .ld p112 q111 .v, .fa p113 2 q2, .ld p114 q113 tI, .P p115 (.iaddr (.sl 1) q112 q114) .v, .ld p116 q115 (.i .u64), .fa p117 1 q3, .ld p118 q117 .v, .fa p119 3 q2, .ld p120 q119 tI, .P p121 (.iaddr (.sl 1) q118 q120) .v, .ld p122 q121 (.i .u64), .o ⟨(some p123), (.call (.fn 101) [q110, q116, q122]), none, [⟨none, .cell q104, p105⟩, ⟨none, .cell q106, p107⟩]⟩ .v, .mv p103 q123 .v, .P p124 (.ext q103 0) tW, .P p125 (.ext q103 1) .b, .P p126 (.iaddr (.sl 1) q105 q107) .v, .st q126 q124]))) (.sO [.bn p128 .eql q5 (ci 7) .b, .mv p127 q128 .b] (.cond q127 (.s (.ops true (XL.of [.fa p129 1 q3, .ld p130 q129 .v, .fa p131 1 q2, .ld p132 q131 tI, .fa p133 1 q3, .ld p134 q133 .v, .fa p135 2 q2, .ld p136 q135 tI, .P p137 (.iaddr (.sl 1) q134 q136) .v, .ld p138 q137 (.i .u64), .o ⟨(some p139), (.call (.fn 16) [q138]), none, [⟨none, .cell q129, p130⟩, ⟨none, .cell q131, p132⟩]⟩ (.i .u64), .P p140 (.iaddr (.sl 1) q130 q132) .v, .st q140 q139]))) (.sO [.bn p142 .eql q5 (ci 8) .b, .mv p141 q142 .b] (.cond q141 (.s (.ops true (XL.of [.fa p143 0 q3, .ld p144 q143 .v, .fa p145 1 q2, .ld p146 q145 tI, .fa p147 1 q3, .ld p148 q147 .v, .fa p149 2 q2, .ld p150 q149 tI, .P p151 (.iaddr (.sl 1) q148 q150) .v, .ld p152 q151 (.i .u64), .o ⟨(some p153), (.call (.fn 17) [q152]), none, [⟨none, .cell q143, p144⟩, ⟨none, .cell q145, p146⟩]⟩ tW, .P p154 (.iaddr (.sl 1) q144 q146) .v, .st q154 q153]))) (.sO [.bn p156 .eql q5 (ci 9) .b, .mv p155 q156 .b] (.cond q155 (.s (.ops true (XL.of [.fa p157 1 q3, .ld p158 q157 .v, .fa p159 1 q2, .ld p160 q159 tI, .fa p161 0 q3, .ld p162 q161 .v, .fa p163 2 q2, .ld p164 q163 tI, .P p165 (.iaddr (.sl 1) q162 q164) .v, .ld p166 q165 tW, .o ⟨(some p167), (.call (.fn 15) [q166]), none, [⟨none, .cell q157, p158⟩, ⟨none, .cell q159, p160⟩]⟩ (.i .u64), .P p168 (.iaddr (.sl 1) q158 q160) .v, .st q168 q167]))) (.s .skip))))))))))))))))))))))
def x59 : XFn := ⟨[.v, .v], false, [], c59_e⟩
def e59_0 (k t0 t1 h) := kN k [(p0, t0), (p1, t1)] h
def S59_0 (D : CallD) (m : Nat) (t0 t1 : AV) (h : HP) : Res2 :=
 let t2 := AV.ptr (HP.nxQ h) 0
 let h1 := HP.newQ h (.cells true (AV.cells t0))
 let t3 := AV.ptr (HP.nxQ h1) 0
 let h2 := HP.newQ h1 (.cells true (AV.cells t1))
 let t4 := (AV.ptr (HP.nxQ h) (Nat.add 0 0))
 ldI t4 h2 fun t5 =>
 let t7 := eqQ t5 (Int.ofNat 1)
 br t7 (
 let t8 := (AV.ptr (HP.nxQ h1) (Nat.add 0 0))
 cellC t8 h2 fun t9 =>
 let t10 := (AV.ptr (HP.nxQ h) (Nat.add 0 1))
 ldI t10 h2 fun t11 =>
 let t12 := (AV.ptr (HP.nxQ h) (Nat.add 0 4))
 ldW t12 h2 fun t13 =>
 iasC 1 t9 (vI t11) fun t14 =>
 stoC t14 (vW t13) h2 fun h3 =>
 some (.ret (.tup []) h3, .no)) (
 let t16 := eqQ t5 (Int.ofNat 2)
 br t16 (
 let t17 := (AV.ptr (HP.nxQ h1) (Nat.add 0 1))
 cellC t17 h2 fun t18 =>
 let t19 := (AV.ptr (HP.nxQ h) (Nat.add 0 1))
 ldI t19 h2 fun t20 =>
 let t21 := (AV.ptr (HP.nxQ h) (Nat.add 0 5))
 cellC t21 h2 fun vt22 => asI .u64 vt22 fun t22 =>
 cal D 100 [(AV.int .u64 t22)] h2 fun t23 h4 =>
 br (again [⟨none, .cell q17, p18⟩, ⟨none, .cell q19, p20⟩] (mkT [(p20, (vI t20)), (p19, t19), (p18, t18), (p17, t17)]) h4) (
 asI .u64 t23 fun t23a =>
 iasC 1 t18 (vI t20) fun t24 =>
 stoC t24 (AV.int .u64 t23a) h4 fun h5 =>
 some (.ret (.tup []) h5, .no)) none) (
 let t26 := eqQ t5 (Int.ofNat 3)
 br t26 (
 let t27 := (AV.ptr (HP.nxQ h1) (Nat.add 0 0))
 cellC t27 h2 fun t28 =>
 let t29 := (AV.ptr (HP.nxQ h) (Nat.add 0 1))
 ldI t29 h2 fun t30 =>
 let t31 := (AV.ptr (HP.nxQ h1) (Nat.add 0 0))
 cellC t31 h2 fun t32 =>
 let t33 := (AV.ptr (HP.nxQ h) (Nat.add 0 2))
 ldI t33 h2 fun t34 =>
 iasC 1 t32 (vI t34) fun t35 =>
 ldW t35 h2 fun t36 =>
 iasC 1 t28 (vI t30) fun t37 =>
 stoC t37 (vW t36) h2 fun h6 =>
 let t38 := (AV.ptr (HP.nxQ h1) (Nat.add 0 1))
 cellC t38 h6 fun t39 =>
 let t40 := (AV.ptr (HP.nxQ h) (Nat.add 0 1))
 ldI t40 h6 fun t41 =>
 let t42 := (AV.ptr (HP.nxQ h1) (Nat.add 0 1))
 cellC t42 h6 fun t43 =>
 let t44 := (AV.ptr (HP.nxQ h) (Nat.add 0 2))
 ldI t44 h6 fun t45 =>
 iasC 1 t43 (vI t45) fun t46 =>
 cellC t46 h6 fun vt47 => asI .u64 vt47 fun t47 =>
 iasC 1 t39 (vI t41) fun t48 =>
 stoC t48 (AV.int .u64 t47) h6 fun h7 =>
 some (.ret (.tup []) h7, .no)) (
 let t50 := eqQ t5 (Int.ofNat 4)
 br t50 (
 let t52 := (AV.ptr (HP.nxQ h1) (Nat.add 0 0))
 cellC t52 h2 fun t53 =>
 let t54 := (AV.ptr (HP.nxQ h) (Nat.add 0 1))
 ldI t54 h2 fun t55 =>
 let t56 := (AV.ptr (HP.nxQ h) (Nat.add 0 4))
 ldW t56 h2 fun t57 =>
 let t58 := wrapF .i64 t57
 let t59 := (AV.ptr (HP.nxQ h1) (Nat.add 0 0))
 cellC t59 h2 fun t60 =>
 let t61 := (AV.ptr (HP.nxQ h) (Nat.add 0 2))
 ldI t61 h2 fun t62 =>
 iasC 1 t60 (vI t62) fun t63 =>
 ldW t63 h2 fun t64 =>
 let t65 := (AV.ptr (HP.nxQ h1) (Nat.add 0 0))
 cellC t65 h2 fun t66 =>
 let t67 := (AV.ptr (HP.nxQ h) (Nat.add 0 3))
 ldI t67 h2 fun t68 =>
 iasC 1 t66 (vI t68) fun t69 =>
 ldW t69 h2 fun t70 =>
 cal D 12 [(vI t58), (vW t64), (vW t70)] h2 fun t71 h8 =>
 br (again [⟨none, .cell q52, p53⟩, ⟨none, .cell q54, p55⟩] (mkT [(p55, (vI t55)), (p54, t54), (p53, t53), (p52, t52)]) h8) (
 extC t71 0 fun vt72 => asI .u32 vt72 fun t72 =>
 extC t71 1 fun vt73 => asB vt73 fun t73 =>
 iasC 1 t53 (vI t55) fun t74 =>
 stoC t74 (vW t72) h8 fun h9 =>
 some (.ret (.tup []) h9, .no)) none) (
 let t76 := eqQ t5 (Int.ofNat 5)
 br t76 (
 let t78 := (AV.ptr (HP.nxQ h1) (Nat.add 0 1))
 cellC t78 h2 fun t79 =>
 let t80 := (AV.ptr (HP.nxQ h) (Nat.add 0 1))
 ldI t80 h2 fun t81 =>
 let t82 := (AV.ptr (HP.nxQ h) (Nat.add 0 4))
 ldW t82 h2 fun t83 =>
 let t84 := wrapF .i64 t83
 let t85 := (AV.ptr (HP.nxQ h1) (Nat.add 0 1))
 cellC t85 h2 fun t86 =>
 let t87 := (AV.ptr (HP.nxQ h) (Nat.add 0 2))
 ldI t87 h2 fun t88 =>
 iasC 1 t86 (vI t88) fun t89 =>
 cellC t89 h2 fun vt90 => asI .u64 vt90 fun t90 =>
 let t91 := (AV.ptr (HP.nxQ h1) (Nat.add 0 1))
 cellC t91 h2 fun t92 =>
 let t93 := (AV.ptr (HP.nxQ h) (Nat.add 0 3))
 ldI t93 h2 fun t94 =>
 iasC 1 t92 (vI t94) fun t95 =>
 cellC t95 h2 fun vt96 => asI .u64 vt96 fun t96 =>
 cal D 14 [(vI t84), (AV.int .u64 t90), (AV.int .u64 t96)] h2 fun t97 h10 =>
 br (again [⟨none, .cell q78, p79⟩, ⟨none, .cell q80, p81⟩] (mkT [(p81, (vI t81)), (p80, t80), (p79, t79), (p78, t78)]) h10) (
 extC t97 0 fun vt98 => asI .u64 vt98 fun t98 =>
 extC t97 1 fun vt99 => asB vt99 fun t99 =>
 iasC 1 t79 (vI t81) fun t100 =>
 stoC t100 (AV.int .u64 t98) h10 fun h11 =>
 some (.ret (.tup []) h11, .no)) none) (
 let t102 := eqQ t5 (Int.ofNat 6)
 br t102 (
 let t104 := (AV.ptr (HP.nxQ h1) (Nat.add 0 0))
 cellC t104 h2 fun t105 =>
 let t106 := (AV.ptr (HP.nxQ h) (Nat.add 0 1))
 ldI t106 h2 fun t107 =>
 let t108 := (AV.ptr (HP.nxQ h) (Nat.add 0 4))
 ldW t108 h2 fun t109 =>
 let t110 := wrapF .i64 t109
 let t111 := (AV.ptr (HP.nxQ h1) (Nat.add 0 1))
 cellC t111 h2 fun t112 =>
 let t113 := (AV.ptr (HP.nxQ h) (Nat.add 0 2))
 ldI t113 h2 fun t114 =>
 iasC 1 t112 (vI t114) fun t115 =>
 cellC t115 h2 fun vt116 => asI .u64 vt116 fun t116 =>
 let t117 := (AV.ptr (HP.nxQ h1) (Nat.add 0 1))
 cellC t117 h2 fun t118 =>
 let t119 := (AV.ptr (HP.nxQ h) (Nat.add 0 3))
 ldI t119 h2 fun t120 =>
 iasC 1 t118 (vI t120) fun t121 =>
 cellC t121 h2 fun vt122 => asI .u64 vt122 fun t122 =>
 cal D 101 [(vI t110), (AV.int .u64 t116), (AV.int .u64 t122)] h2 fun t123 h12 =>
 br (again [⟨none, .cell q104, p105⟩, ⟨none, .cell q106, p107⟩] (mkT [(p107, (vI t107)), (p106, t106), (p105, t105), (p104, t104)]) h12) (
 extC t123 0 fun vt124 => asI .u32 vt124 fun t124 =>
 extC t123 1 fun vt125 => asB vt125 fun t125 =>
 iasC 1 t105 (vI t107) fun t126 =>
 stoC t126 (vW t124) h12 fun h13 =>
 some (.ret (.tup []) h13, .no)) none) (
 let t128 := eqQ t5 (Int.ofNat 7)
 br t128 (
 let t129 := (AV.ptr (HP.nxQ h1) (Nat.add 0 1))
 cellC t129 h2 fun t130 =>
 let t131 := (AV.ptr (HP.nxQ h) (Nat.add 0 1))
 ldI t131 h2 fun t132 =>
 let t133 := (AV.ptr (HP.nxQ h1) (Nat.add 0 1))
 cellC t133 h2 fun t134 =>
 let t135 := (AV.ptr (HP.nxQ h) (Nat.add 0 2))
 ldI t135 h2 fun t136 =>
 iasC 1 t134 (vI t136) fun t137 =>
 cellC t137 h2 fun vt138 => asI .u64 vt138 fun t138 =>
 cal D 16 [(AV.int .u64 t138)] h2 fun t139 h14 =>
 br (again [⟨none, .cell q129, p130⟩, ⟨none, .cell q131, p132⟩] (mkT [(p132, (vI t132)), (p131, t131), (p130, t130), (p129, t129)]) h14) (
 asI .u64 t139 fun t139a =>
 iasC 1 t130 (vI t132) fun t140 =>
 stoC t140 (AV.int .u64 t139a) h14 fun h15 =>
 some (.ret (.tup []) h15, .no)) none) (
 let t142 := eqQ t5 (Int.ofNat 8)
 br t142 (
 let t143 := (AV.ptr (HP.nxQ h1) (Nat.add 0 0))
 cellC t143 h2 fun t144 =>
 let t145 := (AV.ptr (HP.nxQ h) (Nat.add 0 1))
 ldI t145 h2 fun t146 =>
 let t147 := (AV.ptr (HP.nxQ h1) (Nat.add 0 1))
 cellC t147 h2 fun t148 =>
 let t149 := (AV.ptr (HP.nxQ h) (Nat.add 0 2))
 ldI t149 h2 fun t150 =>
 iasC 1 t148 (vI t150) fun t151 =>
 cellC t151 h2 fun vt152 => asI .u64 vt152 fun t152 =>
 cal D 17 [(AV.int .u64 t152)] h2 fun t153 h16 =>
 br (again [⟨none, .cell q143, p144⟩, ⟨none, .cell q145, p146⟩] (mkT [(p146, (vI t146)), (p145, t145), (p144, t144), (p143, t143)]) h16) (
 asI .u32 t153 fun t153a =>
 iasC 1 t144 (vI t146) fun t154 =>
 stoC t154 (vW t153a) h16 fun h17 =>
 some (.ret (.tup []) h17, .no)) none) (
 let t156 := eqQ t5 (Int.ofNat 9)
 br t156 (
 let t157 := (AV.ptr (HP.nxQ h1) (Nat.add 0 1))
 cellC t157 h2 fun t158 =>
 let t159 := (AV.ptr (HP.nxQ h) (Nat.add 0 1))
 ldI t159 h2 fun t160 =>
 let t161 := (AV.ptr (HP.nxQ h1) (Nat.add 0 0))
 cellC t161 h2 fun t162 =>
 let t163 := (AV.ptr (HP.nxQ h) (Nat.add 0 2))
 ldI t163 h2 fun t164 =>
 iasC 1 t162 (vI t164) fun t165 =>
 ldW t165 h2 fun t166 =>
 cal D 15 [(vW t166)] h2 fun t167 h18 =>
 br (again [⟨none, .cell q157, p158⟩, ⟨none, .cell q159, p160⟩] (mkT [(p160, (vI t160)), (p159, t159), (p158, t158), (p157, t157)]) h18) (
 asI .u64 t167 fun t167a =>
 iasC 1 t158 (vI t160) fun t168 =>
 stoC t168 (AV.int .u64 t167a) h18 fun h19 =>
 some (.ret (.tup []) h19, .no)) none) (
 some (.ret (.tup []) h2, .no))))))))))
def S59 : SFn := fun D m args h u => nou u <| popV args fun t0 args => popV args fun t1 args => endA args (S59_0 D m t0 t1 h)
theorem T59_0 (hE : FX x59 D m E) : S59_0 D m = e59_0 (E c59_e []) := by unfold S59_0; rw [hE c59_e]; kernel_rfl
theorem X59 : XTie S59 x59 := X_of fun D m E hE args h u => by unfold S59; rw [T59_0 hE]; kernel_rfl
/- 81 -/
def v81_0 : List Pos := [p0, p5, p6]
def c81_0b : XC := (.block 1 (.sO [.mv p7 (cb true) .b] (.sO [.mv p14 q0 .s, .mv p15 q6 tI, .cl p16 115 [q14, q15] .v, .mv p13 q16 .v, .P p17 (.ext q13 0) tI, .P p18 (.ext q13 1) .b, .mv p6 q17 tI, .mv p7 q18 .b] (.seq (.seq (.oX [.mv p19 q7 .b, .P p20 (.un .not q19) .b]) (.cond q20 (.seq (.oX [.mv p21 q6 tI, .mv p2 (.c .nils) .v, .mv p3 q21 tI, .mv p4 (ci 10) tI]) .ret) .skip)) (.seq (.seq (.oX [.mv p22 q6 tI, .mv p23 q0 .s, .P p24 (.lens q23) tI, .bn p25 .eql q22 q24 .b]) (.cond q25 (.seq (.oX [.mv p26 q5 .v, .mv p27 q6 tI, .P p28 (.build [(kI 0), (.str []), (kI 0)] [⟨2, 1, q27⟩]) .v, .al p29 (.bsl [(kI 0), (.str []), (kI 0)] 1 [⟨0, 3, q28⟩]), .o ⟨(some p30), (.e (.app 3 32 q26 q29)), none, []⟩ .v, .mv p2 q30 .v, .mv p3 (ci 0) tI, .mv p4 (ci 0) tI]) .ret) .skip)) (.sO [.mv p32 q0 .s, .mv p33 q6 tI, .cl p34 116 [q32, q33] .v, .mv p31 q34 .v, .P p35 (.ext q31 0) .v, .P p36 (.ext q31 1) tI, .al p8 (.new [(kI 0), (.str []), (kI 0)]), .ss 3 q8 q35, .mv p9 q36 tI] (.seq (.seq (.oX [.mv p37 q9 tI, .bn p38 .eql q37 (ci 0) .b]) (.cond q38 (.seq (.oX [.mv p39 q6 tI, .mv p2 (.c .nils) .v, .mv p3 q39 tI, .mv p4 (ci 10) tI]) .ret) .skip)) (.seq (.seq (.oX [.mv p40 q5 .v, .P p41 (.lenl q40) tI, .bn p42 .geq q41 (ci 2500) .b]) (.cond q42 (.seq (.oX [.mv p43 q6 tI, .mv p2 (.c .nils) .v, .mv p3 q43 tI, .mv p4 (ci 5) tI]) .ret) .skip)) (.sO [.mv p44 q5 .v, .L p45 (.cells 3 q8) .v, .al p46 (.bsl [(kI 0), (.str []), (kI 0)] 1 [⟨0, 3, q45⟩]), .o ⟨(some p47), (.e (.app 3 32 q44 q46)), none, []⟩ .v, .mv p5 q47 .v] (.s (.oX [.mv p48 q9 tI, .mv p6 q48 tI])))))))))))
def c81_e : XC := (.sO [.mv p2 (.c .nils) .v, .mv p3 (ci 0) tI, .mv p4 (ci 0) tI] (.seq (.seq (.oX [.mv p10 q0 .s, .P p11 (.lens q10) tI, .bn p12 .gtr q11 (ci 8192) .b]) (.cond q12 (.seq (.oX [.mv p2 (.c .nils) .v, .mv p3 (ci 0) tI, .mv p4 (ci 6) tI]) .ret) .skip)) (.sO [.mv p5 (.c .nils) .v] (.sO [.mv p6 (ci 0) tI] (.block 0 (.loop v81_0 c81_0b))))))
def x81 : XFn := ⟨[.s], false, [(.tmp p2), (.tmp p3), (.tmp p4)], c81_e⟩
def e81_0 (k t0 t5 t6 h) := kN k [(p0, (vS t0)), (p5, t5), (p6, (vI t6))] h
def S81_0b (D : CallD) (m : Nat) (g0 : LN → AV → Int → HP → Res2) (t0 : LN) (t5 : AV) (t6 : Int) (h : HP) : Res2 :=
 cal D 115 [(vS t0), (vI t6)] h fun t16 h2 =>
 extC t16 0 fun vt17 => asI .i64 vt17 fun t17 =>
 extC t16 1 fun vt18 => asB vt18 fun t18 =>
 let t20 := !t18
 br t20 (
 some (.ret (.tup [(.nils : AV), (vI t17), (vI (Int.ofNat 10))]) h2, .no)) (
 let t24 := Int.ofNat (lenL t0)
 let t25 := eqQ t17 t24
 br t25 (
 let t28 := (AV.agg [(vI (Int.ofNat 0)), (vS ([] : LN)), (vI t17)])
 let t29 := AV.slice (HP.nxQ h2) 0 1 (.exact 1)
 let h3 := HP.newQ h2 (.cells true [(vI (Int.ofNat 0)), (vS ([] : LN)), (vI t17)])
 eff (.app 3 32 (.c t5) (.c t29)) h3 fun t30 h4 =>
 some (.ret (.tup [t30, (vI (Int.ofNat 0)), (vI (Int.ofNat 0))]) h4, .no)) (
 cal D 116 [(vS t0), (vI t17)] h2 fun t34 h5 =>
 extC t34 0 fun t35 =>
 extC t34 1 fun vt36 => asI .i64 vt36 fun t36 =>
 let t8 := AV.ptr (HP.nxQ h5) 0
 let h6 := HP.newQ h5 (.cells true [(kI 0), (.str []), (kI 0)])
 stsC 3 t8 t35 h6 fun h7 =>
 let t38 := eqQ t36 (Int.ofNat 0)
 br t38 (
 some (.ret (.tup [(.nils : AV), (vI t17), (vI (Int.ofNat 10))]) h7, .no)) (
 lenC t5 fun vt41 => asI .i64 vt41 fun t41 =>
 let t42 := leQ (Int.ofNat 2500) t41
 br t42 (
 some (.ret (.tup [(.nils : AV), (vI t17), (vI (Int.ofNat 5))]) h7, .no)) (
 cellsC 3 t8 h7 fun t45 =>
 obQ (evA (.bsl [(kI 0), (.str []), (kI 0)] 1 [⟨0, 3, (.c t45)⟩]) .leaf) fun r8 =>
 let t46 := vkV r8.2 (HP.nxQ h7)
 let h9 := HP.newQ h7 r8.1
 eff (.app 3 32 (.c t5) (.c t46)) h9 fun t47 h10 =>
 g0 t0 t47 t36 h10))))
def S81_0 (D : CallD) (m : Nat) : LN → AV → Int → HP → Res2 := nrec (fun _ _ _ _ => none) (fun _ g => S81_0b D m g) m
def e81_1 (k t0 h) := kN k [(p0, (vS t0))] h
def S81_1 (D : CallD) (m : Nat) (t0 : LN) (h : HP) : Res2 :=
 let t11 := Int.ofNat (lenL t0)
 let t12 := ltQ (Int.ofNat 8192) t11
 br t12 (
 some (.ret (.tup [(.nils : AV), (vI (Int.ofNat 0)), (vI (Int.ofNat 6))]) h, .no)) (
 S81_0 D m t0 (.nils : AV) (Int.ofNat 0) h)
def S81 : SFn := fun D m args h u => nou u <| popS args fun t0 args => endA args (S81_1 D m t0 h)
theorem T81_0b (hE : FX x81 D m E) (G0) : S81_0b D m (e81_0 G0) = e81_0 (E c81_0b [.lp v81_0 G0, .blk 0]) := by unfold S81_0b; rw [hE c81_0b]; kernel_rfl
theorem T81_0 (hE : FX x81 D m E) : S81_0 D m = e81_0 (nrec (fun _ => none) (fun _ G0 st => E c81_0b [.lp v81_0 G0, .blk 0] st) m) :=
  nrec_emb e81_0 (fun _ _ _ _ => none) (fun g => S81_0b D m g) (fun G0 st => E c81_0b [.lp v81_0 G0, .blk 0] st) rfl (fun g => T81_0b hE g) m
theorem T81_1 (hE : FX x81 D m E) : S81_1 D m = e81_1 (E c81_e []) := by unfold S81_1; rw [T81_0 hE, hE c81_e]; kernel_rfl
theorem X81 : XTie S81 x81 := X_of fun D m E hE args h u => by unfold S81; rw [T81_1 hE]; kernel_rfl
/- 82 -/
def c82_e : XC := (.sO [.al p1 (.box q0), .al p2 (.new [(kI 0), (.str []), (kI 0)])] (.sO [.fa p3 0 q1, .ld p4 q3 .v, .fa p5 1 q1, .ld p6 q5 tI, .P p7 (.iaddr (.sl 3) q4 q6) .v, .L p8 (.cells 3 q7) .v, .ss 3 q2 q8] (.s .ret)))
def x82 : XFn := ⟨[.v], false, [(.cells 3 p2)], c82_e⟩
def e82_0 (k t0 h) := kN k [(p0, t0)] h
def S82_0 (D : CallD) (m : Nat) (t0 : AV) (h : HP) : Res2 :=
 let t1 := AV.ptr (HP.nxQ h) 0
 let h1 := HP.newQ h (.cells true (AV.cells t0))
 let t2 := AV.ptr (HP.nxQ h1) 0
 let h2 := HP.newQ h1 (.cells true [(kI 0), (.str []), (kI 0)])
 let t3 := (AV.ptr (HP.nxQ h) (Nat.add 0 0))
 cellC t3 h2 fun t4 =>
 let t5 := (AV.ptr (HP.nxQ h) (Nat.add 0 1))
 ldI t5 h2 fun t6 =>
 iasC 3 t4 (vI t6) fun t7 =>
 cellsC 3 t7 h2 fun t8 =>
 stsC 3 t2 t8 h2 fun h3 =>
 cellsC 3 t2 h3 fun t2a =>
 some (.ret t2a h3, .no)
def S82 : SFn := fun D m args h u => nou u <| popV args fun t0 args => endA args (S82_0 D m t0 h)
theorem T82_0 (hE : FX x82 D m E) : S82_0 D m = e82_0 (E c82_e []) := by unfold S82_0; rw [hE c82_e]; kernel_rfl
theorem X82 : XTie S82 x82 := X_of fun D m E hE args h u => by unfold S82; rw [T82_0 hE]; kernel_rfl
/- 83 -/
def v83_1 : List Pos := [p1, p2, p3, p4]
def c83_1 : XC := (.seq (.ops true (XL.of [.L p109 (.cells 5 q1) .v, .L p111 (.cells 17 q4) .v, .o ⟨(some p110), (.call (.fn 123) [q109, (.c (.str [59]))]), none, [⟨none, .cells 17 q4, p111⟩]⟩ .v, .o ⟨none, (.e (.stores 5 q2 q110)), none, [⟨none, .cells 17 q4, p111⟩]⟩ .v, .ss 17 q3 q111])) (.s .ret))
def v83_3 : List Pos := [p1, p2, p3, p4]
def c83_3 : XC := (.sO [.fa p104 5 q4, .ld p105 q104 tI, .bn p106 .gtr q105 (ci 0) .b] (.cond q106 (.s (.oX [.L p107 (.cells 5 q1) .v, .cl p108 123 [q107, (.c (.str [125]))] .v, .ss 5 q1 q108])) (.s .skip)))
def c83_6 : XC := (.sO [.mv p101 q5 .b] (.cond q101 (.s (.oX [.L p102 (.cells 5 q1) .v, .cl p103 118 [q102] .v, .ss 5 q1 q103])) (.s .skip)))
def l83_5 : XL := (XL.of [.mv p5 q100 .b])
def v83_4 : List Pos := [p1, p2, p3, p4, p5]
def c83_4b : XC := (.seq (.seq (.oX [.mv p76 q5 .b, .mv p77 q76 .b, .ge p77 (XL.of [.G p77 true p78 (.faddr 3 q1) .v, .o ⟨(some p79), (.l (.cell q78)), (some (p77, true)), []⟩ tI, .G p77 true p80 (.bin .eql q79 (ci 0)) .b, .P p81 (.pick q77 q80 (cb false)) .b]) p81 .b]) (.cond q81 .skip (.exit 0))) (.block 1 (.sO [.P p82 (.build [(kI 0), (.str []), (.str []), (.int .u32 (.ofNat 0)), (.int .u64 (.ofNat 0)), .nils, (kI 0), (kI 0)] []) .v, .al p6 (.new [(kI 0), (.str []), (.str []), (.int .u32 (.ofNat 0)), (.int .u64 (.ofNat 0)), .nils, (kI 0), (kI 0)]), .ss 8 q6 q82] (.sO [.L p84 (.cells 5 q1) .v, .cl p85 125 [q84] .v, .mv p83 q85 .v, .P p86 (.ext q83 0) .v, .P p87 (.ext q83 1) .v, .ss 5 q1 q86, .ss 8 q6 q87] (.sO [.fa p88 6 q4, .ld p89 q88 .v, .L p90 (.cells 8 q6) .v, .al p91 (.bsl [(kI 0), (.str []), (.str []), (.int .u32 (.ofNat 0)), (.int .u64 (.ofNat 0)), .nils, (kI 0), (kI 0)] 1 [⟨0, 8, q90⟩]), .o ⟨(some p92), (.e (.app 8 96 q89 q91)), none, []⟩ .v, .fa p93 6 q4, .st q93 q92] (.opq false (XL.pre [.fa p94 5 q4, .ld p95 q94 tI, .bn p96 .gtr q95 (ci 0) .b, .mv p97 q96 .b, .sp p97, .o ⟨(some p98), (.l (.cells 5 q1)), (some (p97, true)), []⟩ .v, .o ⟨(some p99), (.call (.fn 117) [q98, (.c (.str [44]))]), (some (p97, true)), []⟩ .b, .P p100 (.pick q97 q99 (cb false)) .b, .jn p97 [p1, p2, p3, p4, p100]] l83_5) c83_6))))))
def v83_2 : List Pos := [p1, p2, p3, p4]
def c83_2 : XC := (.sj v83_3 (.sO [.mv p5 (cb true) .b] (.block 0 (.loop v83_4 c83_4b))) c83_3)
def v83_0 : List Pos := [p1, p2, p3, p4]
def c83_0 : XC := (.sO [.L p20 (.cells 5 q1) .v, .cl p21 82 [q20] .v, .P p22 (.field 2 1 false q21) tI, .fa p23 16 q4, .st q23 q22] (.sO [.L p25 (.cells 5 q1) .v, .cl p26 119 [q25] .v, .mv p24 q26 .v, .P p27 (.ext q24 0) .v, .P p28 (.ext q24 1) tI, .ss 5 q1 q27, .fa p29 4 q4, .st q29 q28] (.sO [.L p31 (.cells 5 q1) .v, .cl p32 120 [q31, (ci 1)] .v, .mv p30 q32 .v, .P p33 (.ext q30 0) .v, .P p34 (.ext q30 1) .s, .ss 5 q1 q33, .fa p35 3 q4, .st q35 q34] (.seq (.seq (.oX [.L p36 (.cells 5 q1) .v, .cl p37 117 [q36, (.c (.str [40]))] .b]) (.cond q37 (.seq (.oX [.fa p38 0 q4, .st q38 (cb true)]) (.seq (.oX [.L p40 (.cells 5 q1) .v, .cl p41 118 [q40] .v, .cl p42 121 [q41] .v, .mv p39 q42 .v, .P p43 (.ext q39 0) .v, .P p44 (.ext q39 1) .v, .ss 5 q1 q43, .fa p45 8 q4, .st q45 q44]) (.seq (.seq (.oX [.L p46 (.cells 5 q1) .v, .cl p47 117 [q46, (.c (.str [123]))] .b]) (.cond q47 (.seq (.oX [.fa p48 7 q4, .st q48 (cb true)]) (.seq (.oX [.L p50 (.cells 5 q1) .v, .cl p51 122 [q50] .v, .mv p49 q51 .v, .P p52 (.ext q49 0) .v, .P p53 (.ext q49 1) .v, .ss 5 q1 q52, .fa p54 9 q4, .ss 7 q54 q53]) (.seq (.ops true (XL.of [.L p55 (.cells 5 q1) .v, .L p56 (.cells 17 q4) .v, .o ⟨none, (.e (.stores 5 q2 q55)), none, [⟨none, .cells 17 q4, p56⟩]⟩ .v, .ss 17 q3 q56])) .ret))) .skip)) (.seq (.ops true (XL.of [.L p57 (.cells 5 q1) .v, .L p59 (.cells 17 q4) .v, .o ⟨(some p58), (.call (.fn 123) [q57, (.c (.str [59]))]), none, [⟨none, .cells 17 q4, p59⟩]⟩ .v, .o ⟨none, (.e (.stores 5 q2 q58)), none, [⟨none, .cells 17 q4, p59⟩]⟩ .v, .ss 17 q3 q59])) .ret)))) .skip)) (.sO [.L p61 (.cells 5 q1) .v, .cl p62 124 [q61] .v, .mv p60 q62 .v, .P p63 (.ext q60 0) .v, .P p64 (.ext q60 1) tI, .ss 5 q1 q63, .fa p65 5 q4, .st q65 q64] (.sj v83_1 (.sO [.L p66 (.cells 5 q1) .v, .cl p67 117 [q66, (.c (.str [61]))] .b] (.cond q67 (.sO [.fa p68 7 q4, .st q68 (cb true)] (.sO [.L p69 (.cells 5 q1) .v, .cl p70 118 [q69] .v, .ss 5 q1 q70] (.sj v83_2 (.sO [.fa p71 5 q4, .ld p72 q71 tI, .bn p73 .gtr q72 (ci 0) .b] (.cond q73 (.s (.oX [.L p74 (.cells 5 q1) .v, .cl p75 123 [q74, (.c (.str [123]))] .v, .ss 5 q1 q75])) (.s .skip))) c83_2))) (.s .skip))) c83_1))))))
def c83_e : XC := (.sO [.al p1 (.box q0), .al p2 (.new [.nils, (kI 0), (kI 0), (kI 0), (kI 0)]), .al p3 (.new [(.bool false), (.bool false), (.bool false), (.str []), (kI 0), (kI 0), .nils, (.bool false), .nils, (kI 0), .nils, .nils, (.str []), (kI 0), (kI 0), (kI 0), (kI 0)])] (.seq (.ops true (XL.of [.L p7 (.cells 5 q1) .v, .L p9 (.cells 5 q1) .v, .al p4 (.new [(.bool false), (.bool false), (.bool false), (.str []), (kI 0), (kI 0), .nils, (.bool false), .nils, (kI 0), .nils, .nils, (.str []), (kI 0), (kI 0), (kI 0), (kI 0)]), .o ⟨(some p8), (.call (.fn 117) [q7, (.c (.str [115, 116, 97, 116, 105, 99]))]), none, [⟨none, .cells 5 q1, p9⟩]⟩ .b, .cl p10 117 [q9, (.c (.str [101, 120, 116, 101, 114, 110]))] .b, .P p11 (.build [(.bool false), (.bool false), (.bool false), (.str []), (kI 0), (kI 0), .nils, (.bool false), .nils, (kI 0), .nils, .nils, (.str []), (kI 0), (kI 0), (kI 0), (kI 0)] [⟨1, 1, q8⟩, ⟨2, 1, q10⟩]) .v, .ss 17 q4 q11])) (.sj v83_0 (.sO [.fa p12 1 q4, .ld p13 q12 .b, .mv p14 q13 .b, .ge p14 (XL.of [.G p14 false p15 (.faddr 2 q4) .v, .o ⟨(some p16), (.l (.cell q15)), (some (p14, false)), []⟩ .b, .P p17 (.pick q14 (cb true) q16) .b]) p17 .b] (.cond q17 (.s (.oX [.L p18 (.cells 5 q1) .v, .cl p19 118 [q18] .v, .ss 5 q1 q19])) (.s .skip))) c83_0)))
def x83 : XFn := ⟨[.v], false, [(.cells 5 p2), (.cells 17 p3)], c83_e⟩
def e83_1 (k t1 t2 t3 t4 h) := kN k [(p1, t1), (p2, t2), (p3, t3), (p4, t4)] h
def S83_1 (D : CallD) (m : Nat) (t1 t2 t3 t4 : AV) (h : HP) : Res2 :=
 cellsC 5 t1 h fun t109 =>
 cellsC 17 t4 h fun t111 =>
 cal D 123 [t109, (vS ([59] : LN))] h fun t110 h42 =>
 br (again [⟨none, .cells 17 q4, p111⟩] (mkT [(p111, t111), (p4, t4)]) h42) (
 stsC 5 t2 t110 h42 fun h43 =>
 br (againE (.stores 5 q2 q110) [⟨none, .cells 17 q4, p111⟩] (mkT [(p2, t2), (p111, t111), (p4, t4)]) h43) (
 stsC 17 t3 t111 h43 fun h44 =>
 cellsC 5 t2 h44 fun t2a =>
 cellsC 17 t3 h44 fun t3a =>
 some (.ret (.tup [t2a, t3a]) h44, .no)) none) none
def e83_3 (k t1 t2 t3 t4 h) := kN k [(p1, t1), (p2, t2), (p3, t3), (p4, t4)] h
def S83_3 (D : CallD) (m : Nat) (t1 t2 t3 t4 : AV) (h : HP) : Res2 :=
 faC 5 t4 fun t104 =>
 ldI t104 h fun t105 =>
 let t106 := ltQ (Int.ofNat 0) t105
 br t106 (
 cellsC 5 t1 h fun t107 =>
 cal D 123 [t107, (vS ([125] : LN))] h fun t108 h49 =>
 stsC 5 t1 t108 h49 fun h50 =>
 S83_1 D m t1 t2 t3 t4 h50) (
 S83_1 D m t1 t2 t3 t4 h)
def e83_5 (k t1 t2 t3 t4 t100 h) := kN k [(p1, t1), (p2, t2), (p3, t3), (p4, t4), (p100, (vB t100))] h
def S83_5 (D : CallD) (m : Nat) (g4 : AV → AV → AV → AV → Bool → HP → Res2) (t1 t2 t3 t4 : AV) (t100 : Bool) (h : HP) : Res2 :=
 br t100 (
 cellsC 5 t1 h fun t102 =>
 cal D 118 [t102] h fun t103 h61 =>
 stsC 5 t1 t103 h61 fun h62 =>
 g4 t1 t2 t3 t4 t100 h62) (
 g4 t1 t2 t3 t4 t100 h)
def e83_4 (k t1 t2 t3 t4 t5 h) := kN k [(p1, t1), (p2, t2), (p3, t3), (p4, t4), (p5, (vB t5))] h
def S83_4b (D : CallD) (m : Nat) (g4 : AV → AV → AV → AV → Bool → HP → Res2) (t1 t2 t3 t4 : AV) (t5 : Bool) (h : HP) : Res2 :=
 obB (brV t5 (
 faCV 3 t1 fun t78 =>
 ldIV t78 h fun t79 =>
 let t80 := eqQ t79 (Int.ofNat 0)
 some (vB t80)) (
 some (vB false))) fun t81 =>
 br t81 (
 let t82 := (AV.agg [(vI (Int.ofNat 0)), (vS ([] : LN)), (vS ([] : LN)), (vW (Int.ofNat 0)), (AV.int .u64 (Int.ofNat 0)), (.nils : AV), (vI (Int.ofNat 0)), (vI (Int.ofNat 0))])
 let t6 := AV.ptr (HP.nxQ h) 0
 let h51 := HP.newQ h (.cells true [(kI 0), (.str []), (.str []), (.int .u32 (.ofNat 0)), (.int .u64 (.ofNat 0)), .nils, (kI 0), (kI 0)])
 stsC 8 t6 t82 h51 fun h52 =>
 cellsC 5 t1 h52 fun t84 =>
 cal D 125 [t84] h52 fun t85 h53 =>
 extC t85 0 fun t86 =>
 extC t85 1 fun t87 =>
 stsC 5 t1 t86 h53 fun h54 =>
 stsC 8 t6 t87 h54 fun h55 =>
 faC 6 t4 fun t88 =>
 cellC t88 h55 fun t89 =>
 cellsC 8 t6 h55 fun t90 =>
 obQ (evA (.bsl [(kI 0), (.str []), (.str []), (.int .u32 (.ofNat 0)), (.int .u64 (.ofNat 0)), .nils, (kI 0), (kI 0)] 1 [⟨0, 8, (.c t90)⟩]) .leaf) fun r56 =>
 let t91 := vkV r56.2 (HP.nxQ h55)
 let h57 := HP.newQ h55 r56.1
 eff (.app 8 96 (.c t89) (.c t91)) h57 fun t92 h58 =>
 faC 6 t4 fun t93 =>
 stoC t93 t92 h58 fun h59 =>
 faC 5 t4 fun t94 =>
 ldI t94 h59 fun t95 =>
 let t96 := ltQ (Int.ofNat 0) t95
 br t96 (
 cellsC 5 t1 h59 fun t98 =>
 cal D 117 [t98, (vS ([44] : LN))] h59 fun t99 h60 =>
 asB t99 fun t99a =>
 S83_5 D m g4 t1 t2 t3 t4 t99a h60) (
 S83_5 D m g4 t1 t2 t3 t4 false h59)) (
 S83_3 D m t1 t2 t3 t4 h)
def S83_4 (D : CallD) (m : Nat) : AV → AV → AV → AV → Bool → HP → Res2 := nrec (fun _ _ _ _ _ _ => none) (fun _ g => S83_4b D m g) m
def e83_2 (k t1 t2 t3 t4 h) := kN k [(p1, t1), (p2, t2), (p3, t3), (p4, t4)] h
def S83_2 (D : CallD) (m : Nat) (t1 t2 t3 t4 : AV) (h : HP) : Res2 :=
 S83_4 D m t1 t2 t3 t4 true h
def e83_0 (k t1 t2 t3 t4 h) := kN k [(p1, t1), (p2, t2), (p3, t3), (p4, t4)] h
def S83_0 (D : CallD) (m : Nat) (t1 t2 t3 t4 : AV) (h : HP) : Res2 :=
 cellsC 5 t1 h fun t20 =>
 cal D 82 [t20] h fun t21 h15 =>
 fldC 2 1 false t21 fun vt22 => asI .i64 vt22 fun t22 =>
 faC 16 t4 fun t23 =>
 stoC t23 (vI t22) h15 fun h16 =>
 cellsC 5 t1 h16 fun t25 =>
 cal D 119 [t25] h16 fun t26 h17 =>
 extC t26 0 fun t27 =>
 extC t26 1 fun vt28 => asI .i64 vt28 fun t28 =>
 stsC 5 t1 t27 h17 fun h18 =>
 faC 4 t4 fun t29 =>
 stoC t29 (vI t28) h18 fun h19 =>
 cellsC 5 t1 h19 fun t31 =>
 cal D 120 [t31, (vI (Int.ofNat 1))] h19 fun t32 h20 =>
 extC t32 0 fun t33 =>
 extC t32 1 fun vt34 => asS vt34 fun t34 =>
 stsC 5 t1 t33 h20 fun h21 =>
 faC 3 t4 fun t35 =>
 stoC t35 (vS t34) h21 fun h22 =>
 cellsC 5 t1 h22 fun t36 =>
 cal D 117 [t36, (vS ([40] : LN))] h22 fun t37 h23 =>
 asB t37 fun t37a =>
 br t37a (
 faC 0 t4 fun t38 =>
 stoC t38 (vB true) h23 fun h24 =>
 cellsC 5 t1 h24 fun t40 =>
 cal D 118 [t40] h24 fun t41 h25 =>
 cal D 121 [t41] h25 fun t42 h26 =>
 extC t42 0 fun t43 =>
 extC t42 1 fun t44 =>
 stsC 5 t1 t43 h26 fun h27 =>
 faC 8 t4 fun t45 =>
 stoC t45 t44 h27 fun h28 =>
 cellsC 5 t1 h28 fun t46 =>
 cal D 117 [t46, (vS ([123] : LN))] h28 fun t47 h29 =>
 asB t47 fun t47a =>
 br t47a (
 faC 7 t4 fun t48 =>
 stoC t48 (vB true) h29 fun h30 =>
 cellsC 5 t1 h30 fun t50 =>
 cal D 122 [t50] h30 fun t51 h31 =>
 extC t51 0 fun t52 =>
 extC t51 1 fun t53 =>
 stsC 5 t1 t52 h31 fun h32 =>
 faC 9 t4 fun t54 =>
 stsC 7 t54 t53 h32 fun h33 =>
 cellsC 5 t1 h33 fun t55 =>
 cellsC 17 t4 h33 fun t56 =>
 stsC 5 t2 t55 h33 fun h34 =>
 br (againE (.stores 5 q2 q55) [⟨none, .cells 17 q4, p56⟩] (mkT [(p2, t2), (p56, t56), (p4, t4)]) h34) (
 stsC 17 t3 t56 h34 fun h35 =>
 cellsC 5 t2 h35 fun t2a =>
 cellsC 17 t3 h35 fun t3a =>
 some (.ret (.tup [t2a, t3a]) h35, .no)) none) (
 cellsC 5 t1 h29 fun t57 =>
 cellsC 17 t4 h29 fun t59 =>
 cal D 123 [t57, (vS ([59] : LN))] h29 fun t58 h36 =>
 br (again [⟨none, .cells 17 q4, p59⟩] (mkT [(p59, t59), (p4, t4)]) h36) (
 stsC 5 t2 t58 h36 fun h37 =>
 br (againE (.stores 5 q2 q58) [⟨none, .cells 17 q4, p59⟩] (mkT [(p2, t2), (p59, t59), (p4, t4)]) h37) (
 stsC 17 t3 t59 h37 fun h38 =>
 cellsC 5 t2 h38 fun t2a =>
 cellsC 17 t3 h38 fun t3a =>
 some (.ret (.tup [t2a, t3a]) h38, .no)) none) none)) (
 cellsC 5 t1 h23 fun t61 =>
 cal D 124 [t61] h23 fun t62 h39 =>
 extC t62 0 fun t63 =>
 extC t62 1 fun vt64 => asI .i64 vt64 fun t64 =>
 stsC 5 t1 t63 h39 fun h40 =>
 faC 5 t4 fun t65 =>
 stoC t65 (vI t64) h40 fun h41 =>
 cellsC 5 t1 h41 fun t66 =>
 cal D 117 [t66, (vS ([61] : LN))] h41 fun t67 h45 =>
 asB t67 fun t67a =>
 br t67a (
 faC 7 t4 fun t68 =>
 stoC t68 (vB true) h45 fun h46 =>
 cellsC 5 t1 h46 fun t69 =>
 cal D 118 [t69] h46 fun t70 h47 =>
 stsC 5 t1 t70 h47 fun h48 =>
 faC 5 t4 fun t71 =>
 ldI t71 h48 fun t72 =>
 let t73 := ltQ (Int.ofNat 0) t72
 br t73 (
 cellsC 5 t1 h48 fun t74 =>
 cal D 123 [t74, (vS ([123] : LN))] h48 fun t75 h63 =>
 stsC 5 t1 t75 h63 fun h64 =>
 S83_2 D m t1 t2 t3 t4 h64) (
 S83_2 D m t1 t2 t3 t4 h48)) (
 S83_1 D m t1 t2 t3 t4 h45))
def e83_7 (k t0 h) := kN k [(p0, t0)] h
def S83_7 (D : CallD) (m : Nat) (t0 : AV) (h : HP) : Res2 :=
 let t1 := AV.ptr (HP.nxQ h) 0
 let h8 := HP.newQ h (.cells true (AV.cells t0))
 let t2 := AV.ptr (HP.nxQ h8) 0
 let h9 := HP.newQ h8 (.cells true [.nils, (kI 0), (kI 0), (kI 0), (kI 0)])
 let t3 := AV.ptr (HP.nxQ h9) 0
 let h10 := HP.newQ h9 (.cells true [(.bool false), (.bool false), (.bool false), (.str []), (kI 0), (kI 0), .nils, (.bool false), .nils, (kI 0), .nils, .nils, (.str []), (kI 0), (kI 0), (kI 0), (kI 0)])
 cellsC 5 t1 h10 fun t7 =>
 cellsC 5 t1 h10 fun t9 =>
 let t4 := AV.ptr (HP.nxQ h10) 0
 let h11 := HP.newQ h10 (.cells true [(.bool false), (.bool false), (.bool false), (.str []), (kI 0), (kI 0), .nils, (.bool false), .nils, (kI 0), .nils, .nils, (.str []), (kI 0), (kI 0), (kI 0), (kI 0)])
 cal D 117 [t7, (vS ([115, 116, 97, 116, 105, 99] : LN))] h11 fun t8 h12 =>
 br (again [⟨none, .cells 5 q1, p9⟩] (mkT [(p9, t9), (p1, t1)]) h12) (
 asB t8 fun t8a =>
 cal D 117 [t9, (vS ([101, 120, 116, 101, 114, 110] : LN))] h12 fun t10 h13 =>
 asB t10 fun t10a =>
 let t11 := (AV.agg [(vB false), (vB t8a), (vB t10a), (vS ([] : LN)), (vI (Int.ofNat 0)), (vI (Int.ofNat 0)), (.nils : AV), (vB false), (.nils : AV), (vI (Int.ofNat 0)), (.nils : AV), (.nils : AV), (vS ([] : LN)), (vI (Int.ofNat 0)), (vI (Int.ofNat 0)), (vI (Int.ofNat 0)), (vI (Int.ofNat 0))])
 stsC 17 t4 t11 h13 fun h14 =>
 let t12 := (AV.ptr (HP.nxQ h10) (Nat.add 0 1))
 ldB t12 h14 fun t13 =>
 obB (brV t13 (
 some (vB true)) (
 let t15 := (AV.ptr (HP.nxQ h10) (Nat.add 0 2))
 ldBV t15 h14 fun t16 =>
 some (vB t16))) fun t17 =>
 br t17 (
 cellsC 5 t1 h14 fun t18 =>
 cal D 118 [t18] h14 fun t19 h65 =>
 stsC 5 t1 t19 h65 fun h66 =>
 S83_0 D m t1 t2 t3 t4 h66) (
 S83_0 D m t1 t2 t3 t4 h14)) none
def S83 : SFn := fun D m args h u => nou u <| popV args fun t0 args => endA args (S83_7 D m t0 h)
theorem T83_1 (hE : FX x83 D m E) : S83_1 D m = e83_1 (E c83_1 []) := by unfold S83_1; rw [hE c83_1]; kernel_rfl
theorem T83_3 (hE : FX x83 D m E) : S83_3 D m = e83_3 (E c83_3 [.sj v83_1 c83_1]) := by unfold S83_3; rw [T83_1 hE, hE c83_3]; kernel_rfl
theorem T83_5 (hE : FX x83 D m E) (G4) : S83_5 D m (e83_4 G4) = e83_5 (E (.opq false l83_5 c83_6) [.blk 1, .lp v83_4 G4, .blk 0, .sj v83_3 c83_3, .sj v83_1 c83_1]) := by unfold S83_5; rw [hE (.opq false l83_5 c83_6)]; kernel_rfl
theorem T83_4b (hE : FX x83 D m E) (G4) : S83_4b D m (e83_4 G4) = e83_4 (E c83_4b [.lp v83_4 G4, .blk 0, .sj v83_3 c83_3, .sj v83_1 c83_1]) := by unfold S83_4b; rw [T83_5 hE G4, T83_3 hE, hE c83_4b]; kernel_rfl
theorem T83_4 (hE : FX x83 D m E) : S83_4 D m = e83_4 (nrec (fun _ => none) (fun _ G4 st => E c83_4b [.lp v83_4 G4, .blk 0, .sj v83_3 c83_3, .sj v83_1 c83_1] st) m) :=
  nrec_emb e83_4 (fun _ _ _ _ _ _ => none) (fun g => S83_4b D m g) (fun G4 st => E c83_4b [.lp v83_4 G4, .blk 0, .sj v83_3 c83_3, .sj v83_1 c83_1] st) rfl (fun g => T83_4b hE g) m
theorem T83_2 (hE : FX x83 D m E) : S83_2 D m = e83_2 (E c83_2 [.sj v83_1 c83_1]) := by unfold S83_2; rw [T83_4 hE, hE c83_2]; kernel_rfl
theorem T83_0 (hE : FX x83 D m E) : S83_0 D m = e83_0 (E c83_0 []) := by unfold S83_0; rw [T83_2 hE, T83_1 hE, hE c83_0]; kernel_rfl
theorem T83_7 (hE : FX x83 D m E) : S83_7 D m = e83_7 (E c83_e []) := by unfold S83_7; rw [T83_0 hE, hE c83_e]; kernel_rfl
theorem X83 : XTie S83 x83 := X_of fun D m E hE args h u => by unfold S83; rw [T83_7 hE]; kernel_rfl
/- 84 -/
def c84_e : XC := (.sO [.al p0 (.new [.nils, (kI 0), (kI 0), (kI 0), (kI 0), (kI 0), (kI 0)])] (.sO [.P p2 (.build [.nils, (kI 0), (kI 0), (kI 0), (kI 0), (kI 0), (kI 0)] []) .v, .al p1 (.new [.nils, (kI 0), (kI 0), (kI 0), (kI 0), (kI 0), (kI 0)]), .ss 7 q1 q2] (.sO [.L p3 (.cells 7 q1) .v, .P p4 (.build [(.str []), (kI 0), (kI 0)] [⟨1, 1, (ci 1)⟩]) .v, .al p5 (.bsl [(.str []), (kI 0), (kI 0)] 1 [⟨0, 3, q4⟩]), .P p6 (.build [(.bool false), (.bool false), (.bool false), (.str []), (kI 0), (kI 0), .nils, (.bool false), .nils, (kI 0), .nils, .nils, (.str []), (kI 0), (kI 0), (kI 0), (kI 0)] [⟨0, 1, (cb true)⟩, ⟨3, 1, (.c (.str [112, 117, 116, 119]))⟩, ⟨8, 1, q5⟩]) .v, .cl p7 126 [q3, q6, (.c (.str [112, 117, 116, 119]))] .v, .ss 7 q1 q7] (.sO [.L p8 (.cells 7 q1) .v, .P p9 (.build [(.str []), (kI 0), (kI 0)] [⟨1, 1, (ci 2)⟩]) .v, .al p10 (.bsl [(.str []), (kI 0), (kI 0)] 1 [⟨0, 3, q9⟩]), .P p11 (.build [(.bool false), (.bool false), (.bool false), (.str []), (kI 0), (kI 0), .nils, (.bool false), .nils, (kI 0), .nils, .nils, (.str []), (kI 0), (kI 0), (kI 0), (kI 0)] [⟨0, 1, (cb true)⟩, ⟨3, 1, (.c (.str [112, 117, 116, 100]))⟩, ⟨8, 1, q10⟩]) .v, .cl p12 126 [q8, q11, (.c (.str [112, 117, 116, 100]))] .v, .ss 7 q1 q12] (.sO [.L p13 (.cells 7 q1) .v, .P p14 (.build [(.bool false), (.bool false), (.bool false), (.str []), (kI 0), (kI 0), .nils, (.bool false), .nils, (kI 0), .nils, .nils, (.str []), (kI 0), (kI 0), (kI 0), (kI 0)] [⟨0, 1, (cb true)⟩, ⟨3, 1, (.c (.str [103, 101, 116, 119]))⟩, ⟨4, 1, (ci 1)⟩]) .v, .cl p15 126 [q13, q14, (.c (.str [103, 101, 116, 119]))] .v, .ss 7 q1 q15] (.sO [.fa p16 1 q1, .st q16 (ci 1)] (.sO [.L p17 (.cells 7 q1) .v, .ss 7 q0 q17] (.s .ret))))))))
def x84 : XFn := ⟨[], false, [(.cells 7 p0)], c84_e⟩
def e84_0 (k h) := kN k [] h
def S84_0 (D : CallD) (m : Nat) (h : HP) : Res2 :=
 let t0 := AV.ptr (HP.nxQ h) 0
 let h1 := HP.newQ h (.cells true [.nils, (kI 0), (kI 0), (kI 0), (kI 0), (kI 0), (kI 0)])
 let t2 := (AV.agg [(.nils : AV), (vI (Int.ofNat 0)), (vI (Int.ofNat 0)), (vI (Int.ofNat 0)), (vI (Int.ofNat 0)), (vI (Int.ofNat 0)), (vI (Int.ofNat 0))])
 let t1 := AV.ptr (HP.nxQ h1) 0
 let h2 := HP.newQ h1 (.cells true [.nils, (kI 0), (kI 0), (kI 0), (kI 0), (kI 0), (kI 0)])
 stsC 7 t1 t2 h2 fun h3 =>
 cellsC 7 t1 h3 fun t3 =>
 let t4 := (AV.agg [(vS ([] : LN)), (vI (Int.ofNat 1)), (vI (Int.ofNat 0))])
 let t5 := AV.slice (HP.nxQ h3) 0 1 (.exact 1)
 let h4 := HP.newQ h3 (.cells true [(vS ([] : LN)), (vI (Int.ofNat 1)), (vI (Int.ofNat 0))])
 let t6 := (AV.agg [(vB true), (vB false), (vB false), (vS ([112, 117, 116, 119] : LN)), (vI (Int.ofNat 0)), (vI (Int.ofNat 0)), (.nils : AV), (vB false), t5, (vI (Int.ofNat 0)), (.nils : AV), (.nils : AV), (vS ([] : LN)), (vI (Int.ofNat 0)), (vI (Int.ofNat 0)), (vI (Int.ofNat 0)), (vI (Int.ofNat 0))])
 cal D 126 [t3, t6, (vS ([112, 117, 116, 119] : LN))] h4 fun t7 h5 =>
 stsC 7 t1 t7 h5 fun h6 =>
 cellsC 7 t1 h6 fun t8 =>
 let t9 := (AV.agg [(vS ([] : LN)), (vI (Int.ofNat 2)), (vI (Int.ofNat 0))])
 let t10 := AV.slice (HP.nxQ h6) 0 1 (.exact 1)
 let h7 := HP.newQ h6 (.cells true [(vS ([] : LN)), (vI (Int.ofNat 2)), (vI (Int.ofNat 0))])
 let t11 := (AV.agg [(vB true), (vB false), (vB false), (vS ([112, 117, 116, 100] : LN)), (vI (Int.ofNat 0)), (vI (Int.ofNat 0)), (.nils : AV), (vB false), t10, (vI (Int.ofNat 0)), (.nils : AV), (.nils : AV), (vS ([] : LN)), (vI (Int.ofNat 0)), (vI (Int.ofNat 0)), (vI (Int.ofNat 0)), (vI (Int.ofNat 0))])
 cal D 126 [t8, t11, (vS ([112, 117, 116, 100] : LN))] h7 fun t12 h8 =>
 stsC 7 t1 t12 h8 fun h9 =>
 cellsC 7 t1 h9 fun t13 =>
 let t14 := (AV.agg [(vB true), (vB false), (vB false), (vS ([103, 101, 116, 119] : LN)), (vI (Int.ofNat 1)), (vI (Int.ofNat 0)), (.nils : AV), (vB false), (.nils : AV), (vI (Int.ofNat 0)), (.nils : AV), (.nils : AV), (vS ([] : LN)), (vI (Int.ofNat 0)), (vI (Int.ofNat 0)), (vI (Int.ofNat 0)), (vI (Int.ofNat 0))])
 cal D 126 [t13, t14, (vS ([103, 101, 116, 119] : LN))] h9 fun t15 h10 =>
 stsC 7 t1 t15 h10 fun h11 =>
 let t16 := (AV.ptr (HP.nxQ h1) (Nat.add 0 1))
 stoC t16 (vI (Int.ofNat 1)) h11 fun h12 =>
 cellsC 7 t1 h12 fun t17 =>
 stsC 7 t0 t17 h12 fun h13 =>
 cellsC 7 t0 h13 fun t0a =>
 some (.ret t0a h13, .no)
def S84 : SFn := fun D m args h u => nou u <| endA args (S84_0 D m h)
theorem T84_0 (hE : FX x84 D m E) : S84_0 D m = e84_0 (E c84_e []) := by unfold S84_0; rw [hE c84_e]; kernel_rfl
theorem X84 : XTie S84 x84 := X_of fun D m E hE args h u => by unfold S84; rw [T84_0 hE]; kernel_rfl
/- 85 -/
def v85_7 : List Pos := [p3, p4, p6, p7]
def c85_7 : XC := (.seq (.ops true (XL.of [.L p280 (.cells 7 q3) .v, .L p282 (.cells 17 q4) .v, .o ⟨(some p281), (.call (.fn 134) [q280]), none, [⟨none, .cells 17 q4, p282⟩]⟩ .v, .o ⟨none, (.e (.stores 7 q6 q281)), none, [⟨none, .cells 17 q4, p282⟩]⟩ .v, .ss 17 q7 q282])) (.s .ret))
def v85_6 : List Pos := [p3, p4, p6, p7, p15]
def c85_6 : XC := (.sO [.mv p257 q15 .v, .fa p258 6 q4, .st q258 q257] (.sj v85_7 (.sO [.fa p259 0 q4, .ld p260 q259 .b, .mv p261 q260 .b, .ge p261 (XL.of [.G p261 true p262 (.faddr 7 q4) .v, .o ⟨(some p263), (.l (.cell q262)), (some (p261, true)), []⟩ .b, .P p264 (.pick q261 q263 (cb false)) .b]) p264 .b, .mv p265 q264 .b, .ge p265 (XL.of [.G p265 true p266 (.faddr 5 q3) .v, .o ⟨(some p267), (.l (.cell q266)), (some (p265, true)), []⟩ tI, .G p265 true p268 (.bin .eql q267 (ci 0)) .b, .P p269 (.pick q265 q268 (cb false)) .b]) p269 .b] (.cond q269 (.s (.oX [.L p271 (.cells 7 q3) .v, .fa p272 9 q4, .fa p273 2 q272, .ld p274 q273 .v, .cl p275 133 [q271, q274] .v, .mv p270 q275 .v, .P p276 (.ext q270 0) .v, .P p277 (.ext q270 1) .v, .ss 7 q3 q276, .fa p278 9 q4, .fa p279 2 q278, .st q279 q277])) (.s .skip))) c85_7))
def v85_9 : List Pos := [p3, p4, p6, p7, p15, p216, p217]
def c85_9 : XC := (.s (.oX [.bn p256 .add q217 (ci 1) tI, .mv p217 q256 tI]))
def v85_10 : List Pos := [p3, p4, p6, p7, p15, p17, p216, p217]
def c85_10 : XC := (.s (.oX [.mv p252 q15 .v, .L p253 (.cells 8 q17) .v, .al p254 (.bsl [(kI 0), (.str []), (.str []), (.int .u32 (.ofNat 0)), (.int .u64 (.ofNat 0)), .nils, (kI 0), (kI 0)] 1 [⟨0, 8, q253⟩]), .o ⟨(some p255), (.e (.app 8 96 q252 q254)), none, []⟩ .v, .mv p15 q255 .v]))
def v85_8 : List Pos := [p3, p4, p6, p7, p15, p216, p217]
def c85_8b : XC := (.sO [.bn p218 .lss q217 q216 .b] (.seq (.cond q218 .skip (.exit 6)) (.sj v85_9 (.block 7 (.sO [.mv p219 q217 tI, .mv p16 q219 tI] (.sO [.P p220 (.build [(kI 0), (.str []), (.str []), (.int .u32 (.ofNat 0)), (.int .u64 (.ofNat 0)), .nils, (kI 0), (kI 0)] []) .v, .al p17 (.new [(kI 0), (.str []), (.str []), (.int .u32 (.ofNat 0)), (.int .u64 (.ofNat 0)), .nils, (kI 0), (kI 0)]), .ss 8 q17 q220] (.seq (.ops true (XL.of [.L p222 (.cells 7 q3) .v, .fa p223 6 q4, .ld p224 q223 .v, .mv p225 q16 tI, .P p226 (.iaddr (.sl 8) q224 q225) .v, .L p227 (.cells 8 q226) .v, .fa p228 4 q4, .ld p229 q228 tI, .fa p230 6 q4, .ld p231 q230 .v, .mv p232 q16 tI, .P p233 (.iaddr (.sl 8) q231 q232) .v, .fa p234 7 q233, .ld p235 q234 tI, .cl p236 132 [q222, q227, q229, q235] .v, .mv p221 q236 .v, .P p237 (.ext q221 0) .v, .P p238 (.ext q221 1) .v, .ss 7 q3 q237, .ss 8 q17 q238])) (.sj v85_10 (.sO [.fa p239 5 q4, .ld p240 q239 tI, .bn p241 .gtr q240 (ci 0) .b, .mv p242 q241 .b, .ge p242 (XL.of [.G p242 true p243 (.mov q16) tI, .G p242 true p244 (.faddr 5 q4) .v, .o ⟨(some p245), (.l (.cell q244)), (some (p242, true)), []⟩ tI, .G p242 true p246 (.bin .geq q243 q245) .b, .P p247 (.pick q242 q246 (cb false)) .b]) p247 .b] (.cond q247 (.s (.oX [.L p248 (.cells 7 q3) .v, .fa p249 7 q17, .ld p250 q249 tI, .cl p251 86 [q248, (ci 1), q250] .v, .ss 7 q3 q251])) (.s .skip))) c85_10))))) c85_9)))
def v85_5 : List Pos := [p3, p4, p6, p7, p10]
def c85_5 : XC := (.sO [.mv p212 q10 .v, .fa p213 8 q4, .st q213 q212] (.sO [.mv p15 (.c .nils) .v] (.sj v85_6 (.sO [.fa p214 6 q4, .ld p215 q214 .v, .P p216 (.lenl q215) tI, .mv p217 (ci 0) tI] (.block 6 (.loop v85_8 c85_8b))) c85_6)))
def v85_12 : List Pos := [p3, p4, p6, p7, p10, p161, p162]
def c85_12 : XC := (.s (.oX [.bn p211 .add q162 (ci 1) tI, .mv p162 q211 tI]))
def v85_14 : List Pos := [p3, p4, p6, p7, p10, p12, p161, p162]
def c85_14 : XC := (.sO [.L p197 (.cells 7 q3) .v, .fa p198 0 q12, .ld p199 q198 .s, .fa p200 1 q12, .ld p201 q200 tI, .P p202 (.build [(.bool false), (.bool false), (.bool false), (.str []), (kI 0), (kI 0), .nils, (.bool false), .nils, (kI 0), .nils, .nils, (.str []), (kI 0), (kI 0), (kI 0), (kI 0)] [⟨3, 1, q199⟩, ⟨4, 1, q201⟩]) .v, .cl p203 131 [q197, q202] .v, .mv p196 q203 .v, .P p204 (.ext q196 0) .v, .P p205 (.ext q196 1) .s, .ss 7 q3 q204, .fa p206 0 q12, .st q206 q205] (.s (.oX [.mv p207 q10 .v, .L p208 (.cells 3 q12) .v, .al p209 (.bsl [(.str []), (kI 0), (kI 0)] 1 [⟨0, 3, q208⟩]), .o ⟨(some p210), (.e (.app 3 32 q207 q209)), none, []⟩ .v, .mv p10 q210 .v])))
def v85_13 : List Pos := [p3, p4, p6, p7, p10, p12, p161, p162]
def c85_13 : XC := (.sj v85_14 (.sO [.L p178 (.cells 7 q3) .v, .fa p179 0 q12, .ld p180 q179 .s, .cl p181 130 [q178, q180] .v, .mv p177 q181 .v, .P p182 (.ext q177 0) .v, .P p183 (.ext q177 1) .b, .al p13 (.new [(.bool false), (.bool false), (.bool false), (.str []), (kI 0), (kI 0), .nils, (.bool false), .nils, (kI 0), .nils, .nils, (.str []), (kI 0), (kI 0), (kI 0), (kI 0), (.str []), (kI 0)]), .ss 19 q13 q182, .mv p14 q183 .b] (.sO [.mv p184 q14 .b, .mv p185 q184 .b, .ge p185 (XL.of [.G p185 true p186 (.faddr 18 q13) .v, .o ⟨(some p187), (.l (.cell q186)), (some (p185, true)), []⟩ tI, .G p185 true p188 (.faddr 1 q3) .v, .o ⟨(some p189), (.l (.cell q188)), (some (p185, true)), []⟩ tI, .G p185 true p190 (.bin .eql q187 q189) .b, .P p191 (.pick q185 q190 (cb false)) .b]) p191 .b] (.cond q191 (.s (.oX [.L p192 (.cells 7 q3) .v, .fa p193 2 q12, .ld p194 q193 tI, .cl p195 86 [q192, (ci 13), q194] .v, .ss 7 q3 q195])) (.s .skip)))) c85_14)
def v85_11 : List Pos := [p3, p4, p6, p7, p10, p161, p162]
def c85_11b : XC := (.sO [.bn p163 .lss q162 q161 .b] (.seq (.cond q163 .skip (.exit 4)) (.sj v85_12 (.block 5 (.sO [.mv p164 q162 tI, .mv p11 q164 tI] (.sO [.fa p165 8 q4, .ld p166 q165 .v, .mv p167 q11 tI, .P p168 (.iaddr (.sl 3) q166 q167) .v, .L p169 (.cells 3 q168) .v, .al p12 (.new [(.str []), (kI 0), (kI 0)]), .ss 3 q12 q169] (.sj v85_13 (.sO [.fa p170 1 q12, .ld p171 q170 tI, .bn p172 .eql q171 (ci 0) .b] (.cond q172 (.s (.oX [.L p173 (.cells 7 q3) .v, .fa p174 2 q12, .ld p175 q174 tI, .cl p176 86 [q173, (ci 14), q175] .v, .ss 7 q3 q176])) (.s .skip))) c85_13)))) c85_12)))
def v85_4 : List Pos := [p3, p4, p6, p7]
def c85_4 : XC := (.sO [.L p149 (.cells 7 q3) .v, .L p150 (.cells 17 q4) .v, .fa p151 3 q4, .ld p152 q151 .s, .cl p153 126 [q149, q150, q152] .v, .cl p154 129 [q153] .v, .ss 7 q3 q154] (.sO [.fa p155 4 q4, .ld p156 q155 tI, .fa p157 2 q3, .st q157 q156] (.sO [.fa p158 3 q3, .st q158 (ci 0)] (.sO [.mv p10 (.c .nils) .v] (.sj v85_5 (.sO [.fa p159 8 q4, .ld p160 q159 .v, .P p161 (.lenl q160) tI, .mv p162 (ci 0) tI] (.block 4 (.loop v85_11 c85_11b))) c85_5)))))
def v85_3 : List Pos := [p3, p4, p6, p7]
def c85_3 : XC := (.sj v85_4 (.sO [.fa p122 3 q4, .ld p123 q122 .s, .bn p124 .eql q123 (.c (.str [109, 97, 105, 110])) .b, .mv p125 q124 .b, .ge p125 (XL.of [.G p125 true p126 (.faddr 0 q4) .v, .o ⟨(some p127), (.l (.cell q126)), (some (p125, true)), []⟩ .b, .G p125 true p128 (.un .not q127) .b, .G p125 true p129 (.mov q128) .b, .ge p129 (XL.of [.G p129 false p130 (.faddr 1 q4) .v, .o ⟨(some p131), (.l (.cell q130)), (some (p129, false)), []⟩ .b, .G p125 true p132 (.pick q129 (cb true) q131) .b]) p132 .b, .G p125 true p133 (.mov q132) .b, .ge p133 (XL.of [.G p133 false p134 (.faddr 4 q4) .v, .o ⟨(some p135), (.l (.cell q134)), (some (p133, false)), []⟩ tI, .G p133 false p136 (.bin .neq q135 (ci 1)) .b, .G p125 true p137 (.pick q133 (cb true) q136) .b]) p137 .b, .G p125 true p138 (.mov q137) .b, .ge p138 (XL.of [.G p138 false p139 (.faddr 8 q4) .v, .o ⟨(some p140), (.l (.cell q139)), (some (p138, false)), []⟩ .v, .G p138 false p141 (.lenl q140) tI, .G p138 false p142 (.bin .gtr q141 (ci 0)) .b, .G p125 true p143 (.pick q138 (cb true) q142) .b]) p143 .b, .P p144 (.pick q125 q143 (cb false)) .b]) p144 .b] (.cond q144 (.s (.oX [.L p145 (.cells 7 q3) .v, .fa p146 16 q4, .ld p147 q146 tI, .cl p148 86 [q145, (ci 14), q147] .v, .ss 7 q3 q148])) (.s .skip))) c85_4)
def c85_18 : XC := (.cond q117 (.s (.oX [.L p118 (.cells 7 q3) .v, .fa p119 16 q4, .ld p120 q119 tI, .cl p121 86 [q118, (ci 14), q120] .v, .ss 7 q3 q121])) (.s .skip))
def l85_17 : XL := (XL.of [])
def l85_16 : XL := (XL.pre [.G p94 true p109 (.mov q108) .b, .ge p109 (XL.of [.G p109 false p110 (.faddr 2 q4) .v, .o ⟨(some p111), (.l (.cell q110)), (some (p109, false)), []⟩ .b, .G p109 false p112 (.mov q111) .b, .ge p112 (XL.of [.G p112 true p113 (.faddr 7 q4) .v, .o ⟨(some p114), (.l (.cell q113)), (some (p112, true)), []⟩ .b, .G p109 false p115 (.pick q112 q114 (cb false)) .b]) p115 .b, .G p94 true p116 (.pick q109 (cb true) q115) .b]) p116 .b, .P p117 (.pick q94 q116 (cb false)) .b, .jn p94 [p3, p4, p6, p7, p117]] l85_17)
def l85_15 : XL := (XL.pre [.G p94 true p108 (.pick q98 (cb true) q107) .b, .jn p98 [p3, p4, p6, p7, p94, p108]] l85_16)
def v85_2 : List Pos := [p3, p4, p6, p7]
def c85_2 : XC := (.sj v85_3 (.opq false (XL.pre [.fa p91 0 q4, .ld p92 q91 .b, .P p93 (.un .not q92) .b, .mv p94 q93 .b, .sp p94, .G p94 true p95 (.faddr 4 q4) .v, .o ⟨(some p96), (.l (.cell q95)), (some (p94, true)), []⟩ tI, .G p94 true p97 (.bin .eql q96 (ci 0)) .b, .G p94 true p98 (.mov q97) .b, .sp p98, .G p98 false p99 (.faddr 5 q4) .v, .o ⟨(some p100), (.l (.cell q99)), (some (p98, false)), []⟩ tI, .G p98 false p101 (.bin .gtr q100 (ci 0)) .b, .G p98 false p102 (.mov q101) .b, .sp p102, .G p102 true p103 (.faddr 4 q4) .v, .o ⟨(some p104), (.l (.cell q103)), (some (p102, true)), []⟩ tI, .o ⟨(some p105), (.call (.fn 128) [q104]), (some (p102, true)), []⟩ .b, .G p102 true p106 (.un .not q105) .b, .G p98 false p107 (.pick q102 q106 (cb false)) .b, .jn p102 [p3, p4, p6, p7, p94, p98, p107]] l85_15) c85_18) c85_3)
def v85_20 : List Pos := [p2, p3, p4, p6, p7, p65, p66]
def c85_20 : XC := (.s (.oX [.bn p90 .add q66 (ci 1) tI, .mv p66 q90 tI]))
def c85_22 : XC := (.cond q85 (.s (.oX [.L p86 (.cells 7 q3) .v, .fa p87 16 q4, .ld p88 q87 tI, .cl p89 86 [q86, (ci 14), q88] .v, .ss 7 q3 q89])) (.s .skip))
def l85_21 : XL := (XL.of [])
def v85_19 : List Pos := [p2, p3, p4, p6, p7, p65, p66]
def c85_19b : XC := (.sO [.bn p67 .lss q66 q65 .b] (.seq (.cond q67 .skip (.exit 2)) (.sj v85_20 (.block 3 (.sO [.mv p68 q66 tI, .mv p9 q68 tI] (.opq true (XL.pre [.mv p69 q2 .v, .mv p70 q9 tI, .P p71 (.iaddr (.sl 17) q69 q70) .v, .fa p72 3 q71, .ld p73 q72 .s, .fa p74 3 q4, .ld p75 q74 .s, .bn p76 .eql q73 q75 .b, .mv p77 q76 .b, .sp p77, .G p77 true p78 (.mov q2) .v, .G p77 true p79 (.mov q9) tI, .G p77 true p80 (.iaddr (.sl 17) q78 q79) .v, .o ⟨(some p81), (.l (.cells 17 q80)), (some (p77, true)), []⟩ .v, .o ⟨(some p82), (.l (.cells 17 q4)), (some (p77, true)), []⟩ .v, .o ⟨(some p83), (.call (.fn 69) [q81, q82]), (some (p77, true)), []⟩ .b, .G p77 true p84 (.un .not q83) .b, .P p85 (.pick q77 q84 (cb false)) .b, .jn p77 [p2, p3, p4, p6, p7, p65, p66, p85]] l85_21) c85_22))) c85_20)))
def v85_1 : List Pos := [p2, p3, p4, p6, p7]
def c85_1 : XC := (.sj v85_2 (.sO [.mv p64 q2 .v, .P p65 (.lenl q64) tI, .mv p66 (ci 0) tI] (.block 2 (.loop v85_19 c85_19b))) c85_2)
def v85_24 : List Pos := [p2, p3, p4, p6, p7, p26, p27]
def c85_24 : XC := (.s (.oX [.bn p63 .add q27 (ci 1) tI, .mv p27 q63 tI]))
def c85_28 : XC := (.cond q58 (.s (.oX [.L p59 (.cells 7 q3) .v, .fa p60 16 q4, .ld p61 q60 tI, .cl p62 86 [q59, (ci 13), q61] .v, .ss 7 q3 q62])) (.s .skip))
def l85_27 : XL := (XL.of [])
def l85_26 : XL := (XL.pre [.P p58 (.pick q38 q57 (cb false)) .b, .jn p38 [p2, p3, p4, p6, p7, p26, p27, p58]] l85_27)
def l85_25 : XL := (XL.pre [.G p38 true p57 (.pick q47 (cb true) q56) .b, .jn p47 [p2, p3, p4, p6, p7, p26, p27, p38, p57]] l85_26)
def v85_23 : List Pos := [p2, p3, p4, p6, p7, p26, p27]
def c85_23b : XC := (.sO [.bn p28 .lss q27 q26 .b] (.seq (.cond q28 .skip (.exit 0)) (.sj v85_24 (.block 1 (.sO [.mv p29 q27 tI, .mv p8 q29 tI] (.opq true (XL.pre [.mv p30 q2 .v, .mv p31 q8 tI, .P p32 (.iaddr (.sl 17) q30 q31) .v, .fa p33 3 q32, .ld p34 q33 .s, .fa p35 3 q4, .ld p36 q35 .s, .bn p37 .eql q34 q36 .b, .mv p38 q37 .b, .sp p38, .G p38 true p39 (.mov q2) .v, .G p38 true p40 (.mov q8) tI, .G p38 true p41 (.iaddr (.sl 17) q39 q40) .v, .G p38 true p42 (.faddr 0 q41) .v, .o ⟨(some p43), (.l (.cell q42)), (some (p38, true)), []⟩ .b, .G p38 true p44 (.faddr 0 q4) .v, .o ⟨(some p45), (.l (.cell q44)), (some (p38, true)), []⟩ .b, .G p38 true p46 (.eqb true q43 q45) .b, .G p38 true p47 (.mov q46) .b, .sp p47, .G p47 false p48 (.mov q2) .v, .G p47 false p49 (.mov q8) tI, .G p47 false p50 (.iaddr (.sl 17) q48 q49) .v, .o ⟨(some p51), (.l (.cells 17 q50)), (some (p47, false)), []⟩ .v, .o ⟨(some p52), (.call (.fn 68) [q51]), (some (p47, false)), []⟩ .b, .G p47 false p53 (.mov q52) .b, .sp p53, .o ⟨(some p54), (.l (.cells 17 q4)), (some (p53, true)), []⟩ .v, .o ⟨(some p55), (.call (.fn 68) [q54]), (some (p53, true)), []⟩ .b, .G p47 false p56 (.pick q53 q55 (cb false)) .b, .jn p53 [p2, p3, p4, p6, p7, p26, p27, p38, p47, p56]] l85_25) c85_28))) c85_24)))
def v85_0 : List Pos := [p2, p3, p4, p6, p7]
def c85_0 : XC := (.sj v85_1 (.sO [.mv p25 q2 .v, .P p26 (.lenl q25) tI, .mv p27 (ci 0) tI] (.block 0 (.loop v85_23 c85_23b))) c85_1)
def c85_e : XC := (.sO [.al p3 (.box q0), .al p4 (.box q1), .al p6 (.new [.nils, (kI 0), (kI 0), (kI 0), (kI 0), (kI 0), (kI 0)]), .al p7 (.new [(.bool false), (.bool false), (.bool false), (.str []), (kI 0), (kI 0), .nils, (.bool false), .nils, (kI 0), .nils, .nils, (.str []), (kI 0), (kI 0), (kI 0), (kI 0)])] (.sj v85_0 (.sO [.fa p18 3 q4, .ld p19 q18 .s, .cl p20 127 [q19] .b] (.cond q20 (.s (.oX [.L p21 (.cells 7 q3) .v, .fa p22 16 q4, .ld p23 q22 tI, .cl p24 86 [q21, (ci 13), q23] .v, .ss 7 q3 q24])) (.s .skip))) c85_0))
def x85 : XFn := ⟨[.v, .v, .v], false, [(.cells 7 p6), (.cells 17 p7)], c85_e⟩
def e85_7 (k t3 t4 t6 t7 h) := kN k [(p3, t3), (p4, t4), (p6, t6), (p7, t7)] h
def S85_7 (D : CallD) (m : Nat) (t3 t4 t6 t7 : AV) (h : HP) : Res2 :=
 cellsC 7 t3 h fun t280 =>
 cellsC 17 t4 h fun t282 =>
 cal D 134 [t280] h fun t281 h41 =>
 br (again [⟨none, .cells 17 q4, p282⟩] (mkT [(p282, t282), (p4, t4)]) h41) (
 stsC 7 t6 t281 h41 fun h42 =>
 br (againE (.stores 7 q6 q281) [⟨none, .cells 17 q4, p282⟩] (mkT [(p6, t6), (p282, t282), (p4, t4)]) h42) (
 stsC 17 t7 t282 h42 fun h43 =>
 cellsC 7 t6 h43 fun t6a =>
 cellsC 17 t7 h43 fun t7a =>
 some (.ret (.tup [t6a, t7a]) h43, .no)) none) none
def e85_6 (k t3 t4 t6 t7 t15 h) := kN k [(p3, t3), (p4, t4), (p6, t6), (p7, t7), (p15, t15)] h
def S85_6 (D : CallD) (m : Nat) (t3 t4 t6 t7 t15 : AV) (h : HP) : Res2 :=
 faC 6 t4 fun t258 =>
 stoC t258 t15 h fun h40 =>
 faC 0 t4 fun t259 =>
 ldB t259 h40 fun t260 =>
 obB (brV t260 (
 faCV 7 t4 fun t262 =>
 ldBV t262 h40 fun t263 =>
 some (vB t263)) (
 some (vB false))) fun t264 =>
 obB (brV t264 (
 faCV 5 t3 fun t266 =>
 ldIV t266 h40 fun t267 =>
 let t268 := eqQ t267 (Int.ofNat 0)
 some (vB t268)) (
 some (vB false))) fun t269 =>
 br t269 (
 cellsC 7 t3 h40 fun t271 =>
 faC 9 t4 fun t272 =>
 faC 2 t272 fun t273 =>
 cellC t273 h40 fun t274 =>
 cal D 133 [t271, t274] h40 fun t275 h44 =>
 extC t275 0 fun t276 =>
 extC t275 1 fun t277 =>
 stsC 7 t3 t276 h44 fun h45 =>
 faC 9 t4 fun t278 =>
 faC 2 t278 fun t279 =>
 stoC t279 t277 h45 fun h46 =>
 S85_7 D m t3 t4 t6 t7 h46) (
 S85_7 D m t3 t4 t6 t7 h40)
def e85_9 (k t3 t4 t6 t7 t15 t216 t217 h) := kN k [(p3, t3), (p4, t4), (p6, t6), (p7, t7), (p15, t15), (p216, (vI t216)), (p217, (vI t217))] h
def S85_9 (D : CallD) (m : Nat) (g8 : AV → AV → AV → AV → AV → Int → Int → HP → Res2) (t3 t4 t6 t7 t15 : AV) (t216 t217 : Int) (h : HP) : Res2 :=
 let t256 := wrQ .i64 (addQ t217 (Int.ofNat 1))
 g8 t3 t4 t6 t7 t15 t216 t256 h
def e85_10 (k t3 t4 t6 t7 t15 t17 t216 t217 h) := kN k [(p3, t3), (p4, t4), (p6, t6), (p7, t7), (p15, t15), (p17, t17), (p216, (vI t216)), (p217, (vI t217))] h
def S85_10 (D : CallD) (m : Nat) (g8 : AV → AV → AV → AV → AV → Int → Int → HP → Res2) (t3 t4 t6 t7 t15 t17 : AV) (t216 t217 : Int) (h : HP) : Res2 :=
 cellsC 8 t17 h fun t253 =>
 obQ (evA (.bsl [(kI 0), (.str []), (.str []), (.int .u32 (.ofNat 0)), (.int .u64 (.ofNat 0)), .nils, (kI 0), (kI 0)] 1 [⟨0, 8, (.c t253)⟩]) .leaf) fun r52 =>
 let t254 := vkV r52.2 (HP.nxQ h)
 let h53 := HP.newQ h r52.1
 eff (.app 8 96 (.c t15) (.c t254)) h53 fun t255 h54 =>
 S85_9 D m g8 t3 t4 t6 t7 t255 t216 t217 h54
def e85_8 (k t3 t4 t6 t7 t15 t216 t217 h) := kN k [(p3, t3), (p4, t4), (p6, t6), (p7, t7), (p15, t15), (p216, (vI t216)), (p217, (vI t217))] h
def S85_8b (D : CallD) (m : Nat) (g8 : AV → AV → AV → AV → AV → Int → Int → HP → Res2) (t3 t4 t6 t7 t15 : AV) (t216 t217 : Int) (h : HP) : Res2 :=
 let t218 := ltQ t217 t216
 br t218 (
 let t220 := (AV.agg [(vI (Int.ofNat 0)), (vS ([] : LN)), (vS ([] : LN)), (vW (Int.ofNat 0)), (AV.int .u64 (Int.ofNat 0)), (.nils : AV), (vI (Int.ofNat 0)), (vI (Int.ofNat 0))])
 let t17 := AV.ptr (HP.nxQ h) 0
 let h47 := HP.newQ h (.cells true [(kI 0), (.str []), (.str []), (.int .u32 (.ofNat 0)), (.int .u64 (.ofNat 0)), .nils, (kI 0), (kI 0)])
 stsC 8 t17 t220 h47 fun h48 =>
 cellsC 7 t3 h48 fun t222 =>
 faC 6 t4 fun t223 =>
 cellC t223 h48 fun t224 =>
 iasC 8 t224 (vI t217) fun t226 =>
 cellsC 8 t226 h48 fun t227 =>
 faC 4 t4 fun t228 =>
 ldI t228 h48 fun t229 =>
 faC 6 t4 fun t230 =>
 cellC t230 h48 fun t231 =>
 iasC 8 t231 (vI t217) fun t233 =>
 faC 7 t233 fun t234 =>
 ldI t234 h48 fun t235 =>
 cal D 132 [t222, t227, (vI t229), (vI t235)] h48 fun t236 h49 =>
 extC t236 0 fun t237 =>
 extC t236 1 fun t238 =>
 stsC 7 t3 t237 h49 fun h50 =>
 stsC 8 t17 t238 h50 fun h51 =>
 faC 5 t4 fun t239 =>
 ldI t239 h51 fun t240 =>
 let t241 := ltQ (Int.ofNat 0) t240
 obB (brV t241 (
 faCV 5 t4 fun t244 =>
 ldIV t244 h51 fun t245 =>
 let t246 := leQ t245 t217
 some (vB t246)) (
 some (vB false))) fun t247 =>
 br t247 (
 cellsC 7 t3 h51 fun t248 =>
 let t249 := (AV.ptr (HP.nxQ h) (Nat.add 0 7))
 ldI t249 h51 fun t250 =>
 cal D 86 [t248, (vI (Int.ofNat 1)), (vI t250)] h51 fun t251 h55 =>
 stsC 7 t3 t251 h55 fun h56 =>
 S85_10 D m g8 t3 t4 t6 t7 t15 t17 t216 t217 h56) (
 S85_10 D m g8 t3 t4 t6 t7 t15 t17 t216 t217 h51)) (
 S85_6 D m t3 t4 t6 t7 t15 h)
def S85_8 (D : CallD) (m : Nat) : AV → AV → AV → AV → AV → Int → Int → HP → Res2 := nrec (fun _ _ _ _ _ _ _ _ => none) (fun _ g => S85_8b D m g) m
def e85_5 (k t3 t4 t6 t7 t10 h) := kN k [(p3, t3), (p4, t4), (p6, t6), (p7, t7), (p10, t10)] h
def S85_5 (D : CallD) (m : Nat) (t3 t4 t6 t7 t10 : AV) (h : HP) : Res2 :=
 faC 8 t4 fun t213 =>
 stoC t213 t10 h fun h39 =>
 faC 6 t4 fun t214 =>
 cellC t214 h39 fun t215 =>
 lenC t215 fun vt216 => asI .i64 vt216 fun t216 =>
 S85_8 D m t3 t4 t6 t7 (.nils : AV) t216 (Int.ofNat 0) h39
def e85_12 (k t3 t4 t6 t7 t10 t161 t162 h) := kN k [(p3, t3), (p4, t4), (p6, t6), (p7, t7), (p10, t10), (p161, (vI t161)), (p162, (vI t162))] h
def S85_12 (D : CallD) (m : Nat) (g11 : AV → AV → AV → AV → AV → Int → Int → HP → Res2) (t3 t4 t6 t7 t10 : AV) (t161 t162 : Int) (h : HP) : Res2 :=
 let t211 := wrQ .i64 (addQ t162 (Int.ofNat 1))
 g11 t3 t4 t6 t7 t10 t161 t211 h
def e85_14 (k t3 t4 t6 t7 t10 t12 t161 t162 h) := kN k [(p3, t3), (p4, t4), (p6, t6), (p7, t7), (p10, t10), (p12, t12), (p161, (vI t161)), (p162, (vI t162))] h
def S85_14 (D : CallD) (m : Nat) (g11 : AV → AV → AV → AV → AV → Int → Int → HP → Res2) (t3 t4 t6 t7 t10 t12 : AV) (t161 t162 : Int) (h : HP) : Res2 :=
 cellsC 7 t3 h fun t197 =>
 faC 0 t12 fun t198 =>
 ldS t198 h fun t199 =>
 faC 1 t12 fun t200 =>
 ldI t200 h fun t201 =>
 let t202 := (AV.agg [(vB false), (vB false), (vB false), (vS t199), (vI t201), (vI (Int.ofNat 0)), (.nils : AV), (vB false), (.nils : AV), (vI (Int.ofNat 0)), (.nils : AV), (.nils : AV), (vS ([] : LN)), (vI (Int.ofNat 0)), (vI (Int.ofNat 0)), (vI (Int.ofNat 0)), (vI (Int.ofNat 0))])
 cal D 131 [t197, t202] h fun t203 h59 =>
 extC t203 0 fun t204 =>
 extC t203 1 fun vt205 => asS vt205 fun t205 =>
 stsC 7 t3 t204 h59 fun h60 =>
 faC 0 t12 fun t206 =>
 stoC t206 (vS t205) h60 fun h61 =>
 cellsC 3 t12 h61 fun t208 =>
 obQ (evA (.bsl [(.str []), (kI 0), (kI 0)] 1 [⟨0, 3, (.c t208)⟩]) .leaf) fun r62 =>
 let t209 := vkV r62.2 (HP.nxQ h61)
 let h63 := HP.newQ h61 r62.1
 eff (.app 3 32 (.c t10) (.c t209)) h63 fun t210 h64 =>
 S85_12 D m g11 t3 t4 t6 t7 t210 t161 t162 h64
def e85_13 (k t3 t4 t6 t7 t10 t12 t161 t162 h) := kN k [(p3, t3), (p4, t4), (p6, t6), (p7, t7), (p10, t10), (p12, t12), (p161, (vI t161)), (p162, (vI t162))] h
def S85_13 (D : CallD) (m : Nat) (g11 : AV → AV → AV → AV → AV → Int → Int → HP → Res2) (t3 t4 t6 t7 t10 t12 : AV) (t161 t162 : Int) (h : HP) : Res2 :=
 cellsC 7 t3 h fun t178 =>
 faC 0 t12 fun t179 =>
 ldS t179 h fun t180 =>
 cal D 130 [t178, (vS t180)] h fun t181 h65 =>
 extC t181 0 fun t182 =>
 extC t181 1 fun vt183 => asB vt183 fun t183 =>
 let t13 := AV.ptr (HP.nxQ h65) 0
 let h66 := HP.newQ h65 (.cells true [(.bool false), (.bool false), (.bool false), (.str []), (kI 0), (kI 0), .nils, (.bool false), .nils, (kI 0), .nils, .nils, (.str []), (kI 0), (kI 0), (kI 0), (kI 0), (.str []), (kI 0)])
 stsC 19 t13 t182 h66 fun h67 =>
 obB (brV t183 (
 let t186 := (AV.ptr (HP.nxQ h65) (Nat.add 0 18))
 ldIV t186 h67 fun t187 =>
 faCV 1 t3 fun t188 =>
 ldIV t188 h67 fun t189 =>
 let t190 := eqQ t187 t189
 some (vB t190)) (
 some (vB false))) fun t191 =>
 br t191 (
 cellsC 7 t3 h67 fun t192 =>
 faC 2 t12 fun t193 =>
 ldI t193 h67 fun t194 =>
 cal D 86 [t192, (vI (Int.ofNat 13)), (vI t194)] h67 fun t195 h68 =>
 stsC 7 t3 t195 h68 fun h69 =>
 S85_14 D m g11 t3 t4 t6 t7 t10 t12 t161 t162 h69) (
 S85_14 D m g11 t3 t4 t6 t7 t10 t12 t161 t162 h67)
def e85_11 (k t3 t4 t6 t7 t10 t161 t162 h) := kN k [(p3, t3), (p4, t4), (p6, t6), (p7, t7), (p10, t10), (p161, (vI t161)), (p162, (vI t162))] h
def S85_11b (D : CallD) (m : Nat) (g11 : AV → AV → AV → AV → AV → Int → Int → HP → Res2) (t3 t4 t6 t7 t10 : AV) (t161 t162 : Int) (h : HP) : Res2 :=
 let t163 := ltQ t162 t161
 br t163 (
 faC 8 t4 fun t165 =>
 cellC t165 h fun t166 =>
 iasC 3 t166 (vI t162) fun t168 =>
 cellsC 3 t168 h fun t169 =>
 let t12 := AV.ptr (HP.nxQ h) 0
 let h57 := HP.newQ h (.cells true [(.str []), (kI 0), (kI 0)])
 stsC 3 t12 t169 h57 fun h58 =>
 let t170 := (AV.ptr (HP.nxQ h) (Nat.add 0 1))
 ldI t170 h58 fun t171 =>
 let t172 := eqQ t171 (Int.ofNat 0)
 br t172 (
 cellsC 7 t3 h58 fun t173 =>
 let t174 := (AV.ptr (HP.nxQ h) (Nat.add 0 2))
 ldI t174 h58 fun t175 =>
 cal D 86 [t173, (vI (Int.ofNat 14)), (vI t175)] h58 fun t176 h70 =>
 stsC 7 t3 t176 h70 fun h71 =>
 S85_13 D m g11 t3 t4 t6 t7 t10 t12 t161 t162 h71) (
 S85_13 D m g11 t3 t4 t6 t7 t10 t12 t161 t162 h58)) (
 S85_5 D m t3 t4 t6 t7 t10 h)
def S85_11 (D : CallD) (m : Nat) : AV → AV → AV → AV → AV → Int → Int → HP → Res2 := nrec (fun _ _ _ _ _ _ _ _ => none) (fun _ g => S85_11b D m g) m
def e85_4 (k t3 t4 t6 t7 h) := kN k [(p3, t3), (p4, t4), (p6, t6), (p7, t7)] h
def S85_4 (D : CallD) (m : Nat) (t3 t4 t6 t7 : AV) (h : HP) : Res2 :=
 cellsC 7 t3 h fun t149 =>
 cellsC 17 t4 h fun t150 =>
 faC 3 t4 fun t151 =>
 ldS t151 h fun t152 =>
 cal D 126 [t149, t150, (vS t152)] h fun t153 h34 =>
 cal D 129 [t153] h34 fun t154 h35 =>
 stsC 7 t3 t154 h35 fun h36 =>
 faC 4 t4 fun t155 =>
 ldI t155 h36 fun t156 =>
 faC 2 t3 fun t157 =>
 stoC t157 (vI t156) h36 fun h37 =>
 faC 3 t3 fun t158 =>
 stoC t158 (vI (Int.ofNat 0)) h37 fun h38 =>
 faC 8 t4 fun t159 =>
 cellC t159 h38 fun t160 =>
 lenC t160 fun vt161 => asI .i64 vt161 fun t161 =>
 S85_11 D m t3 t4 t6 t7 (.nils : AV) t161 (Int.ofNat 0) h38
def e85_3 (k t3 t4 t6 t7 h) := kN k [(p3, t3), (p4, t4), (p6, t6), (p7, t7)] h
def S85_3 (D : CallD) (m : Nat) (t3 t4 t6 t7 : AV) (h : HP) : Res2 :=
 faC 3 t4 fun t122 =>
 ldS t122 h fun t123 =>
 let t124 := eqL t123 ([109, 97, 105, 110] : LN)
 obB (brV t124 (
 faCV 0 t4 fun t126 =>
 ldBV t126 h fun t127 =>
 let t128 := !t127
 obBV (brV t128 (
 some (vB true)) (
 faCV 1 t4 fun t130 =>
 ldBV t130 h fun t131 =>
 some (vB t131))) fun t132 =>
 obBV (brV t132 (
 some (vB true)) (
 faCV 4 t4 fun t134 =>
 ldIV t134 h fun t135 =>
 let t136 := notQ (eqQ t135 (Int.ofNat 1))
 some (vB t136))) fun t137 =>
 obBV (brV t137 (
 some (vB true)) (
 faCV 8 t4 fun t139 =>
 cellCV t139 h fun t140 =>
 lenCV t140 fun vt141 => asIV .i64 vt141 fun t141 =>
 let t142 := ltQ (Int.ofNat 0) t141
 some (vB t142))) fun t143 =>
 some (vB t143)) (
 some (vB false))) fun t144 =>
 br t144 (
 cellsC 7 t3 h fun t145 =>
 faC 16 t4 fun t146 =>
 ldI t146 h fun t147 =>
 cal D 86 [t145, (vI (Int.ofNat 14)), (vI t147)] h fun t148 h72 =>
 stsC 7 t3 t148 h72 fun h73 =>
 S85_4 D m t3 t4 t6 t7 h73) (
 S85_4 D m t3 t4 t6 t7 h)
def e85_17 (k t3 t4 t6 t7 t117 h) := kN k [(p3, t3), (p4, t4), (p6, t6), (p7, t7), (p117, (vB t117))] h
def S85_17 (D : CallD) (m : Nat) (t3 t4 t6 t7 : AV) (t117 : Bool) (h : HP) : Res2 :=
 br t117 (
 cellsC 7 t3 h fun t118 =>
 faC 16 t4 fun t119 =>
 ldI t119 h fun t120 =>
 cal D 86 [t118, (vI (Int.ofNat 14)), (vI t120)] h fun t121 h74 =>
 stsC 7 t3 t121 h74 fun h75 =>
 S85_3 D m t3 t4 t6 t7 h75) (
 S85_3 D m t3 t4 t6 t7 h)
def e85_16 (k t3 t4 t6 t7 t108 h) := kN k [(p3, t3), (p4, t4), (p6, t6), (p7, t7), (p94, .bool true), (p108, (vB t108))] h
def S85_16 (D : CallD) (m : Nat) (t3 t4 t6 t7 : AV) (t108 : Bool) (h : HP) : Res2 :=
 obB (brV t108 (
 some (vB true)) (
 faCV 2 t4 fun t110 =>
 ldBV t110 h fun t111 =>
 obBV (brV t111 (
 faCV 7 t4 fun t113 =>
 ldBV t113 h fun t114 =>
 some (vB t114)) (
 some (vB false))) fun t115 =>
 some (vB t115))) fun t116 =>
 S85_17 D m t3 t4 t6 t7 t116 h
def e85_15 (k t3 t4 t6 t7 t98 t107 h) := kN k [(p3, t3), (p4, t4), (p6, t6), (p7, t7), (p94, .bool true), (p98, (vB t98)), (p107, (vB t107))] h
def S85_15 (D : CallD) (m : Nat) (t3 t4 t6 t7 : AV) (t98 t107 : Bool) (h : HP) : Res2 :=
 obB (brV t98 (some (vB true)) (some (vB t107))) fun t108 =>
 S85_16 D m t3 t4 t6 t7 t108 h
def e85_2 (k t3 t4 t6 t7 h) := kN k [(p3, t3), (p4, t4), (p6, t6), (p7, t7)] h
def S85_2 (D : CallD) (m : Nat) (t3 t4 t6 t7 : AV) (h : HP) : Res2 :=
 faC 0 t4 fun t91 =>
 ldB t91 h fun t92 =>
 let t93 := !t92
 br t93 (
 faC 4 t4 fun t95 =>
 ldI t95 h fun t96 =>
 let t97 := eqQ t96 (Int.ofNat 0)
 br t97 (
 S85_16 D m t3 t4 t6 t7 true h) (
 faC 5 t4 fun t99 =>
 ldI t99 h fun t100 =>
 let t101 := ltQ (Int.ofNat 0) t100
 br t101 (
 faC 4 t4 fun t103 =>
 ldI t103 h fun t104 =>
 cal D 128 [(vI t104)] h fun t105 h76 =>
 asB t105 fun t105a =>
 let t106 := !t105a
 S85_15 D m t3 t4 t6 t7 false t106 h76) (
 S85_15 D m t3 t4 t6 t7 false false h))) (
 S85_17 D m t3 t4 t6 t7 false h)
def e85_20 (k t2 t3 t4 t6 t7 t65 t66 h) := kN k [(p2, t2), (p3, t3), (p4, t4), (p6, t6), (p7, t7), (p65, (vI t65)), (p66, (vI t66))] h
def S85_20 (D : CallD) (m : Nat) (g19 : AV → AV → AV → AV → AV → Int → Int → HP → Res2) (t2 t3 t4 t6 t7 : AV) (t65 t66 : Int) (h : HP) : Res2 :=
 let t90 := wrQ .i64 (addQ t66 (Int.ofNat 1))
 g19 t2 t3 t4 t6 t7 t65 t90 h
def e85_21 (k t2 t3 t4 t6 t7 t65 t66 t85 h) := kN k [(p2, t2), (p3, t3), (p4, t4), (p6, t6), (p7, t7), (p65, (vI t65)), (p66, (vI t66)), (p85, (vB t85))] h
def S85_21 (D : CallD) (m : Nat) (g19 : AV → AV → AV → AV → AV → Int → Int → HP → Res2) (t2 t3 t4 t6 t7 : AV) (t65 t66 : Int) (t85 : Bool) (h : HP) : Res2 :=
 br t85 (
 cellsC 7 t3 h fun t86 =>
 faC 16 t4 fun t87 =>
 ldI t87 h fun t88 =>
 cal D 86 [t86, (vI (Int.ofNat 14)), (vI t88)] h fun t89 h78 =>
 stsC 7 t3 t89 h78 fun h79 =>
 S85_20 D m g19 t2 t3 t4 t6 t7 t65 t66 h79) (
 S85_20 D m g19 t2 t3 t4 t6 t7 t65 t66 h)
def e85_19 (k t2 t3 t4 t6 t7 t65 t66 h) := kN k [(p2, t2), (p3, t3), (p4, t4), (p6, t6), (p7, t7), (p65, (vI t65)), (p66, (vI t66))] h
def S85_19b (D : CallD) (m : Nat) (g19 : AV → AV → AV → AV → AV → Int → Int → HP → Res2) (t2 t3 t4 t6 t7 : AV) (t65 t66 : Int) (h : HP) : Res2 :=
 let t67 := ltQ t66 t65
 br t67 (
 iasC 17 t2 (vI t66) fun t71 =>
 faC 3 t71 fun t72 =>
 ldS t72 h fun t73 =>
 faC 3 t4 fun t74 =>
 ldS t74 h fun t75 =>
 let t76 := eqL t73 t75
 br t76 (
 iasC 17 t2 (vI t66) fun t80 =>
 cellsC 17 t80 h fun t81 =>
 cellsC 17 t4 h fun t82 =>
 cal D 69 [t81, t82] h fun t83 h77 =>
 asB t83 fun t83a =>
 let t84 := !t83a
 S85_21 D m g19 t2 t3 t4 t6 t7 t65 t66 t84 h77) (
 S85_21 D m g19 t2 t3 t4 t6 t7 t65 t66 false h)) (
 S85_2 D m t3 t4 t6 t7 h)
def S85_19 (D : CallD) (m : Nat) : AV → AV → AV → AV → AV → Int → Int → HP → Res2 := nrec (fun _ _ _ _ _ _ _ _ => none) (fun _ g => S85_19b D m g) m
def e85_1 (k t2 t3 t4 t6 t7 h) := kN k [(p2, t2), (p3, t3), (p4, t4), (p6, t6), (p7, t7)] h
def S85_1 (D : CallD) (m : Nat) (t2 t3 t4 t6 t7 : AV) (h : HP) : Res2 :=
 lenC t2 fun vt65 => asI .i64 vt65 fun t65 =>
 S85_19 D m t2 t3 t4 t6 t7 t65 (Int.ofNat 0) h
def e85_24 (k t2 t3 t4 t6 t7 t26 t27 h) := kN k [(p2, t2), (p3, t3), (p4, t4), (p6, t6), (p7, t7), (p26, (vI t26)), (p27, (vI t27))] h
def S85_24 (D : CallD) (m : Nat) (g23 : AV → AV → AV → AV → AV → Int → Int → HP → Res2) (t2 t3 t4 t6 t7 : AV) (t26 t27 : Int) (h : HP) : Res2 :=
 let t63 := wrQ .i64 (addQ t27 (Int.ofNat 1))
 g23 t2 t3 t4 t6 t7 t26 t63 h
def e85_27 (k t2 t3 t4 t6 t7 t26 t27 t58 h) := kN k [(p2, t2), (p3, t3), (p4, t4), (p6, t6), (p7, t7), (p26, (vI t26)), (p27, (vI t27)), (p58, (vB t58))] h
def S85_27 (D : CallD) (m : Nat) (g23 : AV → AV → AV → AV → AV → Int → Int → HP → Res2) (t2 t3 t4 t6 t7 : AV) (t26 t27 : Int) (t58 : Bool) (h : HP) : Res2 :=
 br t58 (
 cellsC 7 t3 h fun t59 =>
 faC 16 t4 fun t60 =>
 ldI t60 h fun t61 =>
 cal D 86 [t59, (vI (Int.ofNat 13)), (vI t61)] h fun t62 h80 =>
 stsC 7 t3 t62 h80 fun h81 =>
 S85_24 D m g23 t2 t3 t4 t6 t7 t26 t27 h81) (
 S85_24 D m g23 t2 t3 t4 t6 t7 t26 t27 h)
def e85_26 (k t2 t3 t4 t6 t7 t26 t27 t38 t57 h) := kN k [(p2, t2), (p3, t3), (p4, t4), (p6, t6), (p7, t7), (p26, (vI t26)), (p27, (vI t27)), (p38, (vB t38)), (p57, (vB t57))] h
def S85_26 (D : CallD) (m : Nat) (g23 : AV → AV → AV → AV → AV → Int → Int → HP → Res2) (t2 t3 t4 t6 t7 : AV) (t26 t27 : Int) (t38 t57 : Bool) (h : HP) : Res2 :=
 obB (brV t38 (some (vB t57)) (some (vB false))) fun t58 =>
 S85_27 D m g23 t2 t3 t4 t6 t7 t26 t27 t58 h
def e85_25 (k t2 t3 t4 t6 t7 t26 t27 t47 t56 h) := kN k [(p2, t2), (p3, t3), (p4, t4), (p6, t6), (p7, t7), (p26, (vI t26)), (p27, (vI t27)), (p38, .bool true), (p47, (vB t47)), (p56, (vB t56))] h
def S85_25 (D : CallD) (m : Nat) (g23 : AV → AV → AV → AV → AV → Int → Int → HP → Res2) (t2 t3 t4 t6 t7 : AV) (t26 t27 : Int) (t47 t56 : Bool) (h : HP) : Res2 :=
 obB (brV t47 (some (vB true)) (some (vB t56))) fun t57 =>
 S85_26 D m g23 t2 t3 t4 t6 t7 t26 t27 true t57 h
def e85_23 (k t2 t3 t4 t6 t7 t26 t27 h) := kN k [(p2, t2), (p3, t3), (p4, t4), (p6, t6), (p7, t7), (p26, (vI t26)), (p27, (vI t27))] h
def S85_23b (D : CallD) (m : Nat) (g23 : AV → AV → AV → AV → AV → Int → Int → HP → Res2) (t2 t3 t4 t6 t7 : AV) (t26 t27 : Int) (h : HP) : Res2 :=
 let t28 := ltQ t27 t26
 br t28 (
 iasC 17 t2 (vI t27) fun t32 =>
 faC 3 t32 fun t33 =>
 ldS t33 h fun t34 =>
 faC 3 t4 fun t35 =>
 ldS t35 h fun t36 =>
 let t37 := eqL t34 t36
 br t37 (
 iasC 17 t2 (vI t27) fun t41 =>
 faC 0 t41 fun t42 =>
 ldB t42 h fun t43 =>
 faC 0 t4 fun t44 =>
 ldB t44 h fun t45 =>
 let t46 := ((t43 == t45) != true)
 br t46 (
 S85_26 D m g23 t2 t3 t4 t6 t7 t26 t27 true true h) (
 iasC 17 t2 (vI t27) fun t50 =>
 cellsC 17 t50 h fun t51 =>
 cal D 68 [t51] h fun t52 h82 =>
 asB t52 fun t52a =>
 br t52a (
 cellsC 17 t4 h82 fun t54 =>
 cal D 68 [t54] h82 fun t55 h83 =>
 asB t55 fun t55a =>
 S85_25 D m g23 t2 t3 t4 t6 t7 t26 t27 false t55a h83) (
 S85_25 D m g23 t2 t3 t4 t6 t7 t26 t27 false false h82))) (
 S85_27 D m g23 t2 t3 t4 t6 t7 t26 t27 false h)) (
 S85_1 D m t2 t3 t4 t6 t7 h)
def S85_23 (D : CallD) (m : Nat) : AV → AV → AV → AV → AV → Int → Int → HP → Res2 := nrec (fun _ _ _ _ _ _ _ _ => none) (fun _ g => S85_23b D m g) m
def e85_0 (k t2 t3 t4 t6 t7 h) := kN k [(p2, t2), (p3, t3), (p4, t4), (p6, t6), (p7, t7)] h
def S85_0 (D : CallD) (m : Nat) (t2 t3 t4 t6 t7 : AV) (h : HP) : Res2 :=
 lenC t2 fun vt26 => asI .i64 vt26 fun t26 =>
 S85_23 D m t2 t3 t4 t6 t7 t26 (Int.ofNat 0) h
def e85_29 (k t0 t1 t2 h) := kN k [(p0, t0), (p1, t1), (p2, t2)] h
def S85_29 (D : CallD) (m : Nat) (t0 t1 t2 : AV) (h : HP) : Res2 :=
 let t3 := AV.ptr (HP.nxQ h) 0
 let h30 := HP.newQ h (.cells true (AV.cells t0))
 let t4 := AV.ptr (HP.nxQ h30) 0
 let h31 := HP.newQ h30 (.cells true (AV.cells t1))
 let t6 := AV.ptr (HP.nxQ h31) 0
 let h32 := HP.newQ h31 (.cells true [.nils, (kI 0), (kI 0), (kI 0), (kI 0), (kI 0), (kI 0)])
 let t7 := AV.ptr (HP.nxQ h32) 0
 let h33 := HP.newQ h32 (.cells true [(.bool false), (.bool false), (.bool false), (.str []), (kI 0), (kI 0), .nils, (.bool false), .nils, (kI 0), .nils, .nils, (.str []), (kI 0), (kI 0), (kI 0), (kI 0)])
 let t18 := (AV.ptr (HP.nxQ h30) (Nat.add 0 3))
 ldS t18 h33 fun t19 =>
 cal D 127 [(vS t19)] h33 fun t20 h84 =>
 asB t20 fun t20a =>
 br t20a (
 cellsC 7 t3 h84 fun t21 =>
 let t22 := (AV.ptr (HP.nxQ h30) (Nat.add 0 16))
 ldI t22 h84 fun t23 =>
 cal D 86 [t21, (vI (Int.ofNat 13)), (vI t23)] h84 fun t24 h85 =>
 stsC 7 t3 t24 h85 fun h86 =>
 S85_0 D m t2 t3 t4 t6 t7 h86) (
 S85_0 D m t2 t3 t4 t6 t7 h84)
def S85 : SFn := fun D m args h u => nou u <| popV args fun t0 args => popV args fun t1 args => popV args fun t2 args => endA args (S85_29 D m t0 t1 t2 h)
theorem T85_7 (hE : FX x85 D m E) : S85_7 D m = e85_7 (E c85_7 []) := by unfold S85_7; rw [hE c85_7]; kernel_rfl
theorem T85_6 (hE : FX x85 D m E) : S85_6 D m = e85_6 (E c85_6 []) := by unfold S85_6; rw [T85_7 hE, hE c85_6]; kernel_rfl
theorem T85_9 (hE : FX x85 D m E) (G8) : S85_9 D m (e85_8 G8) = e85_9 (E c85_9 [.lp v85_8 G8, .blk 6, .sj v85_6 c85_6]) := by unfold S85_9; rw [hE c85_9]; kernel_rfl
theorem T85_10 (hE : FX x85 D m E) (G8) : S85_10 D m (e85_8 G8) = e85_10 (E c85_10 [.blk 7, .sj v85_9 c85_9, .lp v85_8 G8, .blk 6, .sj v85_6 c85_6]) := by unfold S85_10; rw [T85_9 hE G8, hE c85_10]; kernel_rfl
theorem T85_8b (hE : FX x85 D m E) (G8) : S85_8b D m (e85_8 G8) = e85_8 (E c85_8b [.lp v85_8 G8, .blk 6, .sj v85_6 c85_6]) := by unfold S85_8b; rw [T85_10 hE G8, T85_6 hE, hE c85_8b]; kernel_rfl
theorem T85_8 (hE : FX x85 D m E) : S85_8 D m = e85_8 (nrec (fun _ => none) (fun _ G8 st => E c85_8b [.lp v85_8 G8, .blk 6, .sj v85_6 c85_6] st) m) :=
  nrec_emb e85_8 (fun _ _ _ _ _ _ _ _ => none) (fun g => S85_8b D m g) (fun G8 st => E c85_8b [.lp v85_8 G8, .blk 6, .sj v85_6 c85_6] st) rfl (fun g => T85_8b hE g) m
theorem T85_5 (hE : FX x85 D m E) : S85_5 D m = e85_5 (E c85_5 []) := by unfold S85_5; rw [T85_8 hE, hE c85_5]; kernel_rfl
theorem T85_12 (hE : FX x85 D m E) (G11) : S85_12 D m (e85_11 G11) = e85_12 (E c85_12 [.lp v85_11 G11, .blk 4, .sj v85_5 c85_5]) := by unfold S85_12; rw [hE c85_12]; kernel_rfl
theorem T85_14 (hE : FX x85 D m E) (G11) : S85_14 D m (e85_11 G11) = e85_14 (E c85_14 [.blk 5, .sj v85_12 c85_12, .lp v85_11 G11, .blk 4, .sj v85_5 c85_5]) := by unfold S85_14; rw [T85_12 hE G11, hE c85_14]; kernel_rfl
theorem T85_13 (hE : FX x85 D m E) (G11) : S85_13 D m (e85_11 G11) = e85_13 (E c85_13 [.blk 5, .sj v85_12 c85_12, .lp v85_11 G11, .blk 4, .sj v85_5 c85_5]) := by unfold S85_13; rw [T85_14 hE G11, hE c85_13]; kernel_rfl
theorem T85_11b (hE : FX x85 D m E) (G11) : S85_11b D m (e85_11 G11) = e85_11 (E c85_11b [.lp v85_11 G11, .blk 4, .sj v85_5 c85_5]) := by unfold S85_11b; rw [T85_13 hE G11, T85_5 hE, hE c85_11b]; kernel_rfl
theorem T85_11 (hE : FX x85 D m E) : S85_11 D m = e85_11 (nrec (fun _ => none) (fun _ G11 st => E c85_11b [.lp v85_11 G11, .blk 4, .sj v85_5 c85_5] st) m) :=
  nrec_emb e85_11 (fun _ _ _ _ _ _ _ _ => none) (fun g => S85_11b D m g) (fun G11 st => E c85_11b [.lp v85_11 G11, .blk 4, .sj v85_5 c85_5] st) rfl (fun g => T85_11b hE g) m
theorem T85_4 (hE : FX x85 D m E) : S85_4 D m = e85_4 (E c85_4 []) := by unfold S85_4; rw [T85_11 hE, hE c85_4]; kernel_rfl
theorem T85_3 (hE : FX x85 D m E) : S85_3 D m = e85_3 (E c85_3 []) := by unfold S85_3; rw [T85_4 hE, hE c85_3]; kernel_rfl
theorem T85_17 (hE : FX x85 D m E) : S85_17 D m = e85_17 (E (.opq false l85_17 c85_18) [.sj v85_3 c85_3]) := by unfold S85_17; rw [T85_3 hE, hE (.opq false l85_17 c85_18)]; kernel_rfl
theorem T85_16 (hE : FX x85 D m E) : S85_16 D m = e85_16 (E (.opq false l85_16 c85_18) [.sj v85_3 c85_3]) := by unfold S85_16; rw [T85_17 hE, hE (.opq false l85_16 c85_18)]; kernel_rfl
theorem T85_15 (hE : FX x85 D m E) : S85_15 D m = e85_15 (E (.opq false l85_15 c85_18) [.sj v85_3 c85_3]) := by unfold S85_15; rw [T85_16 hE, hE (.opq false l85_15 c85_18)]; kernel_rfl
theorem T85_2 (hE : FX x85 D m E) : S85_2 D m = e85_2 (E c85_2 []) := by unfold S85_2; rw [T85_16 hE, T85_15 hE, T85_17 hE, hE c85_2]; kernel_rfl
theorem T85_20 (hE : FX x85 D m E) (G19) : S85_20 D m (e85_19 G19) = e85_20 (E c85_20 [.lp v85_19 G19, .blk 2, .sj v85_2 c85_2]) := by unfold S85_20; rw [hE c85_20]; kernel_rfl
theorem T85_21 (hE : FX x85 D m E) (G19) : S85_21 D m (e85_19 G19) = e85_21 (E (.opq true l85_21 c85_22) [.blk 3, .sj v85_20 c85_20, .lp v85_19 G19, .blk 2, .sj v85_2 c85_2]) := by unfold S85_21; rw [T85_20 hE G19, hE (.opq true l85_21 c85_22)]; kernel_rfl
theorem T85_19b (hE : FX x85 D m E) (G19) : S85_19b D m (e85_19 G19) = e85_19 (E c85_19b [.lp v85_19 G19, .blk 2, .sj v85_2 c85_2]) := by unfold S85_19b; rw [T85_21 hE G19, T85_2 hE, hE c85_19b]; kernel_rfl
theorem T85_19 (hE : FX x85 D m E) : S85_19 D m = e85_19 (nrec (fun _ => none) (fun _ G19 st => E c85_19b [.lp v85_19 G19, .blk 2, .sj v85_2 c85_2] st) m) :=
  nrec_emb e85_19 (fun _ _ _ _ _ _ _ _ => none) (fun g => S85_19b D m g) (fun G19 st => E c85_19b [.lp v85_19 G19, .blk 2, .sj v85_2 c85_2] st) rfl (fun g => T85_19b hE g) m
theorem T85_1 (hE : FX x85 D m E) : S85_1 D m = e85_1 (E c85_1 []) := by unfold S85_1; rw [T85_19 hE, hE c85_1]; kernel_rfl
theorem T85_24 (hE : FX x85 D m E) (G23) : S85_24 D m (e85_23 G23) = e85_24 (E c85_24 [.lp v85_23 G23, .blk 0, .sj v85_1 c85_1]) := by unfold S85_24; rw [hE c85_24]; kernel_rfl
theorem T85_27 (hE : FX x85 D m E) (G23) : S85_27 D m (e85_23 G23) = e85_27 (E (.opq true l85_27 c85_28) [.blk 1, .sj v85_24 c85_24, .lp v85_23 G23, .blk 0, .sj v85_1 c85_1]) := by unfold S85_27; rw [T85_24 hE G23, hE (.opq true l85_27 c85_28)]; kernel_rfl
theorem T85_26 (hE : FX x85 D m E) (G23) : S85_26 D m (e85_23 G23) = e85_26 (E (.opq true l85_26 c85_28) [.blk 1, .sj v85_24 c85_24, .lp v85_23 G23, .blk 0, .sj v85_1 c85_1]) := by unfold S85_26; rw [T85_27 hE G23, hE (.opq true l85_26 c85_28)]; kernel_rfl
theorem T85_25 (hE : FX x85 D m E) (G23) : S85_25 D m (e85_23 G23) = e85_25 (E (.opq true l85_25 c85_28) [.blk 1, .sj v85_24 c85_24, .lp v85_23 G23, .blk 0, .sj v85_1 c85_1]) := by unfold S85_25; rw [T85_26 hE G23, hE (.opq true l85_25 c85_28)]; kernel_rfl
theorem T85_23b (hE : FX x85 D m E) (G23) : S85_23b D m (e85_23 G23) = e85_23 (E c85_23b [.lp v85_23 G23, .blk 0, .sj v85_1 c85_1]) := by unfold S85_23b; rw [T85_26 hE G23, T85_25 hE G23, T85_27 hE G23, T85_1 hE, hE c85_23b]; kernel_rfl
theorem T85_23 (hE : FX x85 D m E) : S85_23 D m = e85_23 (nrec (fun _ => none) (fun _ G23 st => E c85_23b [.lp v85_23 G23, .blk 0, .sj v85_1 c85_1] st) m) :=
  nrec_emb e85_23 (fun _ _ _ _ _ _ _ _ => none) (fun g => S85_23b D m g) (fun G23 st => E c85_23b [.lp v85_23 G23, .blk 0, .sj v85_1 c85_1] st) rfl (fun g => T85_23b hE g) m
theorem T85_0 (hE : FX x85 D m E) : S85_0 D m = e85_0 (E c85_0 []) := by unfold S85_0; rw [T85_23 hE, hE c85_0]; kernel_rfl
theorem T85_29 (hE : FX x85 D m E) : S85_29 D m = e85_29 (E c85_e []) := by unfold S85_29; rw [T85_0 hE, hE c85_e]; kernel_rfl
theorem X85 : XTie S85 x85 := X_of fun D m E hE args h u => by unfold S85; rw [T85_29 hE]; kernel_rfl
/- 89 -/
def v89_0 : List Pos := [p1, p6, p7, p8]
def c89_0b : XC := (.sO [.bn p9 .lss q8 q7 .b] (.seq (.cond q9 .skip (.exit 0)) (.seq (.block 1 (.seq (.oX [.P p10 (.iaddr (.sl 7) q6 q8) .v, .L p11 (.cells 7 q10) .v, .al p5 (.new [(kI 0), .nils, .nils, (.str []), (kI 0), (kI 0), (kI 0)]), .ss 7 q5 q11]) (.seq (.oX [.fa p12 1 q5, .ld p13 q12 .v, .mv p14 q1 .v, .cl p15 137 [q13, q14] .v]) (.oX [.fa p16 2 q5, .ld p17 q16 .v, .mv p18 q1 .v, .cl p19 89 [q17, q18] .v])))) (.s (.oX [.bn p20 .add q8 (ci 1) tI, .mv p8 q20 tI])))))
def c89_e : XC := (.sO [.mv p6 q0 .v, .P p7 (.lenl q6) tI, .mv p8 (ci 0) tI] (.block 0 (.loop v89_0 c89_0b)))
def x89 : XFn := ⟨[.v, .v], false, [], c89_e⟩
def e89_0 (k t1 t6 t7 t8 h) := kN k [(p1, t1), (p6, t6), (p7, (vI t7)), (p8, (vI t8))] h
def S89_0b (D : CallD) (m : Nat) (g0 : AV → AV → Int → Int → HP → Res2) (t1 t6 : AV) (t7 t8 : Int) (h : HP) : Res2 :=
 let t9 := ltQ t8 t7
 br t9 (
 iasC 7 t6 (vI t8) fun t10 =>
 cellsC 7 t10 h fun t11 =>
 let t5 := AV.ptr (HP.nxQ h) 0
 let h2 := HP.newQ h (.cells true [(kI 0), .nils, .nils, (.str []), (kI 0), (kI 0), (kI 0)])
 stsC 7 t5 t11 h2 fun h3 =>
 let t12 := (AV.ptr (HP.nxQ h) (Nat.add 0 1))
 cellC t12 h3 fun t13 =>
 cal D 137 [t13, t1] h3 fun t15 h4 =>
 let t16 := (AV.ptr (HP.nxQ h) (Nat.add 0 2))
 cellC t16 h4 fun t17 =>
 cal D 89 [t17, t1] h4 fun t19 h5 =>
 let t20 := wrQ .i64 (addQ t8 (Int.ofNat 1))
 g0 t1 t6 t7 t20 h5) (
 some (.ret (.tup []) h, .no))
def S89_0 (D : CallD) (m : Nat) : AV → AV → Int → Int → HP → Res2 := nrec (fun _ _ _ _ _ => none) (fun _ g => S89_0b D m g) m
def e89_1 (k t0 t1 h) := kN k [(p0, t0), (p1, t1)] h
def S89_1 (D : CallD) (m : Nat) (t0 t1 : AV) (h : HP) : Res2 :=
 lenC t0 fun vt7 => asI .i64 vt7 fun t7 =>
 S89_0 D m t1 t0 t7 (Int.ofNat 0) h
def S89 : SFn := fun D m args h u => nou u <| popV args fun t0 args => popV args fun t1 args => endA args (S89_1 D m t0 t1 h)
theorem T89_0b (hE : FX x89 D m E) (G0) : S89_0b D m (e89_0 G0) = e89_0 (E c89_0b [.lp v89_0 G0, .blk 0]) := by unfold S89_0b; rw [hE c89_0b]; kernel_rfl
theorem T89_0 (hE : FX x89 D m E) : S89_0 D m = e89_0 (nrec (fun _ => none) (fun _ G0 st => E c89_0b [.lp v89_0 G0, .blk 0] st) m) :=
  nrec_emb e89_0 (fun _ _ _ _ _ => none) (fun g => S89_0b D m g) (fun G0 st => E c89_0b [.lp v89_0 G0, .blk 0] st) rfl (fun g => T89_0b hE g) m
theorem T89_1 (hE : FX x89 D m E) : S89_1 D m = e89_1 (E c89_e []) := by unfold S89_1; rw [T89_0 hE, hE c89_e]; kernel_rfl
theorem X89 : XTie S89 x89 := X_of fun D m E hE args h u => by unfold S89; rw [T89_1 hE]; kernel_rfl
/- 90 -/
def c90_e : XC := (.sO [.mv p4 (ci 0) tI] (.sO [.mv p5 q0 .v, .mv p6 q0 .v, .P p7 (.nilck q6) .v, .fa p8 0 q7, .fa p9 3 q8, .ld p10 q9 .v, .mv p11 q1 tI, .al p12 (.bsl [(kI 0)] 1 [⟨0, 1, q11⟩]), .o ⟨(some p13), (.e (.app 1 8 q10 q12)), none, []⟩ .v, .P p14 (.nilck q5) .v, .fa p15 0 q14, .fa p16 3 q15, .st q16 q13] (.sO [.mv p17 q0 .v, .P p18 (.nilck q17) .v, .fa p19 0 q18, .fa p20 3 q19, .ld p21 q20 .v, .P p22 (.lenl q21) tI, .bn p23 .sub q22 (ci 1) tI, .mv p4 q23 tI] (.s .ret))))
def x90 : XFn := ⟨[.v, tI], false, [(.tmp p4)], c90_e⟩
def e90_0 (k t0 t1 h) := kN k [(p0, t0), (p1, (vI t1))] h
def S90_0 (D : CallD) (m : Nat) (t0 : AV) (t1 : Int) (h : HP) : Res2 :=
 nilckC t0 fun t7 =>
 faC 0 t7 fun t8 =>
 faC 3 t8 fun t9 =>
 cellC t9 h fun t10 =>
 let t12 := AV.slice (HP.nxQ h) 0 1 (.exact 1)
 let h1 := HP.newQ h (.cells true [(vI t1)])
 eff (.app 1 8 (.c t10) (.c t12)) h1 fun t13 h2 =>
 nilckC t0 fun t14 =>
 faC 0 t14 fun t15 =>
 faC 3 t15 fun t16 =>
 stoC t16 t13 h2 fun h3 =>
 nilckC t0 fun t18 =>
 faC 0 t18 fun t19 =>
 faC 3 t19 fun t20 =>
 cellC t20 h3 fun t21 =>
 lenC t21 fun vt22 => asI .i64 vt22 fun t22 =>
 let t23 := wrQ .i64 (t22 - (Int.ofNat 1))
 some (.ret (vI t23) h3, .no)
def S90 : SFn := fun D m args h u => nou u <| popV args fun t0 args => popI .i64 args fun t1 args => endA args (S90_0 D m t0 t1 h)
theorem T90_0 (hE : FX x90 D m E) : S90_0 D m = e90_0 (E c90_e []) := by unfold S90_0; rw [hE c90_e]; kernel_rfl
theorem X90 : XTie S90 x90 := X_of fun D m E hE args h u => by unfold S90; rw [T90_0 hE]; kernel_rfl
/- 91 -/
def c91_e : XC := (.sO [.mv p2 (ci 0) tI] (.seq (.seq (.oX [.mv p3 q0 tI, .bn p4 .eql q3 (ci 2) .b]) (.cond q4 (.seq (.oX [.mv p2 (ci 2) tI]) .ret) .skip)) (.sO [.mv p2 (ci 1) tI] (.s .ret))))
def x91 : XFn := ⟨[tI], false, [(.tmp p2)], c91_e⟩
def e91_0 (k t0 h) := kN k [(p0, (vI t0))] h
def S91_0 (D : CallD) (m : Nat) (t0 : Int) (h : HP) : Res2 :=
 let t4 := eqQ t0 (Int.ofNat 2)
 br t4 (
 some (.ret (vI (Int.ofNat 2)) h, .no)) (
 some (.ret (vI (Int.ofNat 1)) h, .no))
def S91 : SFn := fun D m args h u => nou u <| popI .i64 args fun t0 args => endA args (S91_0 D m t0 h)
theorem T91_0 (hE : FX x91 D m E) : S91_0 D m = e91_0 (E c91_e []) := by unfold S91_0; rw [hE c91_e]; kernel_rfl
theorem X91 : XTie S91 x91 := X_of fun D m E hE args h u => by unfold S91; rw [T91_0 hE]; kernel_rfl
/- 92 -/
def v92_0 : List Pos := [p0, p4, p10]
def c92_0 : XC := (.s (.oX [.mv p29 q0 .v, .fa p30 0 q10, .ld p31 q30 tI, .mv p32 q4 tI, .P p33 (.build [(kI 0), (kI 0), (kI 0), (kI 0), (.int .u32 (.ofNat 0)), (.int .u64 (.ofNat 0)), (.str []), .nils, (kI 0)] [⟨0, 1, (ci 3)⟩, ⟨1, 1, q31⟩, ⟨2, 1, q32⟩]) .v, .cl p34 140 [q29, q33] .v]))
def v92_1 : List Pos := [p0, p2, p4, p11]
def c92_1 : XC := (.s (.oX [.mv p47 q0 .v, .mv p48 q2 tI, .mv p49 q11 tI, .mv p50 q4 tI, .cl p51 142 [q47, q48, q49, q50] .v]))
def c92_e : XC := (.sO [.mv p12 q0 .v, .mv p13 q1 .s, .mv p14 q2 tI, .mv p15 q3 tI, .cl p16 138 [q12, q13, q14, q15] .v, .al p10 (.new [(kI 0), (kI 0), (kI 0), (kI 0)]), .ss 4 q10 q16] (.block 0 (.sO [.fa p21 0 q10, .ld p22 q21 tI, .bn p23 .geq q22 (ci 0) .b, .mv p20 q23 .b] (.cond q20 (.sj v92_0 (.sO [.mv p24 q4 tI, .bn p25 .lss q24 (ci 0) .b] (.cond q25 (.s (.oX [.mv p26 q0 .v, .mv p27 q2 tI, .cl p28 139 [q26, q27] tI, .mv p4 q28 tI])) (.s .skip))) c92_0) (.sO [.mv p36 q3 tI, .bn p37 .eql q36 (ci 0) .b, .mv p35 q37 .b] (.cond q35 (.sO [.mv p38 q0 .v, .fa p39 1 q10, .ld p40 q39 tI, .cl p41 141 [q38, q40] tI, .mv p11 q41 tI] (.sj v92_1 (.sO [.mv p42 q4 tI, .bn p43 .lss q42 (ci 0) .b] (.cond q43 (.s (.oX [.mv p44 q0 .v, .mv p45 q2 tI, .cl p46 139 [q44, q45] tI, .mv p4 q46 tI])) (.s .skip))) c92_1)) (.s (.oX [.mv p17 q0 .v, .L p18 (.cells 4 q10) .v, .cl p19 143 [q17, q18] .v]))))))))
def x92 : XFn := ⟨[.v, .s, tI, tI, tI], false, [], c92_e⟩
def e92_0 (k t0 t4 t10 h) := kN k [(p0, t0), (p4, (vI t4)), (p10, t10)] h
def S92_0 (D : CallD) (m : Nat) (t0 : AV) (t4 : Int) (t10 : AV) (h : HP) : Res2 :=
 faC 0 t10 fun t30 =>
 ldI t30 h fun t31 =>
 let t33 := (AV.agg [(vI (Int.ofNat 3)), (vI t31), (vI t4), (vI (Int.ofNat 0)), (vW (Int.ofNat 0)), (AV.int .u64 (Int.ofNat 0)), (vS ([] : LN)), (.nils : AV), (vI (Int.ofNat 0))])
 cal D 140 [t0, t33] h fun t34 h6 =>
 some (.ret (.tup []) h6, .no)
def e92_1 (k t0 t2 t4 t11 h) := kN k [(p0, t0), (p2, (vI t2)), (p4, (vI t4)), (p11, (vI t11))] h
def S92_1 (D : CallD) (m : Nat) (t0 : AV) (t2 t4 t11 : Int) (h : HP) : Res2 :=
 cal D 142 [t0, (vI t2), (vI t11), (vI t4)] h fun t51 h9 =>
 some (.ret (.tup []) h9, .no)
def e92_2 (k t0 t1 t2 t3 t4 h) := kN k [(p0, t0), (p1, (vS t1)), (p2, (vI t2)), (p3, (vI t3)), (p4, (vI t4))] h
def S92_2 (D : CallD) (m : Nat) (t0 : AV) (t1 : LN) (t2 t3 t4 : Int) (h : HP) : Res2 :=
 cal D 138 [t0, (vS t1), (vI t2), (vI t3)] h fun t16 h3 =>
 let t10 := AV.ptr (HP.nxQ h3) 0
 let h4 := HP.newQ h3 (.cells true [(kI 0), (kI 0), (kI 0), (kI 0)])
 stsC 4 t10 t16 h4 fun h5 =>
 let t21 := (AV.ptr (HP.nxQ h3) (Nat.add 0 0))
 ldI t21 h5 fun t22 =>
 let t23 := leQ (Int.ofNat 0) t22
 br t23 (
 let t25 := ltQ t4 (Int.ofNat 0)
 br t25 (
 cal D 139 [t0, (vI t2)] h5 fun t28 h7 =>
 asI .i64 t28 fun t28a =>
 S92_0 D m t0 t28a t10 h7) (
 S92_0 D m t0 t4 t10 h5)) (
 let t37 := eqQ t3 (Int.ofNat 0)
 br t37 (
 let t39 := (AV.ptr (HP.nxQ h3) (Nat.add 0 1))
 ldI t39 h5 fun t40 =>
 cal D 141 [t0, (vI t40)] h5 fun t41 h8 =>
 asI .i64 t41 fun t41a =>
 let t43 := ltQ t4 (Int.ofNat 0)
 br t43 (
 cal D 139 [t0, (vI t2)] h8 fun t46 h10 =>
 asI .i64 t46 fun t46a =>
 S92_1 D m t0 t2 t46a t41a h10) (
 S92_1 D m t0 t2 t4 t41a h8)) (
 cellsC 4 t10 h5 fun t18 =>
 cal D 143 [t0, t18] h5 fun t19 h11 =>
 some (.ret (.tup []) h11, .no)))
def S92 : SFn := fun D m args h u => nou u <| popV args fun t0 args => popS args fun t1 args => popI .i64 args fun t2 args => popI .i64 args fun t3 args => popI .i64 args fun t4 args => endA args (S92_2 D m t0 t1 t2 t3 t4 h)
theorem T92_0 (hE : FX x92 D m E) : S92_0 D m = e92_0 (E c92_0 [.blk 0]) := by unfold S92_0; rw [hE c92_0]; kernel_rfl
theorem T92_1 (hE : FX x92 D m E) : S92_1 D m = e92_1 (E c92_1 [.blk 0]) := by unfold S92_1; rw [hE c92_1]; kernel_rfl
theorem T92_2 (hE : FX x92 D m E) : S92_2 D m = e92_2 (E c92_e []) := by unfold S92_2; rw [T92_0 hE, T92_1 hE, hE c92_e]; kernel_rfl
theorem X92 : XTie S92 x92 := X_of fun D m E hE args h u => by unfold S92; rw [T92_2 hE]; kernel_rfl
/- 93 -/
def v93_0 : List Pos := [p0, p6, p7, p8]
def c93_0b : XC := (.sO [.bn p9 .lss q8 q7 .b] (.seq (.cond q9 .skip (.exit 0)) (.seq (.block 1 (.seq (.oX [.P p10 (.iaddr (.sl 7) q6 q8) .v, .L p11 (.cells 7 q10) .v, .al p5 (.new [(kI 0), .nils, .nils, (.str []), (kI 0), (kI 0), (kI 0)]), .ss 7 q5 q11]) (.oX [.mv p12 q0 .v, .L p13 (.cells 7 q5) .v, .cl p14 144 [q12, q13] .v]))) (.s (.oX [.bn p15 .add q8 (ci 1) tI, .mv p8 q15 tI])))))
def c93_e : XC := (.sO [.mv p6 q1 .v, .P p7 (.lenl q6) tI, .mv p8 (ci 0) tI] (.block 0 (.loop v93_0 c93_0b)))
def x93 : XFn := ⟨[.v, .v], false, [], c93_e⟩
def e93_0 (k t0 t6 t7 t8 h) := kN k [(p0, t0), (p6, t6), (p7, (vI t7)), (p8, (vI t8))] h
def S93_0b (D : CallD) (m : Nat) (g0 : AV → AV → Int → Int → HP → Res2) (t0 t6 : AV) (t7 t8 : Int) (h : HP) : Res2 :=
 let t9 := ltQ t8 t7
 br t9 (
 iasC 7 t6 (vI t8) fun t10 =>
 cellsC 7 t10 h fun t11 =>
 let t5 := AV.ptr (HP.nxQ h) 0
 let h2 := HP.newQ h (.cells true [(kI 0), .nils, .nils, (.str []), (kI 0), (kI 0), (kI 0)])
 stsC 7 t5 t11 h2 fun h3 =>
 cellsC 7 t5 h3 fun t13 =>
 cal D 144 [t0, t13] h3 fun t14 h4 =>
 let t15 := wrQ .i64 (addQ t8 (Int.ofNat 1))
 g0 t0 t6 t7 t15 h4) (
 some (.ret (.tup []) h, .no))
def S93_0 (D : CallD) (m : Nat) : AV → AV → Int → Int → HP → Res2 := nrec (fun _ _ _ _ _ => none) (fun _ g => S93_0b D m g) m
def e93_1 (k t0 t1 h) := kN k [(p0, t0), (p1, t1)] h
def S93_1 (D : CallD) (m : Nat) (t0 t1 : AV) (h : HP) : Res2 :=
 lenC t1 fun vt7 => asI .i64 vt7 fun t7 =>
 S93_0 D m t0 t1 t7 (Int.ofNat 0) h
def S93 : SFn := fun D m args h u => nou u <| popV args fun t0 args => popV args fun t1 args => endA args (S93_1 D m t0 t1 h)
theorem T93_0b (hE : FX x93 D m E) (G0) : S93_0b D m (e93_0 G0) = e93_0 (E c93_0b [.lp v93_0 G0, .blk 0]) := by unfold S93_0b; rw [hE c93_0b]; kernel_rfl
theorem T93_0 (hE : FX x93 D m E) : S93_0 D m = e93_0 (nrec (fun _ => none) (fun _ G0 st => E c93_0b [.lp v93_0 G0, .blk 0] st) m) :=
  nrec_emb e93_0 (fun _ _ _ _ _ => none) (fun g => S93_0b D m g) (fun G0 st => E c93_0b [.lp v93_0 G0, .blk 0] st) rfl (fun g => T93_0b hE g) m
theorem T93_1 (hE : FX x93 D m E) : S93_1 D m = e93_1 (E c93_e []) := by unfold S93_1; rw [T93_0 hE, hE c93_e]; kernel_rfl
theorem X93 : XTie S93 x93 := X_of fun D m E hE args h u => by unfold S93; rw [T93_1 hE]; kernel_rfl
/- 94 -/
def v94_1 : List Pos := [p0, p4]
def c94_1 : XC := (.s (.oX [.mv p33 q0 .v, .mv p34 q4 tI, .P p35 (.build [(kI 0), (kI 0), (kI 0), (kI 0), (.int .u32 (.ofNat 0)), (.int .u64 (.ofNat 0)), (.str []), .nils, (kI 0)] [⟨0, 1, (ci 17)⟩, ⟨2, 1, q34⟩]) .v, .cl p36 140 [q33, q35] .v]))
def v94_0 : List Pos := [p0, p1, p4]
def c94_0 : XC := (.sj v94_1 (.sO [.mv p17 q1 .v, .P p18 (.lenl q17) tI, .bn p19 .eql q18 (ci 0) .b, .mv p20 q19 .b, .ge p20 (XL.of [.G p20 true p21 (.mov q0) .v, .G p20 true p22 (.nilck q21) .v, .G p20 true p23 (.faddr 8 q22) .v, .o ⟨(some p24), (.l (.cell q23)), (some (p20, true)), []⟩ tI, .G p20 true p25 (.bin .neq q24 (ci 0)) .b, .P p26 (.pick q20 q25 (cb false)) .b]) p26 .b] (.cond q26 (.s (.oX [.mv p27 q0 .v, .mv p28 q0 .v, .P p29 (.nilck q28) .v, .fa p30 8 q29, .ld p31 q30 tI, .cl p32 139 [q27, q31] tI, .mv p4 q32 tI])) (.s .skip))) c94_1)
def v94_2 : List Pos := [p0, p1, p4, p7, p8, p9]
def c94_2b : XC := (.sO [.bn p10 .lss q9 q8 .b] (.seq (.cond q10 .skip (.exit 0)) (.seq (.block 1 (.seq (.oX [.P p11 (.iaddr (.sl 8) q7 q9) .v, .L p12 (.cells 8 q11) .v, .al p6 (.new [(kI 0), (.str []), (.str []), (.int .u32 (.ofNat 0)), (.int .u64 (.ofNat 0)), .nils, (kI 0), (kI 0)]), .ss 8 q6 q12]) (.oX [.mv p13 q0 .v, .L p14 (.cells 8 q6) .v, .cl p15 145 [q13, q14] tI, .mv p4 q15 tI]))) (.s (.oX [.bn p16 .add q9 (ci 1) tI, .mv p9 q16 tI])))))
def c94_e : XC := (.sO [.mv p4 (.c (.int .i64 (.negSucc 0))) tI] (.sj v94_0 (.sO [.mv p7 q1 .v, .P p8 (.lenl q7) tI, .mv p9 (ci 0) tI] (.block 0 (.loop v94_2 c94_2b))) c94_0))
def x94 : XFn := ⟨[.v, .v], false, [], c94_e⟩
def e94_1 (k t0 t4 h) := kN k [(p0, t0), (p4, (vI t4))] h
def S94_1 (D : CallD) (m : Nat) (t0 : AV) (t4 : Int) (h : HP) : Res2 :=
 let t35 := (AV.agg [(vI (Int.ofNat 17)), (vI (Int.ofNat 0)), (vI t4), (vI (Int.ofNat 0)), (vW (Int.ofNat 0)), (AV.int .u64 (Int.ofNat 0)), (vS ([] : LN)), (.nils : AV), (vI (Int.ofNat 0))])
 cal D 140 [t0, t35] h fun t36 h4 =>
 some (.ret (.tup []) h4, .no)
def e94_0 (k t0 t1 t4 h) := kN k [(p0, t0), (p1, t1), (p4, (vI t4))] h
def S94_0 (D : CallD) (m : Nat) (t0 t1 : AV) (t4 : Int) (h : HP) : Res2 :=
 lenC t1 fun vt18 => asI .i64 vt18 fun t18 =>
 let t19 := eqQ t18 (Int.ofNat 0)
 obB (brV t19 (
 nilckCV t0 fun t22 =>
 faCV 8 t22 fun t23 =>
 ldIV t23 h fun t24 =>
 let t25 := notQ (eqQ t24 (Int.ofNat 0))
 some (vB t25)) (
 some (vB false))) fun t26 =>
 br t26 (
 nilckC t0 fun t29 =>
 faC 8 t29 fun t30 =>
 ldI t30 h fun t31 =>
 cal D 139 [t0, (vI t31)] h fun t32 h5 =>
 asI .i64 t32 fun t32a =>
 S94_1 D m t0 t32a h5) (
 S94_1 D m t0 t4 h)
def e94_2 (k t0 t1 t4 t7 t8 t9 h) := kN k [(p0, t0), (p1, t1), (p4, (vI t4)), (p7, t7), (p8, (vI t8)), (p9, (vI t9))] h
def S94_2b (D : CallD) (m : Nat) (g2 : AV → AV → Int → AV → Int → Int → HP → Res2) (t0 t1 : AV) (t4 : Int) (t7 : AV) (t8 t9 : Int) (h : HP) : Res2 :=
 let t10 := ltQ t9 t8
 br t10 (
 iasC 8 t7 (vI t9) fun t11 =>
 cellsC 8 t11 h fun t12 =>
 let t6 := AV.ptr (HP.nxQ h) 0
 let h6 := HP.newQ h (.cells true [(kI 0), (.str []), (.str []), (.int .u32 (.ofNat 0)), (.int .u64 (.ofNat 0)), .nils, (kI 0), (kI 0)])
 stsC 8 t6 t12 h6 fun h7 =>
 cellsC 8 t6 h7 fun t14 =>
 cal D 145 [t0, t14] h7 fun t15 h8 =>
 asI .i64 t15 fun t15a =>
 let t16 := wrQ .i64 (addQ t9 (Int.ofNat 1))
 g2 t0 t1 t15a t7 t8 t16 h8) (
 S94_0 D m t0 t1 t4 h)
def S94_2 (D : CallD) (m : Nat) : AV → AV → Int → AV → Int → Int → HP → Res2 := nrec (fun _ _ _ _ _ _ _ => none) (fun _ g => S94_2b D m g) m
def e94_3 (k t0 t1 h) := kN k [(p0, t0), (p1, t1)] h
def S94_3 (D : CallD) (m : Nat) (t0 t1 : AV) (h : HP) : Res2 :=
 lenC t1 fun vt8 => asI .i64 vt8 fun t8 =>
 S94_2 D m t0 t1 (Int.negSucc 0) t1 t8 (Int.ofNat 0) h
def S94 : SFn := fun D m args h u => nou u <| popV args fun t0 args => popV args fun t1 args => endA args (S94_3 D m t0 t1 h)
theorem T94_1 (hE : FX x94 D m E) : S94_1 D m = e94_1 (E c94_1 []) := by unfold S94_1; rw [hE c94_1]; kernel_rfl
theorem T94_0 (hE : FX x94 D m E) : S94_0 D m = e94_0 (E c94_0 []) := by unfold S94_0; rw [T94_1 hE, hE c94_0]; kernel_rfl
theorem T94_2b (hE : FX x94 D m E) (G2) : S94_2b D m (e94_2 G2) = e94_2 (E c94_2b [.lp v94_2 G2, .blk 0, .sj v94_0 c94_0]) := by unfold S94_2b; rw [T94_0 hE, hE c94_2b]; kernel_rfl
theorem T94_2 (hE : FX x94 D m E) : S94_2 D m = e94_2 (nrec (fun _ => none) (fun _ G2 st => E c94_2b [.lp v94_2 G2, .blk 0, .sj v94_0 c94_0] st) m) :=
  nrec_emb e94_2 (fun _ _ _ _ _ _ _ => none) (fun g => S94_2b D m g) (fun G2 st => E c94_2b [.lp v94_2 G2, .blk 0, .sj v94_0 c94_0] st) rfl (fun g => T94_2b hE g) m
theorem T94_3 (hE : FX x94 D m E) : S94_3 D m = e94_3 (E c94_e []) := by unfold S94_3; rw [T94_2 hE, hE c94_e]; kernel_rfl
theorem X94 : XTie S94 x94 := X_of fun D m E hE args h u => by unfold S94; rw [T94_3 hE]; kernel_rfl
/- 95 -/
def v95_2 : List Pos := []
def c95_2 : XC := (.sO [.mv p2 (cb true) .b] (.s .ret))
def v95_3 : List Pos := [p0, p7]
def c95_3b : XC := (.seq (.seq (.oX [.mv p57 q7 tI, .mv p58 q0 .s, .P p59 (.lens q58) tI, .bn p60 .lss q57 q59 .b]) (.cond q60 .skip (.exit 4))) (.seq (.block 5 (.seq (.oX [.mv p63 q0 .s, .mv p64 q7 tI, .P p65 (.idxs q63 q64) tC, .mv p8 q65 tC]) (.seq (.oX [.mv p66 q8 tC, .bn p67 .geq q66 (.c (.int .u8 (.ofNat 97))) .b, .mv p68 q67 .b, .ge p68 (XL.of [.G p68 true p69 (.mov q8) tC, .G p68 true p70 (.bin .leq q69 (.c (.int .u8 (.ofNat 122)))) .b, .P p71 (.pick q68 q70 (cb false)) .b]) p71 .b, .mv p72 q71 .b, .ge p72 (XL.of [.G p72 false p73 (.mov q8) tC, .G p72 false p74 (.bin .geq q73 (.c (.int .u8 (.ofNat 65)))) .b, .G p72 false p75 (.mov q74) .b, .ge p75 (XL.of [.G p75 true p76 (.mov q8) tC, .G p75 true p77 (.bin .leq q76 (.c (.int .u8 (.ofNat 90)))) .b, .G p72 false p78 (.pick q75 q77 (cb false)) .b]) p78 .b, .P p79 (.pick q72 (cb true) q78) .b]) p79 .b, .mv p80 q79 .b, .ge p80 (XL.of [.G p80 false p81 (.mov q8) tC, .G p80 false p82 (.bin .eql q81 (.c (.int .u8 (.ofNat 95)))) .b, .P p83 (.pick q80 (cb true) q82) .b]) p83 .b, .mv p84 q83 .b, .ge p84 (XL.of [.G p84 false p85 (.mov q7) tI, .G p84 false p86 (.bin .gtr q85 (ci 0)) .b, .G p84 false p87 (.mov q86) .b, .ge p87 (XL.of [.G p87 true p88 (.mov q8) tC, .G p87 true p89 (.bin .geq q88 (.c (.int .u8 (.ofNat 48)))) .b, .G p84 false p90 (.pick q87 q89 (cb false)) .b]) p90 .b, .G p84 false p91 (.mov q90) .b, .ge p91 (XL.of [.G p91 true p92 (.mov q8) tC, .G p91 true p93 (.bin .leq q92 (.c (.int .u8 (.ofNat 57)))) .b, .G p84 false p94 (.pick q91 q93 (cb false)) .b]) p94 .b, .P p95 (.pick q84 (cb true) q94) .b]) p95 .b, .P p96 (.un .not q95) .b]) (.cond q96 (.seq (.oX [.mv p2 (cb false) .b]) .ret) .skip)))) (.s (.oX [.mv p61 q7 tI, .bn p62 .add q61 (ci 1) tI, .mv p7 q62 tI]))))
def v95_1 : List Pos := [p0]
def c95_1 : XC := (.seq (.seq (.oX [.mv p49 q0 .s, .P p50 (.lens q49) tI, .bn p51 .lss q50 (ci 1) .b, .mv p52 q51 .b, .ge p52 (XL.of [.G p52 false p53 (.mov q0) .s, .G p52 false p54 (.lens q53) tI, .G p52 false p55 (.bin .gtr q54 (ci 40)) .b, .P p56 (.pick q52 (cb true) q55) .b]) p56 .b]) (.cond q56 (.seq (.oX [.mv p2 (cb false) .b]) .ret) .skip)) (.sj v95_2 (.sO [.mv p7 (ci 0) tI] (.block 4 (.loop v95_3 c95_3b))) c95_2))
def v95_4 : List Pos := [p0, p3, p5]
def c95_4 : XC := (.sO [.mv p44 q5 .b] (.cond q44 (.s (.oX [.mv p45 q0 .s, .mv p46 q3 tI, .bn p47 .add q46 (ci 1) tI, .P p48 (.slice .str q45 (some q47) none none) .s, .mv p0 q48 .s])) (.s .skip)))
def v95_5 : List Pos := [p0, p3, p5, p6]
def c95_5b : XC := (.seq (.seq (.oX [.mv p26 q6 tI, .mv p27 q3 tI, .bn p28 .lss q26 q27 .b]) (.cond q28 .skip (.exit 2))) (.seq (.block 3 (.oX [.mv p31 q5 .b, .mv p32 q31 .b, .ge p32 (XL.of [.G p32 true p33 (.mov q0) .s, .G p32 true p34 (.mov q6) tI, .G p32 true p35 (.idxs q33 q34) tC, .G p32 true p36 (.bin .geq q35 (.c (.int .u8 (.ofNat 48)))) .b, .P p37 (.pick q32 q36 (cb false)) .b]) p37 .b, .mv p38 q37 .b, .ge p38 (XL.of [.G p38 true p39 (.mov q0) .s, .G p38 true p40 (.mov q6) tI, .G p38 true p41 (.idxs q39 q40) tC, .G p38 true p42 (.bin .leq q41 (.c (.int .u8 (.ofNat 57)))) .b, .P p43 (.pick q38 q42 (cb false)) .b]) p43 .b, .mv p5 q43 .b])) (.s (.oX [.mv p29 q6 tI, .bn p30 .add q29 (ci 1) tI, .mv p6 q30 tI]))))
def v95_0 : List Pos := [p0, p3]
def c95_0 : XC := (.sj v95_1 (.sO [.mv p24 q3 tI, .bn p25 .gtr q24 (ci 0) .b] (.cond q25 (.sO [.mv p5 (cb true) .b] (.sj v95_4 (.sO [.mv p6 (ci 0) tI] (.block 2 (.loop v95_5 c95_5b))) c95_4)) (.s .skip))) c95_1)
def v95_7 : List Pos := [p0, p3, p4]
def c95_7 : XC := (.s (.oX [.mv p13 q4 tI, .bn p14 .add q13 (ci 1) tI, .mv p4 q14 tI]))
def v95_6 : List Pos := [p0, p3, p4]
def c95_6b : XC := (.seq (.seq (.oX [.mv p9 q4 tI, .mv p10 q0 .s, .P p11 (.lens q10) tI, .bn p12 .lss q9 q11 .b]) (.cond q12 .skip (.exit 0))) (.sj v95_7 (.block 1 (.sO [.mv p15 q0 .s, .mv p16 q4 tI, .P p17 (.idxs q15 q16) tC, .bn p18 .eql q17 (.c (.int .u8 (.ofNat 46))) .b, .mv p19 q18 .b, .ge p19 (XL.of [.G p19 true p20 (.mov q3) tI, .G p19 true p21 (.bin .lss q20 (ci 0)) .b, .P p22 (.pick q19 q21 (cb false)) .b]) p22 .b] (.cond q22 (.s (.oX [.mv p23 q4 tI, .mv p3 q23 tI])) (.s .skip)))) c95_7))
def c95_e : XC := (.sO [.mv p2 (cb false) .b] (.sO [.mv p3 (.c (.int .i64 (.negSucc 0))) tI] (.sj v95_0 (.sO [.mv p4 (ci 0) tI] (.block 0 (.loop v95_6 c95_6b))) c95_0)))
def x95 : XFn := ⟨[.s], false, [(.tmp p2)], c95_e⟩
def e95_2 (k h) := kN k [] h
def S95_2 (D : CallD) (m : Nat) (h : HP) : Res2 :=
 some (.ret (vB true) h, .no)
def e95_3 (k t0 t7 h) := kN k [(p0, (vS t0)), (p7, (vI t7))] h
def S95_3b (D : CallD) (m : Nat) (g3 : LN → Int → HP → Res2) (t0 : LN) (t7 : Int) (h : HP) : Res2 :=
 let t59 := Int.ofNat (lenL t0)
 let t60 := ltQ t7 t59
 br t60 (
 ixC (vS t0) (vI t7) fun vt65 => asI .u8 vt65 fun t65 =>
 let t67 := leQ (Int.ofNat 97) t65
 obB (brV t67 (
 let t70 := leQ t65 (Int.ofNat 122)
 some (vB t70)) (
 some (vB false))) fun t71 =>
 obB (brV t71 (
 some (vB true)) (
 let t74 := leQ (Int.ofNat 65) t65
 obBV (brV t74 (
 let t77 := leQ t65 (Int.ofNat 90)
 some (vB t77)) (
 some (vB false))) fun t78 =>
 some (vB t78))) fun t79 =>
 obB (brV t79 (
 some (vB true)) (
 let t82 := eqQ t65 (Int.ofNat 95)
 some (vB t82))) fun t83 =>
 obB (brV t83 (
 some (vB true)) (
 let t86 := ltQ (Int.ofNat 0) t7
 obBV (brV t86 (
 let t89 := leQ (Int.ofNat 48) t65
 some (vB t89)) (
 some (vB false))) fun t90 =>
 obBV (brV t90 (
 let t93 := leQ t65 (Int.ofNat 57)
 some (vB t93)) (
 some (vB false))) fun t94 =>
 some (vB t94))) fun t95 =>
 let t96 := !t95
 br t96 (
 some (.ret (vB false) h, .no)) (
 let t62 := wrQ .i64 (addQ t7 (Int.ofNat 1))
 g3 t0 t62 h)) (
 S95_2 D m h)
def S95_3 (D : CallD) (m : Nat) : LN → Int → HP → Res2 := nrec (fun _ _ _ => none) (fun _ g => S95_3b D m g) m
def e95_1 (k t0 h) := kN k [(p0, (vS t0))] h
def S95_1 (D : CallD) (m : Nat) (t0 : LN) (h : HP) : Res2 :=
 let t50 := Int.ofNat (lenL t0)
 let t51 := ltQ t50 (Int.ofNat 1)
 obB (brV t51 (
 some (vB true)) (
 let t54 := Int.ofNat (lenL t0)
 let t55 := ltQ (Int.ofNat 40) t54
 some (vB t55))) fun t56 =>
 br t56 (
 some (.ret (vB false) h, .no)) (
 S95_3 D m t0 (Int.ofNat 0) h)
def e95_4 (k t0 t3 t5 h) := kN k [(p0, (vS t0)), (p3, (vI t3)), (p5, (vB t5))] h
def S95_4 (D : CallD) (m : Nat) (t0 : LN) (t3 : Int) (t5 : Bool) (h : HP) : Res2 :=
 br t5 (
 let t47 := wrQ .i64 (addQ t3 (Int.ofNat 1))
 slC (vS t0) (some (vI t47)) none fun vt48 => asS vt48 fun t48 =>
 S95_1 D m t48 h) (
 S95_1 D m t0 h)
def e95_5 (k t0 t3 t5 t6 h) := kN k [(p0, (vS t0)), (p3, (vI t3)), (p5, (vB t5)), (p6, (vI t6))] h
def S95_5b (D : CallD) (m : Nat) (g5 : LN → Int → Bool → Int → HP → Res2) (t0 : LN) (t3 : Int) (t5 : Bool) (t6 : Int) (h : HP) : Res2 :=
 let t28 := ltQ t6 t3
 br t28 (
 obB (brV t5 (
 ixCV (vS t0) (vI t6) fun vt35 => asIV .u8 vt35 fun t35 =>
 let t36 := leQ (Int.ofNat 48) t35
 some (vB t36)) (
 some (vB false))) fun t37 =>
 obB (brV t37 (
 ixCV (vS t0) (vI t6) fun vt41 => asIV .u8 vt41 fun t41 =>
 let t42 := leQ t41 (Int.ofNat 57)
 some (vB t42)) (
 some (vB false))) fun t43 =>
 let t30 := wrQ .i64 (addQ t6 (Int.ofNat 1))
 g5 t0 t3 t43 t30 h) (
 S95_4 D m t0 t3 t5 h)
def S95_5 (D : CallD) (m : Nat) : LN → Int → Bool → Int → HP → Res2 := nrec (fun _ _ _ _ _ => none) (fun _ g => S95_5b D m g) m
def e95_0 (k t0 t3 h) := kN k [(p0, (vS t0)), (p3, (vI t3))] h
def S95_0 (D : CallD) (m : Nat) (t0 : LN) (t3 : Int) (h : HP) : Res2 :=
 let t25 := ltQ (Int.ofNat 0) t3
 br t25 (
 S95_5 D m t0 t3 true (Int.ofNat 0) h) (
 S95_1 D m t0 h)
def e95_7 (k t0 t3 t4 h) := kN k [(p0, (vS t0)), (p3, (vI t3)), (p4, (vI t4))] h
def S95_7 (D : CallD) (m : Nat) (g6 : LN → Int → Int → HP → Res2) (t0 : LN) (t3 t4 : Int) (h : HP) : Res2 :=
 let t14 := wrQ .i64 (addQ t4 (Int.ofNat 1))
 g6 t0 t3 t14 h
def e95_6 (k t0 t3 t4 h) := kN k [(p0, (vS t0)), (p3, (vI t3)), (p4, (vI t4))] h
def S95_6b (D : CallD) (m : Nat) (g6 : LN → Int → Int → HP → Res2) (t0 : LN) (t3 t4 : Int) (h : HP) : Res2 :=
 let t11 := Int.ofNat (lenL t0)
 let t12 := ltQ t4 t11
 br t12 (
 ixC (vS t0) (vI t4) fun vt17 => asI .u8 vt17 fun t17 =>
 let t18 := eqQ t17 (Int.ofNat 46)
 obB (brV t18 (
 let t21 := ltQ t3 (Int.ofNat 0)
 some (vB t21)) (
 some (vB false))) fun t22 =>
 br t22 (
 S95_7 D m g6 t0 t4 t4 h) (
 S95_7 D m g6 t0 t3 t4 h)) (
 S95_0 D m t0 t3 h)
def S95_6 (D : CallD) (m : Nat) : LN → Int → Int → HP → Res2 := nrec (fun _ _ _ _ => none) (fun _ g => S95_6b D m g) m
def e95_8 (k t0 h) := kN k [(p0, (vS t0))] h
def S95_8 (D : CallD) (m : Nat) (t0 : LN) (h : HP) : Res2 :=
 S95_6 D m t0 (Int.negSucc 0) (Int.ofNat 0) h
def S95 : SFn := fun D m args h u => nou u <| popS args fun t0 args => endA args (S95_8 D m t0 h)
theorem T95_2 (hE : FX x95 D m E) : S95_2 D m = e95_2 (E c95_2 []) := by unfold S95_2; rw [hE c95_2]; kernel_rfl
theorem T95_3b (hE : FX x95 D m E) (G3) : S95_3b D m (e95_3 G3) = e95_3 (E c95_3b [.lp v95_3 G3, .blk 4, .sj v95_2 c95_2]) := by unfold S95_3b; rw [T95_2 hE, hE c95_3b]; kernel_rfl
theorem T95_3 (hE : FX x95 D m E) : S95_3 D m = e95_3 (nrec (fun _ => none) (fun _ G3 st => E c95_3b [.lp v95_3 G3, .blk 4, .sj v95_2 c95_2] st) m) :=
  nrec_emb e95_3 (fun _ _ _ => none) (fun g => S95_3b D m g) (fun G3 st => E c95_3b [.lp v95_3 G3, .blk 4, .sj v95_2 c95_2] st) rfl (fun g => T95_3b hE g) m
theorem T95_1 (hE : FX x95 D m E) : S95_1 D m = e95_1 (E c95_1 []) := by unfold S95_1; rw [T95_3 hE, hE c95_1]; kernel_rfl
theorem T95_4 (hE : FX x95 D m E) : S95_4 D m = e95_4 (E c95_4 [.sj v95_1 c95_1]) := by unfold S95_4; rw [T95_1 hE, hE c95_4]; kernel_rfl
theorem T95_5b (hE : FX x95 D m E) (G5) : S95_5b D m (e95_5 G5) = e95_5 (E c95_5b [.lp v95_5 G5, .blk 2, .sj v95_4 c95_4, .sj v95_1 c95_1]) := by unfold S95_5b; rw [T95_4 hE, hE c95_5b]; kernel_rfl
theorem T95_5 (hE : FX x95 D m E) : S95_5 D m = e95_5 (nrec (fun _ => none) (fun _ G5 st => E c95_5b [.lp v95_5 G5, .blk 2, .sj v95_4 c95_4, .sj v95_1 c95_1] st) m) :=
  nrec_emb e95_5 (fun _ _ _ _ _ => none) (fun g => S95_5b D m g) (fun G5 st => E c95_5b [.lp v95_5 G5, .blk 2, .sj v95_4 c95_4, .sj v95_1 c95_1] st) rfl (fun g => T95_5b hE g) m
theorem T95_0 (hE : FX x95 D m E) : S95_0 D m = e95_0 (E c95_0 []) := by unfold S95_0; rw [T95_5 hE, T95_1 hE, hE c95_0]; kernel_rfl
theorem T95_7 (hE : FX x95 D m E) (G6) : S95_7 D m (e95_6 G6) = e95_7 (E c95_7 [.lp v95_6 G6, .blk 0, .sj v95_0 c95_0]) := by unfold S95_7; rw [hE c95_7]; kernel_rfl
theorem T95_6b (hE : FX x95 D m E) (G6) : S95_6b D m (e95_6 G6) = e95_6 (E c95_6b [.lp v95_6 G6, .blk 0, .sj v95_0 c95_0]) := by unfold S95_6b; rw [T95_7 hE G6, T95_0 hE, hE c95_6b]; kernel_rfl
theorem T95_6 (hE : FX x95 D m E) : S95_6 D m = e95_6 (nrec (fun _ => none) (fun _ G6 st => E c95_6b [.lp v95_6 G6, .blk 0, .sj v95_0 c95_0] st) m) :=
  nrec_emb e95_6 (fun _ _ _ _ => none) (fun g => S95_6b D m g) (fun G6 st => E c95_6b [.lp v95_6 G6, .blk 0, .sj v95_0 c95_0] st) rfl (fun g => T95_6b hE g) m
theorem T95_8 (hE : FX x95 D m E) : S95_8 D m = e95_8 (E c95_e []) := by unfold S95_8; rw [T95_6 hE, hE c95_e]; kernel_rfl
theorem X95 : XTie S95 x95 := X_of fun D m E hE args h u => by unfold S95; rw [T95_8 hE]; kernel_rfl
/- 96 -/
def c96_e : XC := (.sO [.al p2 (.box q0), .mv p4 (ci 0) tI] (.seq (.seq (.oX [.mv p5 q1 tI, .bn p6 .lss q5 (ci 0) .b, .mv p7 q6 .b, .ge p7 (XL.of [.G p7 false p8 (.mov q1) tI, .G p7 false p9 (.faddr 3 q2) .v, .o ⟨(some p10), (.l (.cell q9)), (some (p7, false)), []⟩ .v, .G p7 false p11 (.lenl q10) tI, .G p7 false p12 (.bin .geq q8 q11) .b, .P p13 (.pick q7 (cb true) q12) .b]) p13 .b]) (.cond q13 (.seq (.oX [.mv p4 (ci 0) tI]) .ret) .skip)) (.sO [.fa p14 3 q2, .ld p15 q14 .v, .mv p16 q1 tI, .P p17 (.iaddr (.sl 1) q15 q16) .v, .ld p18 q17 tI, .mv p4 q18 tI] (.s .ret))))
def x96 : XFn := ⟨[.v, tI], false, [(.tmp p4)], c96_e⟩
def e96_0 (k t0 t1 h) := kN k [(p0, t0), (p1, (vI t1))] h
def S96_0 (D : CallD) (m : Nat) (t0 : AV) (t1 : Int) (h : HP) : Res2 :=
 let t2 := AV.ptr (HP.nxQ h) 0
 let h1 := HP.newQ h (.cells true (AV.cells t0))
 let t6 := ltQ t1 (Int.ofNat 0)
 obB (brV t6 (
 some (vB true)) (
 let t9 := (AV.ptr (HP.nxQ h) (Nat.add 0 3))
 cellCV t9 h1 fun t10 =>
 lenCV t10 fun vt11 => asIV .i64 vt11 fun t11 =>
 let t12 := leQ t11 t1
 some (vB t12))) fun t13 =>
 br t13 (
 some (.ret (vI (Int.ofNat 0)) h1, .no)) (
 let t14 := (AV.ptr (HP.nxQ h) (Nat.add 0 3))
 cellC t14 h1 fun t15 =>
 iasC 1 t15 (vI t1) fun t17 =>
 ldI t17 h1 fun t18 =>
 some (.ret (vI t18) h1, .no))
def S96 : SFn := fun D m args h u => nou u <| popV args fun t0 args => popI .i64 args fun t1 args => endA args (S96_0 D m t0 t1 h)
theorem T96_0 (hE : FX x96 D m E) : S96_0 D m = e96_0 (E c96_e []) := by unfold S96_0; rw [hE c96_e]; kernel_rfl
theorem X96 : XTie S96 x96 := X_of fun D m E hE args h u => by unfold S96; rw [T96_0 hE]; kernel_rfl
/- 97 -/
def c97_8 : XC := (.s .ret)
def l97_7 : XL := (XL.of [.mv p4 q238 .b])
def l97_6 : XL := (XL.pre [.P p238 (.pick q223 q237 (cb false)) .b, .jn p223 [p238]] l97_7)
def l97_5 : XL := (XL.pre [.mv p223 q222 .b, .sp p223, .G p223 true p224 (.faddr 0 q3) .v, .o ⟨(some p225), (.l (.cell q224)), (some (p223, true)), []⟩ tI, .G p223 true p226 (.bin .neq q225 (ci 3)) .b, .G p223 true p227 (.mov q226) .b, .sp p227, .o ⟨(some p228), (.l (.cells 6 q2)), (some (p227, false)), []⟩ .v, .G p227 false p229 (.faddr 2 q3) .v, .o ⟨(some p230), (.l (.cell q229)), (some (p227, false)), []⟩ tI, .o ⟨(some p232), (.l (.cells 6 q2)), (some (p227, false)), []⟩ .v, .G p227 false p233 (.faddr 1 q3) .v, .o ⟨(some p234), (.l (.cell q233)), (some (p227, false)), []⟩ tI, .o ⟨(some p231), (.call (.fn 96) [q228, q230]), (some (p227, false)), [⟨(some (p227, false)), .cells 6 q2, p232⟩, ⟨(some (p227, false)), .cell q233, p234⟩]⟩ tI, .o ⟨(some p235), (.call (.fn 96) [q232, q234]), (some (p227, false)), []⟩ tI, .G p227 false p236 (.bin .eql q231 q235) .b, .G p223 true p237 (.pick q227 (cb true) q236) .b, .jn p227 [p223, p237]] l97_6)
def l97_4 : XL := (XL.pre [.mv p215 q214 .b, .sp p215, .o ⟨(some p216), (.l (.cells 6 q2)), (some (p215, true)), []⟩ .v, .G p215 true p217 (.faddr 3 q3) .v, .o ⟨(some p218), (.l (.cell q217)), (some (p215, true)), []⟩ tI, .G p215 true p219 (.iaddr (.arr 3 1) q6 (ci 2)) .v, .o ⟨(some p220), (.l (.cell q219)), (some (p215, true)), []⟩ tI, .o ⟨(some p221), (.call (.fn 147) [q216, q218, q220]), (some (p215, true)), []⟩ .b, .P p222 (.pick q215 q221 (cb false)) .b, .jn p215 [p2, p3, p222]] l97_5)
def v97_3 : List Pos := [p2, p3]
def c97_3 : XC := (.sO [.fa p198 0 q3, .ld p199 q198 tI, .cl p200 146 [q199] .v, .al p6 (.new [(kI 0), (kI 0), (kI 0)]), .ss 3 q6 q200] (.opq true (XL.pre [.L p201 (.cells 6 q2) .v, .fa p202 1 q3, .ld p203 q202 tI, .P p204 (.iaddr (.arr 3 1) q6 (ci 0)) .v, .ld p205 q204 tI, .cl p206 147 [q201, q203, q205] .b, .mv p207 q206 .b, .sp p207, .o ⟨(some p208), (.l (.cells 6 q2)), (some (p207, true)), []⟩ .v, .G p207 true p209 (.faddr 2 q3) .v, .o ⟨(some p210), (.l (.cell q209)), (some (p207, true)), []⟩ tI, .G p207 true p211 (.iaddr (.arr 3 1) q6 (ci 1)) .v, .o ⟨(some p212), (.l (.cell q211)), (some (p207, true)), []⟩ tI, .o ⟨(some p213), (.call (.fn 147) [q208, q210, q212]), (some (p207, true)), []⟩ .b, .P p214 (.pick q207 q213 (cb false)) .b, .jn p207 [p2, p3, p6, p214]] l97_4) c97_8))
def c97_11 : XC := (.s .ret)
def l97_10 : XL := (XL.of [.mv p4 q197 .b])
def l97_9 : XL := (XL.pre [.P p197 (.pick q186 q196 (cb false)) .b, .jn p186 [p197]] l97_10)
def v97_2 : List Pos := [p2, p3]
def c97_2 : XC := (.sj v97_3 (.sO [.fa p175 0 q3, .ld p176 q175 tI, .bn p177 .eql q176 (ci 17) .b] (.cond q177 (.opq false (XL.pre [.fa p178 1 q3, .ld p179 q178 tI, .bn p180 .eql q179 (ci 0) .b, .mv p181 q180 .b, .ge p181 (XL.of [.G p181 true p182 (.faddr 3 q3) .v, .o ⟨(some p183), (.l (.cell q182)), (some (p181, true)), []⟩ tI, .G p181 true p184 (.bin .eql q183 (ci 0)) .b, .P p185 (.pick q181 q184 (cb false)) .b]) p185 .b, .mv p186 q185 .b, .sp p186, .G p186 true p187 (.faddr 2 q3) .v, .o ⟨(some p188), (.l (.cell q187)), (some (p186, true)), []⟩ tI, .G p186 true p189 (.bin .eql q188 (.c (.int .i64 (.negSucc 0)))) .b, .G p186 true p190 (.mov q189) .b, .sp p190, .o ⟨(some p191), (.l (.cells 6 q2)), (some (p190, false)), []⟩ .v, .G p190 false p192 (.faddr 2 q3) .v, .o ⟨(some p193), (.l (.cell q192)), (some (p190, false)), []⟩ tI, .o ⟨(some p194), (.call (.fn 96) [q191, q193]), (some (p190, false)), []⟩ tI, .G p190 false p195 (.bin .neq q194 (ci 0)) .b, .G p186 true p196 (.pick q190 (cb true) q195) .b, .jn p190 [p186, p196]] l97_9) c97_11) (.s .skip))) c97_3)
def c97_15 : XC := (.s .ret)
def l97_14 : XL := (XL.of [.mv p4 q174 .b])
def l97_13 : XL := (XL.pre [.P p174 (.pick q163 q173 (cb false)) .b, .jn p163 [p174]] l97_14)
def v97_12 : List Pos := [p2, p3]
def c97_12 : XC := (.opq false (XL.pre [.fa p155 2 q3, .ld p156 q155 tI, .bn p157 .eql q156 (ci 0) .b, .mv p158 q157 .b, .ge p158 (XL.of [.G p158 true p159 (.faddr 3 q3) .v, .o ⟨(some p160), (.l (.cell q159)), (some (p158, true)), []⟩ tI, .G p158 true p161 (.bin .eql q160 (ci 0)) .b, .P p162 (.pick q158 q161 (cb false)) .b]) p162 .b, .mv p163 q162 .b, .sp p163, .G p163 true p164 (.faddr 1 q3) .v, .o ⟨(some p165), (.l (.cell q164)), (some (p163, true)), []⟩ tI, .G p163 true p166 (.bin .eql q165 (.c (.int .i64 (.negSucc 0)))) .b, .G p163 true p167 (.mov q166) .b, .sp p167, .o ⟨(some p168), (.l (.cells 6 q2)), (some (p167, false)), []⟩ .v, .G p167 false p169 (.faddr 1 q3) .v, .o ⟨(some p170), (.l (.cell q169)), (some (p167, false)), []⟩ tI, .o ⟨(some p171), (.call (.fn 96) [q168, q170]), (some (p167, false)), []⟩ tI, .G p167 false p172 (.bin .neq q171 (ci 0)) .b, .G p163 true p173 (.pick q167 (cb true) q172) .b, .jn p167 [p163, p173]] l97_13) c97_15)
def v97_16 : List Pos := [p2, p3, p142, p143]
def c97_16b : XC := (.sO [.bn p144 .lss q143 q142 .b] (.seq (.cond q144 .skip (.exit 1)) (.seq (.block 2 (.seq (.oX [.mv p145 q143 tI, .mv p5 q145 tI]) (.seq (.ops true (XL.of [.L p146 (.cells 6 q2) .v, .fa p147 7 q3, .ld p148 q147 .v, .mv p149 q5 tI, .P p150 (.iaddr (.sl 1) q148 q149) .v, .ld p151 q150 tI, .cl p152 96 [q146, q151] tI, .bn p153 .eql q152 (ci 0) .b])) (.cond q153 (.seq (.oX [.mv p4 (cb false) .b]) .ret) .skip)))) (.s (.oX [.bn p154 .add q143 (ci 1) tI, .mv p143 q154 tI])))))
def v97_1 : List Pos := [p2, p3]
def c97_1 : XC := (.sj v97_2 (.sO [.fa p137 0 q3, .ld p138 q137 tI, .bn p139 .eql q138 (ci 16) .b] (.cond q139 (.sj v97_12 (.sO [.fa p140 7 q3, .ld p141 q140 .v, .P p142 (.lenl q141) tI, .mv p143 (ci 0) tI] (.block 1 (.loop v97_16 c97_16b))) c97_12) (.s .skip))) c97_2)
def v97_0 : List Pos := [p2, p3]
def c97_0 : XC := (.seq (.seq (.oX [.fa p65 0 q3, .ld p66 q65 tI, .bn p67 .neq q66 (ci 18) .b, .mv p68 q67 .b, .ge p68 (XL.of [.G p68 true p69 (.faddr 0 q3) .v, .o ⟨(some p70), (.l (.cell q69)), (some (p68, true)), []⟩ tI, .G p68 true p71 (.bin .neq q70 (ci 19)) .b, .P p72 (.pick q68 q71 (cb false)) .b]) p72 .b, .mv p73 q72 .b, .ge p73 (XL.of [.G p73 true p74 (.faddr 8 q3) .v, .o ⟨(some p75), (.l (.cell q74)), (some (p73, true)), []⟩ tI, .G p73 true p76 (.bin .neq q75 (ci 0)) .b, .P p77 (.pick q73 q76 (cb false)) .b]) p77 .b, .mv p78 q77 .b, .ge p78 (XL.of [.G p78 false p79 (.faddr 8 q3) .v, .o ⟨(some p80), (.l (.cell q79)), (some (p78, false)), []⟩ tI, .G p78 false p81 (.bin .lss q80 (ci 0)) .b, .P p82 (.pick q78 (cb true) q81) .b]) p82 .b, .mv p83 q82 .b, .ge p83 (XL.of [.G p83 false p84 (.faddr 8 q3) .v, .o ⟨(some p85), (.l (.cell q84)), (some (p83, false)), []⟩ tI, .G p83 false p86 (.faddr 5 q2) .v, .o ⟨(some p87), (.l (.cell q86)), (some (p83, false)), []⟩ .v, .G p83 false p88 (.lenl q87) tI, .G p83 false p89 (.bin .geq q85 q88) .b, .P p90 (.pick q83 (cb true) q89) .b]) p90 .b]) (.cond q90 (.seq (.oX [.mv p4 (cb false) .b]) .ret) .skip)) (.sj v97_1 (.sO [.fa p91 0 q3, .ld p92 q91 tI] (.block 0 (.sO [.bn p97 .eql q92 (ci 1) .b, .mv p96 q97 .b] (.cond q96 (.s .skip) (.sO [.bn p99 .eql q92 (ci 4) .b, .mv p98 q99 .b] (.cond q98 (.sO [.fa p100 4 q3, .ld p101 q100 tW, .bn p102 .lss q101 (.c (.int .u32 (.ofNat 1))) .b, .mv p103 q102 .b, .ge p103 (XL.of [.G p103 false p104 (.faddr 4 q3) .v, .o ⟨(some p105), (.l (.cell q104)), (some (p103, false)), []⟩ tW, .G p103 false p106 (.bin .gtr q105 (.c (.int .u32 (.ofNat 17)))) .b, .P p107 (.pick q103 (cb true) q106) .b]) p107 .b] (.cond q107 (.sO [.mv p4 (cb false) .b] (.s .ret)) (.s .skip))) (.sO [.bn p109 .eql q92 (ci 5) .b, .mv p108 q109 .b] (.cond q108 (.sO [.fa p110 4 q3, .ld p111 q110 tW, .bn p112 .lss q111 (.c (.int .u32 (.ofNat 45))) .b, .mv p113 q112 .b, .ge p113 (XL.of [.G p113 false p114 (.faddr 4 q3) .v, .o ⟨(some p115), (.l (.cell q114)), (some (p113, false)), []⟩ tW, .G p113 false p116 (.bin .gtr q115 (.c (.int .u32 (.ofNat 48)))) .b, .P p117 (.pick q113 (cb true) q116) .b]) p117 .b] (.cond q117 (.sO [.mv p4 (cb false) .b] (.s .ret)) (.s .skip))) (.sO [.bn p119 .eql q92 (ci 6) .b, .mv p118 q119 .b] (.cond q118 (.sO [.fa p120 4 q3, .ld p121 q120 tW, .bn p122 .lss q121 (.c (.int .u32 (.ofNat 51))) .b, .mv p123 q122 .b, .ge p123 (XL.of [.G p123 false p124 (.faddr 4 q3) .v, .o ⟨(some p125), (.l (.cell q124)), (some (p123, false)), []⟩ tW, .G p123 false p126 (.bin .gtr q125 (.c (.int .u32 (.ofNat 53)))) .b, .P p127 (.pick q123 (cb true) q126) .b]) p127 .b] (.cond q127 (.sO [.mv p4 (cb false) .b] (.s .ret)) (.s .skip))) (.sO [.bn p129 .eql q92 (ci 11) .b, .mv p128 q129 .b] (.cond q128 (.sO [.fa p130 4 q3, .ld p131 q130 tW, .P p132 (.conv (.ii .i64) q131) tI, .fa p133 4 q2, .ld p134 q133 .v, .P p135 (.lenl q134) tI, .bn p136 .geq q132 q135 .b] (.cond q136 (.sO [.mv p4 (cb false) .b] (.s .ret)) (.s .skip))) (.sO [.fa p93 4 q3, .ld p94 q93 tW, .bn p95 .neq q94 (.c (.int .u32 (.ofNat 0))) .b] (.cond q95 (.sO [.mv p4 (cb false) .b] (.s .ret)) (.s .skip))))))))))))))) c97_1))
def c97_19 : XC := (.cond q64 (.sO [.mv p4 (cb false) .b] (.s .ret)) (.s .skip))
def l97_18 : XL := (XL.of [])
def l97_17 : XL := (XL.pre [.P p64 (.pick q49 (cb true) q63) .b, .jn p49 [p2, p3, p64]] l97_18)
def c97_e : XC := (.sO [.al p2 (.box q0), .al p3 (.box q1), .mv p4 (cb false) .b] (.seq (.seq (.oX [.fa p7 0 q3, .ld p8 q7 tI, .bn p9 .lss q8 (ci 1) .b, .mv p10 q9 .b, .ge p10 (XL.of [.G p10 false p11 (.faddr 0 q3) .v, .o ⟨(some p12), (.l (.cell q11)), (some (p10, false)), []⟩ tI, .G p10 false p13 (.bin .gtr q12 (ci 19)) .b, .P p14 (.pick q10 (cb true) q13) .b]) p14 .b, .mv p15 q14 .b, .ge p15 (XL.of [.G p15 false p16 (.faddr 0 q3) .v, .o ⟨(some p17), (.l (.cell q16)), (some (p15, false)), []⟩ tI, .G p15 false p18 (.bin .neq q17 (ci 2)) .b, .G p15 false p19 (.mov q18) .b, .ge p19 (XL.of [.G p19 true p20 (.faddr 5 q3) .v, .o ⟨(some p21), (.l (.cell q20)), (some (p19, true)), []⟩ (.i .u64), .G p19 true p22 (.bin .neq q21 (.c (.int .u64 (.ofNat 0)))) .b, .G p15 false p23 (.pick q19 q22 (cb false)) .b]) p23 .b, .P p24 (.pick q15 (cb true) q23) .b]) p24 .b, .mv p25 q24 .b, .ge p25 (XL.of [.G p25 false p26 (.faddr 0 q3) .v, .o ⟨(some p27), (.l (.cell q26)), (some (p25, false)), []⟩ tI, .G p25 false p28 (.bin .neq q27 (ci 16)) .b, .G p25 false p29 (.mov q28) .b, .ge p29 (XL.of [.G p29 true p30 (.faddr 7 q3) .v, .o ⟨(some p31), (.l (.cell q30)), (some (p29, true)), []⟩ .v, .G p29 true p32 (.lenl q31) tI, .G p29 true p33 (.bin .gtr q32 (ci 0)) .b, .G p25 false p34 (.pick q29 q33 (cb false)) .b]) p34 .b, .P p35 (.pick q25 (cb true) q34) .b]) p35 .b]) (.cond q35 (.seq (.oX [.mv p4 (cb false) .b]) .ret) .skip)) (.sj v97_0 (.opq false (XL.pre [.fa p36 0 q3, .ld p37 q36 tI, .bn p38 .neq q37 (ci 10) .b, .mv p39 q38 .b, .ge p39 (XL.of [.G p39 true p40 (.faddr 0 q3) .v, .o ⟨(some p41), (.l (.cell q40)), (some (p39, true)), []⟩ tI, .G p39 true p42 (.bin .neq q41 (ci 16)) .b, .P p43 (.pick q39 q42 (cb false)) .b]) p43 .b, .mv p44 q43 .b, .ge p44 (XL.of [.G p44 true p45 (.faddr 6 q3) .v, .o ⟨(some p46), (.l (.cell q45)), (some (p44, true)), []⟩ .s, .G p44 true p47 (.bin .neq q46 (.c (.str []))) .b, .P p48 (.pick q44 q47 (cb false)) .b]) p48 .b, .mv p49 q48 .b, .sp p49, .G p49 false p50 (.faddr 0 q3) .v, .o ⟨(some p51), (.l (.cell q50)), (some (p49, false)), []⟩ tI, .G p49 false p52 (.bin .eql q51 (ci 10)) .b, .G p49 false p53 (.mov q52) .b, .ge p53 (XL.of [.G p53 false p54 (.faddr 0 q3) .v, .o ⟨(some p55), (.l (.cell q54)), (some (p53, false)), []⟩ tI, .G p53 false p56 (.bin .eql q55 (ci 16)) .b, .G p49 false p57 (.pick q53 (cb true) q56) .b]) p57 .b, .G p49 false p58 (.mov q57) .b, .sp p58, .G p58 true p59 (.faddr 6 q3) .v, .o ⟨(some p60), (.l (.cell q59)), (some (p58, true)), []⟩ .s, .o ⟨(some p61), (.call (.fn 95) [q60]), (some (p58, true)), []⟩ .b, .G p58 true p62 (.un .not q61) .b, .G p49 false p63 (.pick q58 q62 (cb false)) .b, .jn p58 [p2, p3, p49, p63]] l97_17) c97_19) c97_0)))
def x97 : XFn := ⟨[.v, .v], false, [(.tmp p4)], c97_e⟩
def e97_7 (k t238 h) := kN k [(p238, (vB t238))] h
def S97_7 (D : CallD) (m : Nat) (t238 : Bool) (h : HP) : Res2 :=
 some (.ret (vB t238) h, .no)
def e97_6 (k t223 t237 h) := kN k [(p223, (vB t223)), (p237, (vB t237))] h
def S97_6 (D : CallD) (m : Nat) (t223 t237 : Bool) (h : HP) : Res2 :=
 obB (brV t223 (some (vB t237)) (some (vB false))) fun t238 =>
 S97_7 D m t238 h
def e97_5 (k t2 t3 t222 h) := kN k [(p2, t2), (p3, t3), (p222, (vB t222))] h
def S97_5 (D : CallD) (m : Nat) (t2 t3 : AV) (t222 : Bool) (h : HP) : Res2 :=
 br t222 (
 faC 0 t3 fun t224 =>
 ldI t224 h fun t225 =>
 let t226 := notQ (eqQ t225 (Int.ofNat 3))
 br t226 (
 S97_6 D m true true h) (
 cellsC 6 t2 h fun t228 =>
 faC 2 t3 fun t229 =>
 ldI t229 h fun t230 =>
 cellsC 6 t2 h fun t232 =>
 faC 1 t3 fun t233 =>
 ldI t233 h fun t234 =>
 cal D 96 [t228, (vI t230)] h fun t231 h29 =>
 br (again [⟨(some (p227, false)), .cells 6 q2, p232⟩, ⟨(some (p227, false)), .cell q233, p234⟩] (mkT [(p234, (vI t234)), (p233, t233), (p232, t232), (p227, (vB false)), (p2, t2)]) h29) (
 asI .i64 t231 fun t231a =>
 cal D 96 [t232, (vI t234)] h29 fun t235 h30 =>
 asI .i64 t235 fun t235a =>
 let t236 := eqQ t231a t235a
 S97_6 D m true t236 h30) none)) (
 S97_7 D m false h)
def e97_4 (k t2 t3 t6 t214 h) := kN k [(p2, t2), (p3, t3), (p6, t6), (p214, (vB t214))] h
def S97_4 (D : CallD) (m : Nat) (t2 t3 t6 : AV) (t214 : Bool) (h : HP) : Res2 :=
 br t214 (
 cellsC 6 t2 h fun t216 =>
 faC 3 t3 fun t217 =>
 ldI t217 h fun t218 =>
 iarC 3 1 t6 (vI (Int.ofNat 2)) fun t219 =>
 ldI t219 h fun t220 =>
 cal D 147 [t216, (vI t218), (vI t220)] h fun t221 h28 =>
 asB t221 fun t221a =>
 S97_5 D m t2 t3 t221a h28) (
 S97_5 D m t2 t3 false h)
def e97_3 (k t2 t3 h) := kN k [(p2, t2), (p3, t3)] h
def S97_3 (D : CallD) (m : Nat) (t2 t3 : AV) (h : HP) : Res2 :=
 faC 0 t3 fun t198 =>
 ldI t198 h fun t199 =>
 cal D 146 [(vI t199)] h fun t200 h23 =>
 let t6 := AV.ptr (HP.nxQ h23) 0
 let h24 := HP.newQ h23 (.cells true [(kI 0), (kI 0), (kI 0)])
 stsC 3 t6 t200 h24 fun h25 =>
 cellsC 6 t2 h25 fun t201 =>
 faC 1 t3 fun t202 =>
 ldI t202 h25 fun t203 =>
 let t204 := (AV.ptr (HP.nxQ h23) (Nat.add 0 (Nat.mul 0 1)))
 ldI t204 h25 fun t205 =>
 cal D 147 [t201, (vI t203), (vI t205)] h25 fun t206 h26 =>
 asB t206 fun t206a =>
 br t206a (
 cellsC 6 t2 h26 fun t208 =>
 faC 2 t3 fun t209 =>
 ldI t209 h26 fun t210 =>
 let t211 := (AV.ptr (HP.nxQ h23) (Nat.add 0 (Nat.mul 1 1)))
 ldI t211 h26 fun t212 =>
 cal D 147 [t208, (vI t210), (vI t212)] h26 fun t213 h27 =>
 asB t213 fun t213a =>
 S97_4 D m t2 t3 t6 t213a h27) (
 S97_4 D m t2 t3 t6 false h26)
def e97_10 (k t197 h) := kN k [(p197, (vB t197))] h
def S97_10 (D : CallD) (m : Nat) (t197 : Bool) (h : HP) : Res2 :=
 some (.ret (vB t197) h, .no)
def e97_9 (k t186 t196 h) := kN k [(p186, (vB t186)), (p196, (vB t196))] h
def S97_9 (D : CallD) (m : Nat) (t186 t196 : Bool) (h : HP) : Res2 :=
 obB (brV t186 (some (vB t196)) (some (vB false))) fun t197 =>
 S97_10 D m t197 h
def e97_2 (k t2 t3 h) := kN k [(p2, t2), (p3, t3)] h
def S97_2 (D : CallD) (m : Nat) (t2 t3 : AV) (h : HP) : Res2 :=
 faC 0 t3 fun t175 =>
 ldI t175 h fun t176 =>
 let t177 := eqQ t176 (Int.ofNat 17)
 br t177 (
 faC 1 t3 fun t178 =>
 ldI t178 h fun t179 =>
 let t180 := eqQ t179 (Int.ofNat 0)
 obB (brV t180 (
 faCV 3 t3 fun t182 =>
 ldIV t182 h fun t183 =>
 let t184 := eqQ t183 (Int.ofNat 0)
 some (vB t184)) (
 some (vB false))) fun t185 =>
 br t185 (
 faC 2 t3 fun t187 =>
 ldI t187 h fun t188 =>
 let t189 := eqQ t188 (Int.negSucc 0)
 br t189 (
 S97_9 D m true true h) (
 cellsC 6 t2 h fun t191 =>
 faC 2 t3 fun t192 =>
 ldI t192 h fun t193 =>
 cal D 96 [t191, (vI t193)] h fun t194 h31 =>
 asI .i64 t194 fun t194a =>
 let t195 := notQ (eqQ t194a (Int.ofNat 0))
 S97_9 D m true t195 h31)) (
 S97_10 D m false h)) (
 S97_3 D m t2 t3 h)
def e97_14 (k t174 h) := kN k [(p174, (vB t174))] h
def S97_14 (D : CallD) (m : Nat) (t174 : Bool) (h : HP) : Res2 :=
 some (.ret (vB t174) h, .no)
def e97_13 (k t163 t173 h) := kN k [(p163, (vB t163)), (p173, (vB t173))] h
def S97_13 (D : CallD) (m : Nat) (t163 t173 : Bool) (h : HP) : Res2 :=
 obB (brV t163 (some (vB t173)) (some (vB false))) fun t174 =>
 S97_14 D m t174 h
def e97_12 (k t2 t3 h) := kN k [(p2, t2), (p3, t3)] h
def S97_12 (D : CallD) (m : Nat) (t2 t3 : AV) (h : HP) : Res2 :=
 faC 2 t3 fun t155 =>
 ldI t155 h fun t156 =>
 let t157 := eqQ t156 (Int.ofNat 0)
 obB (brV t157 (
 faCV 3 t3 fun t159 =>
 ldIV t159 h fun t160 =>
 let t161 := eqQ t160 (Int.ofNat 0)
 some (vB t161)) (
 some (vB false))) fun t162 =>
 br t162 (
 faC 1 t3 fun t164 =>
 ldI t164 h fun t165 =>
 let t166 := eqQ t165 (Int.negSucc 0)
 br t166 (
 S97_13 D m true true h) (
 cellsC 6 t2 h fun t168 =>
 faC 1 t3 fun t169 =>
 ldI t169 h fun t170 =>
 cal D 96 [t168, (vI t170)] h fun t171 h32 =>
 asI .i64 t171 fun t171a =>
 let t172 := notQ (eqQ t171a (Int.ofNat 0))
 S97_13 D m true t172 h32)) (
 S97_14 D m false h)
def e97_16 (k t2 t3 t142 t143 h) := kN k [(p2, t2), (p3, t3), (p142, (vI t142)), (p143, (vI t143))] h
def S97_16b (D : CallD) (m : Nat) (g16 : AV → AV → Int → Int → HP → Res2) (t2 t3 : AV) (t142 t143 : Int) (h : HP) : Res2 :=
 let t144 := ltQ t143 t142
 br t144 (
 cellsC 6 t2 h fun t146 =>
 faC 7 t3 fun t147 =>
 cellC t147 h fun t148 =>
 iasC 1 t148 (vI t143) fun t150 =>
 ldI t150 h fun t151 =>
 cal D 96 [t146, (vI t151)] h fun t152 h33 =>
 asI .i64 t152 fun t152a =>
 let t153 := eqQ t152a (Int.ofNat 0)
 br t153 (
 some (.ret (vB false) h33, .no)) (
 let t154 := wrQ .i64 (addQ t143 (Int.ofNat 1))
 g16 t2 t3 t142 t154 h33)) (
 S97_12 D m t2 t3 h)
def S97_16 (D : CallD) (m : Nat) : AV → AV → Int → Int → HP → Res2 := nrec (fun _ _ _ _ _ => none) (fun _ g => S97_16b D m g) m
def e97_1 (k t2 t3 h) := kN k [(p2, t2), (p3, t3)] h
def S97_1 (D : CallD) (m : Nat) (t2 t3 : AV) (h : HP) : Res2 :=
 faC 0 t3 fun t137 =>
 ldI t137 h fun t138 =>
 let t139 := eqQ t138 (Int.ofNat 16)
 br t139 (
 faC 7 t3 fun t140 =>
 cellC t140 h fun t141 =>
 lenC t141 fun vt142 => asI .i64 vt142 fun t142 =>
 S97_16 D m t2 t3 t142 (Int.ofNat 0) h) (
 S97_2 D m t2 t3 h)
def e97_0 (k t2 t3 h) := kN k [(p2, t2), (p3, t3)] h
def S97_0 (D : CallD) (m : Nat) (t2 t3 : AV) (h : HP) : Res2 :=
 faC 0 t3 fun t65 =>
 ldI t65 h fun t66 =>
 let t67 := notQ (eqQ t66 (Int.ofNat 18))
 obB (brV t67 (
 faCV 0 t3 fun t69 =>
 ldIV t69 h fun t70 =>
 let t71 := notQ (eqQ t70 (Int.ofNat 19))
 some (vB t71)) (
 some (vB false))) fun t72 =>
 obB (brV t72 (
 faCV 8 t3 fun t74 =>
 ldIV t74 h fun t75 =>
 let t76 := notQ (eqQ t75 (Int.ofNat 0))
 some (vB t76)) (
 some (vB false))) fun t77 =>
 obB (brV t77 (
 some (vB true)) (
 faCV 8 t3 fun t79 =>
 ldIV t79 h fun t80 =>
 let t81 := ltQ t80 (Int.ofNat 0)
 some (vB t81))) fun t82 =>
 obB (brV t82 (
 some (vB true)) (
 faCV 8 t3 fun t84 =>
 ldIV t84 h fun t85 =>
 faCV 5 t2 fun t86 =>
 cellCV t86 h fun t87 =>
 lenCV t87 fun vt88 => asIV .i64 vt88 fun t88 =>
 let t89 := leQ t88 t85
 some (vB t89))) fun t90 =>
 br t90 (
 some (.ret (vB false) h, .no)) (
 faC 0 t3 fun t91 =>
 ldI t91 h fun t92 =>
 let t97 := eqQ t92 (Int.ofNat 1)
 br t97 (
 S97_1 D m t2 t3 h) (
 let t99 := eqQ t92 (Int.ofNat 4)
 br t99 (
 faC 4 t3 fun t100 =>
 ldW t100 h fun t101 =>
 let t102 := ltQ t101 (Int.ofNat 1)
 obB (brV t102 (
 some (vB true)) (
 faCV 4 t3 fun t104 =>
 ldWV t104 h fun t105 =>
 let t106 := ltQ (Int.ofNat 17) t105
 some (vB t106))) fun t107 =>
 br t107 (
 some (.ret (vB false) h, .no)) (
 S97_1 D m t2 t3 h)) (
 let t109 := eqQ t92 (Int.ofNat 5)
 br t109 (
 faC 4 t3 fun t110 =>
 ldW t110 h fun t111 =>
 let t112 := ltQ t111 (Int.ofNat 45)
 obB (brV t112 (
 some (vB true)) (
 faCV 4 t3 fun t114 =>
 ldWV t114 h fun t115 =>
 let t116 := ltQ (Int.ofNat 48) t115
 some (vB t116))) fun t117 =>
 br t117 (
 some (.ret (vB false) h, .no)) (
 S97_1 D m t2 t3 h)) (
 let t119 := eqQ t92 (Int.ofNat 6)
 br t119 (
 faC 4 t3 fun t120 =>
 ldW t120 h fun t121 =>
 let t122 := ltQ t121 (Int.ofNat 51)
 obB (brV t122 (
 some (vB true)) (
 faCV 4 t3 fun t124 =>
 ldWV t124 h fun t125 =>
 let t126 := ltQ (Int.ofNat 53) t125
 some (vB t126))) fun t127 =>
 br t127 (
 some (.ret (vB false) h, .no)) (
 S97_1 D m t2 t3 h)) (
 let t129 := eqQ t92 (Int.ofNat 11)
 br t129 (
 faC 4 t3 fun t130 =>
 ldW t130 h fun t131 =>
 let t132 := wrapF .i64 t131
 faC 4 t2 fun t133 =>
 cellC t133 h fun t134 =>
 lenC t134 fun vt135 => asI .i64 vt135 fun t135 =>
 let t136 := leQ t135 t132
 br t136 (
 some (.ret (vB false) h, .no)) (
 S97_1 D m t2 t3 h)) (
 faC 4 t3 fun t93 =>
 ldW t93 h fun t94 =>
 let t95 := notQ (eqQ t94 (Int.ofNat 0))
 br t95 (
 some (.ret (vB false) h, .no)) (
 S97_1 D m t2 t3 h)))))))
def e97_18 (k t2 t3 t64 h) := kN k [(p2, t2), (p3, t3), (p64, (vB t64))] h
def S97_18 (D : CallD) (m : Nat) (t2 t3 : AV) (t64 : Bool) (h : HP) : Res2 :=
 br t64 (
 some (.ret (vB false) h, .no)) (
 S97_0 D m t2 t3 h)
def e97_17 (k t2 t3 t49 t63 h) := kN k [(p2, t2), (p3, t3), (p49, (vB t49)), (p63, (vB t63))] h
def S97_17 (D : CallD) (m : Nat) (t2 t3 : AV) (t49 t63 : Bool) (h : HP) : Res2 :=
 obB (brV t49 (some (vB true)) (some (vB t63))) fun t64 =>
 S97_18 D m t2 t3 t64 h
def e97_20 (k t0 t1 h) := kN k [(p0, t0), (p1, t1)] h
def S97_20 (D : CallD) (m : Nat) (t0 t1 : AV) (h : HP) : Res2 :=
 let t2 := AV.ptr (HP.nxQ h) 0
 let h21 := HP.newQ h (.cells true (AV.cells t0))
 let t3 := AV.ptr (HP.nxQ h21) 0
 let h22 := HP.newQ h21 (.cells true (AV.cells t1))
 let t7 := (AV.ptr (HP.nxQ h21) (Nat.add 0 0))
 ldI t7 h22 fun t8 =>
 let t9 := ltQ t8 (Int.ofNat 1)
 obB (brV t9 (
 some (vB true)) (
 let t11 := (AV.ptr (HP.nxQ h21) (Nat.add 0 0))
 ldIV t11 h22 fun t12 =>
 let t13 := ltQ (Int.ofNat 19) t12
 some (vB t13))) fun t14 =>
 obB (brV t14 (
 some (vB true)) (
 let t16 := (AV.ptr (HP.nxQ h21) (Nat.add 0 0))
 ldIV t16 h22 fun t17 =>
 let t18 := notQ (eqQ t17 (Int.ofNat 2))
 obBV (brV t18 (
 let t20 := (AV.ptr (HP.nxQ h21) (Nat.add 0 5))
 cellCV t20 h22 fun vt21 => asIV .u64 vt21 fun t21 =>
 let t22 := notQ (eqQ t21 (Int.ofNat 0))
 some (vB t22)) (
 some (vB false))) fun t23 =>
 some (vB t23))) fun t24 =>
 obB (brV t24 (
 some (vB true)) (
 let t26 := (AV.ptr (HP.nxQ h21) (Nat.add 0 0))
 ldIV t26 h22 fun t27 =>
 let t28 := notQ (eqQ t27 (Int.ofNat 16))
 obBV (brV t28 (
 let t30 := (AV.ptr (HP.nxQ h21) (Nat.add 0 7))
 cellCV t30 h22 fun t31 =>
 lenCV t31 fun vt32 => asIV .i64 vt32 fun t32 =>
 let t33 := ltQ (Int.ofNat 0) t32
 some (vB t33)) (
 some (vB false))) fun t34 =>
 some (vB t34))) fun t35 =>
 br t35 (
 some (.ret (vB false) h22, .no)) (
 let t36 := (AV.ptr (HP.nxQ h21) (Nat.add 0 0))
 ldI t36 h22 fun t37 =>
 let t38 := notQ (eqQ t37 (Int.ofNat 10))
 obB (brV t38 (
 let t40 := (AV.ptr (HP.nxQ h21) (Nat.add 0 0))
 ldIV t40 h22 fun t41 =>
 let t42 := notQ (eqQ t41 (Int.ofNat 16))
 some (vB t42)) (
 some (vB false))) fun t43 =>
 obB (brV t43 (
 let t45 := (AV.ptr (HP.nxQ h21) (Nat.add 0 6))
 ldSV t45 h22 fun t46 =>
 let t47 := !(eqL t46 ([] : LN))
 some (vB t47)) (
 some (vB false))) fun t48 =>
 br t48 (
 S97_18 D m t2 t3 true h22) (
 let t50 := (AV.ptr (HP.nxQ h21) (Nat.add 0 0))
 ldI t50 h22 fun t51 =>
 let t52 := eqQ t51 (Int.ofNat 10)
 obB (brV t52 (
 some (vB true)) (
 let t54 := (AV.ptr (HP.nxQ h21) (Nat.add 0 0))
 ldIV t54 h22 fun t55 =>
 let t56 := eqQ t55 (Int.ofNat 16)
 some (vB t56))) fun t57 =>
 br t57 (
 let t59 := (AV.ptr (HP.nxQ h21) (Nat.add 0 6))
 ldS t59 h22 fun t60 =>
 cal D 95 [(vS t60)] h22 fun t61 h34 =>
 asB t61 fun t61a =>
 let t62 := !t61a
 S97_17 D m t2 t3 false t62 h34) (
 S97_17 D m t2 t3 false false h22)))
def S97 : SFn := fun D m args h u => nou u <| popV args fun t0 args => popV args fun t1 args => endA args (S97_20 D m t0 t1 h)
theorem T97_7 (hE : FX x97 D m E) : S97_7 D m = e97_7 (E (.opq true l97_7 c97_8) []) := by unfold S97_7; rw [hE (.opq true l97_7 c97_8)]; kernel_rfl
theorem T97_6 (hE : FX x97 D m E) : S97_6 D m = e97_6 (E (.opq true l97_6 c97_8) []) := by unfold S97_6; rw [T97_7 hE, hE (.opq true l97_6 c97_8)]; kernel_rfl
theorem T97_5 (hE : FX x97 D m E) : S97_5 D m = e97_5 (E (.opq true l97_5 c97_8) []) := by unfold S97_5; rw [T97_6 hE, T97_7 hE, hE (.opq true l97_5 c97_8)]; kernel_rfl
theorem T97_4 (hE : FX x97 D m E) : S97_4 D m = e97_4 (E (.opq true l97_4 c97_8) []) := by unfold S97_4; rw [T97_5 hE, hE (.opq true l97_4 c97_8)]; kernel_rfl
theorem T97_3 (hE : FX x97 D m E) : S97_3 D m = e97_3 (E c97_3 []) := by unfold S97_3; rw [T97_4 hE, hE c97_3]; kernel_rfl
theorem T97_10 (hE : FX x97 D m E) : S97_10 D m = e97_10 (E (.opq false l97_10 c97_11) [.sj v97_3 c97_3]) := by unfold S97_10; rw [hE (.opq false l97_10 c97_11)]; kernel_rfl
theorem T97_9 (hE : FX x97 D m E) : S97_9 D m = e97_9 (E (.opq false l97_9 c97_11) [.sj v97_3 c97_3]) := by unfold S97_9; rw [T97_10 hE, hE (.opq false l97_9 c97_11)]; kernel_rfl
theorem T97_2 (hE : FX x97 D m E) : S97_2 D m = e97_2 (E c97_2 []) := by unfold S97_2; rw [T97_9 hE, T97_10 hE, T97_3 hE, hE c97_2]; kernel_rfl
theorem T97_14 (hE : FX x97 D m E) : S97_14 D m = e97_14 (E (.opq false l97_14 c97_15) [.sj v97_2 c97_2]) := by unfold S97_14; rw [hE (.opq false l97_14 c97_15)]; kernel_rfl
theorem T97_13 (hE : FX x97 D m E) : S97_13 D m = e97_13 (E (.opq false l97_13 c97_15) [.sj v97_2 c97_2]) := by unfold S97_13; rw [T97_14 hE, hE (.opq false l97_13 c97_15)]; kernel_rfl
theorem T97_12 (hE : FX x97 D m E) : S97_12 D m = e97_12 (E c97_12 [.sj v97_2 c97_2]) := by unfold S97_12; rw [T97_13 hE, T97_14 hE, hE c97_12]; kernel_rfl
theorem T97_16b (hE : FX x97 D m E) (G16) : S97_16b D m (e97_16 G16) = e97_16 (E c97_16b [.lp v97_16 G16, .blk 1, .sj v97_12 c97_12, .sj v97_2 c97_2]) := by unfold S97_16b; rw [T97_12 hE, hE c97_16b]; kernel_rfl
theorem T97_16 (hE : FX x97 D m E) : S97_16 D m = e97_16 (nrec (fun _ => none) (fun _ G16 st => E c97_16b [.lp v97_16 G16, .blk 1, .sj v97_12 c97_12, .sj v97_2 c97_2] st) m) :=
  nrec_emb e97_16 (fun _ _ _ _ _ => none) (fun g => S97_16b D m g) (fun G16 st => E c97_16b [.lp v97_16 G16, .blk 1, .sj v97_12 c97_12, .sj v97_2 c97_2] st) rfl (fun g => T97_16b hE g) m
theorem T97_1 (hE : FX x97 D m E) : S97_1 D m = e97_1 (E c97_1 []) := by unfold S97_1; rw [T97_16 hE, T97_2 hE, hE c97_1]; kernel_rfl
theorem T97_0 (hE : FX x97 D m E) : S97_0 D m = e97_0 (E c97_0 []) := by unfold S97_0; rw [T97_1 hE, hE c97_0]; kernel_rfl
theorem T97_18 (hE : FX x97 D m E) : S97_18 D m = e97_18 (E (.opq false l97_18 c97_19) [.sj v97_0 c97_0]) := by unfold S97_18; rw [T97_0 hE, hE (.opq false l97_18 c97_19)]; kernel_rfl
theorem T97_17 (hE : FX x97 D m E) : S97_17 D m = e97_17 (E (.opq false l97_17 c97_19) [.sj v97_0 c97_0]) := by unfold S97_17; rw [T97_18 hE, hE (.opq false l97_17 c97_19)]; kernel_rfl
theorem T97_20 (hE : FX x97 D m E) : S97_20 D m = e97_20 (E c97_e []) := by unfold S97_20; rw [T97_18 hE, T97_17 hE, hE c97_e]; kernel_rfl
theorem X97 : XTie S97 x97 := X_of fun D m E hE args h u => by unfold S97; rw [T97_20 hE]; kernel_rfl
/- 98 -/
def v98_0 : List Pos := []
def c98_0 : XC := (.sO [.mv p6 (cb true) .b] (.s .ret))
def v98_1 : List Pos := [p1, p2, p3, p14, p15]
def c98_1b : XC := (.sO [.bn p16 .lss q15 q14 .b] (.seq (.cond q16 .skip (.exit 0)) (.seq (.block 1 (.seq (.oX [.mv p17 q15 tI, .mv p7 q17 tI]) (.seq (.ops true (XL.of [.fa p18 3 q3, .ld p19 q18 .v, .mv p20 q1 .v, .mv p21 q7 tI, .P p22 (.iaddr (.sl 1) q20 q21) .v, .ld p23 q22 tI, .P p24 (.iaddr (.sl 1) q19 q23) .v, .ld p25 q24 tI, .mv p26 q2 .v, .mv p27 q7 tI, .P p28 (.iaddr (.sl 1) q26 q27) .v, .ld p29 q28 tI, .bn p30 .neq q25 q29 .b])) (.cond q30 (.seq (.oX [.mv p6 (cb false) .b]) .ret) .skip)))) (.s (.oX [.bn p31 .add q15 (ci 1) tI, .mv p15 q31 tI])))))
def c98_e : XC := (.sO [.al p3 (.box q0), .mv p6 (cb false) .b] (.seq (.seq (.oX [.mv p8 q1 .v, .P p9 (.lenl q8) tI, .mv p10 q2 .v, .P p11 (.lenl q10) tI, .bn p12 .neq q9 q11 .b]) (.cond q12 (.seq (.oX [.mv p6 (cb false) .b]) .ret) .skip)) (.sj v98_0 (.sO [.mv p13 q1 .v, .P p14 (.lenl q13) tI, .mv p15 (ci 0) tI] (.block 0 (.loop v98_1 c98_1b))) c98_0)))
def x98 : XFn := ⟨[.v, .v, .v], false, [(.tmp p6)], c98_e⟩
def e98_0 (k h) := kN k [] h
def S98_0 (D : CallD) (m : Nat) (h : HP) : Res2 :=
 some (.ret (vB true) h, .no)
def e98_1 (k t1 t2 t3 t14 t15 h) := kN k [(p1, t1), (p2, t2), (p3, t3), (p14, (vI t14)), (p15, (vI t15))] h
def S98_1b (D : CallD) (m : Nat) (g1 : AV → AV → AV → Int → Int → HP → Res2) (t1 t2 t3 : AV) (t14 t15 : Int) (h : HP) : Res2 :=
 let t16 := ltQ t15 t14
 br t16 (
 faC 3 t3 fun t18 =>
 cellC t18 h fun t19 =>
 iasC 1 t1 (vI t15) fun t22 =>
 ldI t22 h fun t23 =>
 iasC 1 t19 (vI t23) fun t24 =>
 ldI t24 h fun t25 =>
 iasC 1 t2 (vI t15) fun t28 =>
 ldI t28 h fun t29 =>
 let t30 := notQ (eqQ t25 t29)
 br t30 (
 some (.ret (vB false) h, .no)) (
 let t31 := wrQ .i64 (addQ t15 (Int.ofNat 1))
 g1 t1 t2 t3 t14 t31 h)) (
 S98_0 D m h)
def S98_1 (D : CallD) (m : Nat) : AV → AV → AV → Int → Int → HP → Res2 := nrec (fun _ _ _ _ _ _ => none) (fun _ g => S98_1b D m g) m
def e98_2 (k t0 t1 t2 h) := kN k [(p0, t0), (p1, t1), (p2, t2)] h
def S98_2 (D : CallD) (m : Nat) (t0 t1 t2 : AV) (h : HP) : Res2 :=
 let t3 := AV.ptr (HP.nxQ h) 0
 let h3 := HP.newQ h (.cells true (AV.cells t0))
 lenC t1 fun vt9 => asI .i64 vt9 fun t9 =>
 lenC t2 fun vt11 => asI .i64 vt11 fun t11 =>
 let t12 := notQ (eqQ t9 t11)
 br t12 (
 some (.ret (vB false) h3, .no)) (
 lenC t1 fun vt14 => asI .i64 vt14 fun t14 =>
 S98_1 D m t1 t2 t3 t14 (Int.ofNat 0) h3)
def S98 : SFn := fun D m args h u => nou u <| popV args fun t0 args => popV args fun t1 args => popV args fun t2 args => endA args (S98_2 D m t0 t1 t2 h)
theorem T98_0 (hE : FX x98 D m E) : S98_0 D m = e98_0 (E c98_0 []) := by unfold S98_0; rw [hE c98_0]; kernel_rfl
theorem T98_1b (hE : FX x98 D m E) (G1) : S98_1b D m (e98_1 G1) = e98_1 (E c98_1b [.lp v98_1 G1, .blk 0, .sj v98_0 c98_0]) := by unfold S98_1b; rw [T98_0 hE, hE c98_1b]; kernel_rfl
theorem T98_1 (hE : FX x98 D m E) : S98_1 D m = e98_1 (nrec (fun _ => none) (fun _ G1 st => E c98_1b [.lp v98_1 G1, .blk 0, .sj v98_0 c98_0] st) m) :=
  nrec_emb e98_1 (fun _ _ _ _ _ _ => none) (fun g => S98_1b D m g) (fun G1 st => E c98_1b [.lp v98_1 G1, .blk 0, .sj v98_0 c98_0] st) rfl (fun g => T98_1b hE g) m
theorem T98_2 (hE : FX x98 D m E) : S98_2 D m = e98_2 (E c98_e []) := by unfold S98_2; rw [T98_1 hE, hE c98_e]; kernel_rfl
theorem X98 : XTie S98 x98 := X_of fun D m E hE args h u => by unfold S98; rw [T98_2 hE]; kernel_rfl
/- 115 -/
def v115_0 : List Pos := [p1]
def c115_0 : XC := (.sO [.mv p75 q1 tI, .mv p4 q75 tI, .mv p5 (cb true) .b] (.s .ret))
def v115_2 : List Pos := [p0, p1]
def c115_2b : XC := (.seq (.seq (.oX [.mv p38 q1 tI, .mv p39 q0 .s, .P p40 (.lens q39) tI, .bn p41 .lss q38 q40 .b, .mv p42 q41 .b, .ge p42 (XL.of [.G p42 true p43 (.mov q0) .s, .G p42 true p44 (.mov q1) tI, .G p42 true p45 (.idxs q43 q44) tC, .G p42 true p46 (.bin .neq q45 (.c (.int .u8 (.ofNat 10)))) .b, .P p47 (.pick q42 q46 (cb false)) .b]) p47 .b]) (.cond q47 .skip (.exit 2))) (.block 3 (.s (.oX [.mv p48 q1 tI, .bn p49 .add q48 (ci 1) tI, .mv p1 q49 tI]))))
def v115_3 : List Pos := [p0, p1, p6]
def c115_3 : XC := (.seq (.seq (.oX [.mv p67 q6 tI, .mv p68 q0 .s, .P p69 (.lens q68) tI, .bn p70 .geq q67 q69 .b]) (.cond q70 (.seq (.oX [.mv p71 q1 tI, .mv p4 q71 tI, .mv p5 (cb false) .b]) .ret) .skip)) (.s (.oX [.mv p72 q6 tI, .bn p73 .add q72 (ci 2) tI, .mv p1 q73 tI])))
def v115_5 : List Pos := [p0, p1, p6]
def c115_5 : XC := (.block 5 (.s (.oX [.mv p65 q6 tI, .bn p66 .add q65 (ci 1) tI, .mv p6 q66 tI])))
def c115_7 : XC := (.cond q64 (.s .skip) (.s (.exit 4)))
def l115_6 : XL := (XL.of [])
def v115_4 : List Pos := [p0, p1, p6]
def c115_4b : XC := (.sj v115_5 (.opq false (XL.pre [.mv p55 q6 tI, .mv p56 q0 .s, .P p57 (.lens q56) tI, .bn p58 .lss q55 q57 .b, .mv p59 q58 .b, .sp p59, .G p59 true p60 (.mov q0) .s, .G p59 true p61 (.mov q6) tI, .o ⟨(some p62), (.call (.fn 156) [q60, q61, (.c (.str [42, 47]))]), (some (p59, true)), []⟩ .b, .G p59 true p63 (.un .not q62) .b, .P p64 (.pick q59 q63 (cb false)) .b, .jn p59 [p0, p1, p6, p64]] l115_6) c115_7) c115_5)
def v115_1 : List Pos := [p0, p1]
def c115_1b : XC := (.seq (.seq (.oX [.mv p7 q1 tI, .mv p8 q0 .s, .P p9 (.lens q8) tI, .bn p10 .lss q7 q9 .b]) (.cond q10 .skip (.exit 0))) (.block 1 (.sO [.mv p11 q0 .s, .mv p12 q1 tI, .P p13 (.idxs q11 q12) tC, .bn p14 .eql q13 (.c (.int .u8 (.ofNat 32))) .b, .mv p15 q14 .b, .ge p15 (XL.of [.G p15 false p16 (.mov q0) .s, .G p15 false p17 (.mov q1) tI, .G p15 false p18 (.idxs q16 q17) tC, .G p15 false p19 (.bin .eql q18 (.c (.int .u8 (.ofNat 9)))) .b, .P p20 (.pick q15 (cb true) q19) .b]) p20 .b, .mv p21 q20 .b, .ge p21 (XL.of [.G p21 false p22 (.mov q0) .s, .G p21 false p23 (.mov q1) tI, .G p21 false p24 (.idxs q22 q23) tC, .G p21 false p25 (.bin .eql q24 (.c (.int .u8 (.ofNat 10)))) .b, .P p26 (.pick q21 (cb true) q25) .b]) p26 .b, .mv p27 q26 .b, .ge p27 (XL.of [.G p27 false p28 (.mov q0) .s, .G p27 false p29 (.mov q1) tI, .G p27 false p30 (.idxs q28 q29) tC, .G p27 false p31 (.bin .eql q30 (.c (.int .u8 (.ofNat 13)))) .b, .P p32 (.pick q27 (cb true) q31) .b]) p32 .b] (.cond q32 (.s (.oX [.mv p33 q1 tI, .bn p34 .add q33 (ci 1) tI, .mv p1 q34 tI])) (.sO [.mv p35 q0 .s, .mv p36 q1 tI, .cl p37 156 [q35, q36, (.c (.str [47, 47]))] .b] (.cond q37 (.block 2 (.loop v115_2 c115_2b)) (.sO [.mv p50 q0 .s, .mv p51 q1 tI, .cl p52 156 [q50, q51, (.c (.str [47, 42]))] .b] (.cond q52 (.sO [.mv p53 q1 tI, .bn p54 .add q53 (ci 2) tI, .mv p6 q54 tI] (.sj v115_3 (.block 4 (.loop v115_4 c115_4b)) c115_3)) (.sO [.mv p74 q1 tI, .mv p4 q74 tI, .mv p5 (cb true) .b] (.s .ret))))))))))
def c115_e : XC := (.sO [.mv p4 (ci 0) tI, .mv p5 (cb false) .b] (.sj v115_0 (.block 0 (.loop v115_1 c115_1b)) c115_0))
def x115 : XFn := ⟨[.s, tI], false, [(.tmp p4), (.tmp p5)], c115_e⟩
def e115_0 (k t1 h) := kN k [(p1, (vI t1))] h
def S115_0 (D : CallD) (m : Nat) (t1 : Int) (h : HP) : Res2 :=
 some (.ret (.tup [(vI t1), (vB true)]) h, .no)
def e115_2 (k t0 t1 h) := kN k [(p0, (vS t0)), (p1, (vI t1))] h
def S115_2b (D : CallD) (m : Nat) (g2 : LN → Int → HP → Res2) (g1 : LN → Int → HP → Res2) (t0 : LN) (t1 : Int) (h : HP) : Res2 :=
 let t40 := Int.ofNat (lenL t0)
 let t41 := ltQ t1 t40
 obB (brV t41 (
 ixCV (vS t0) (vI t1) fun vt45 => asIV .u8 vt45 fun t45 =>
 let t46 := notQ (eqQ t45 (Int.ofNat 10))
 some (vB t46)) (
 some (vB false))) fun t47 =>
 br t47 (
 let t49 := wrQ .i64 (addQ t1 (Int.ofNat 1))
 g2 t0 t49 h) (
 g1 t0 t1 h)
def S115_2 (D : CallD) (m : Nat) (g1 : LN → Int → HP → Res2) : LN → Int → HP → Res2 := nrec (fun _ _ _ => none) (fun _ g => S115_2b D m g g1) m
def e115_3 (k t0 t1 t6 h) := kN k [(p0, (vS t0)), (p1, (vI t1)), (p6, (vI t6))] h
def S115_3 (D : CallD) (m : Nat) (g1 : LN → Int → HP → Res2) (t0 : LN) (t1 t6 : Int) (h : HP) : Res2 :=
 let t69 := Int.ofNat (lenL t0)
 let t70 := leQ t69 t6
 br t70 (
 some (.ret (.tup [(vI t1), (vB false)]) h, .no)) (
 let t73 := wrQ .i64 (addQ t6 (Int.ofNat 2))
 g1 t0 t73 h)
def e115_5 (k t0 t1 t6 h) := kN k [(p0, (vS t0)), (p1, (vI t1)), (p6, (vI t6))] h
def S115_5 (D : CallD) (m : Nat) (g4 : LN → Int → Int → HP → Res2) (g1 : LN → Int → HP → Res2) (t0 : LN) (t1 t6 : Int) (h : HP) : Res2 :=
 let t66 := wrQ .i64 (addQ t6 (Int.ofNat 1))
 g4 t0 t1 t66 h
def e115_6 (k t0 t1 t6 t64 h) := kN k [(p0, (vS t0)), (p1, (vI t1)), (p6, (vI t6)), (p64, (vB t64))] h
def S115_6 (D : CallD) (m : Nat) (g4 : LN → Int → Int → HP → Res2) (g1 : LN → Int → HP → Res2) (t0 : LN) (t1 t6 : Int) (t64 : Bool) (h : HP) : Res2 :=
 br t64 (
 S115_5 D m g4 g1 t0 t1 t6 h) (
 S115_3 D m g1 t0 t1 t6 h)
def e115_4 (k t0 t1 t6 h) := kN k [(p0, (vS t0)), (p1, (vI t1)), (p6, (vI t6))] h
def S115_4b (D : CallD) (m : Nat) (g4 : LN → Int → Int → HP → Res2) (g1 : LN → Int → HP → Res2) (t0 : LN) (t1 t6 : Int) (h : HP) : Res2 :=
 let t57 := Int.ofNat (lenL t0)
 let t58 := ltQ t6 t57
 br t58 (
 cal D 156 [(vS t0), (vI t6), (vS ([42, 47] : LN))] h fun t62 h11 =>
 asB t62 fun t62a =>
 let t63 := !t62a
 S115_6 D m g4 g1 t0 t1 t6 t63 h11) (
 S115_6 D m g4 g1 t0 t1 t6 false h)
def S115_4 (D : CallD) (m : Nat) (g1 : LN → Int → HP → Res2) : LN → Int → Int → HP → Res2 := nrec (fun _ _ _ _ => none) (fun _ g => S115_4b D m g g1) m
def e115_1 (k t0 t1 h) := kN k [(p0, (vS t0)), (p1, (vI t1))] h
def S115_1b (D : CallD) (m : Nat) (g1 : LN → Int → HP → Res2) (t0 : LN) (t1 : Int) (h : HP) : Res2 :=
 let t9 := Int.ofNat (lenL t0)
 let t10 := ltQ t1 t9
 br t10 (
 ixC (vS t0) (vI t1) fun vt13 => asI .u8 vt13 fun t13 =>
 let t14 := eqQ t13 (Int.ofNat 32)
 obB (brV t14 (
 some (vB true)) (
 ixCV (vS t0) (vI t1) fun vt18 => asIV .u8 vt18 fun t18 =>
 let t19 := eqQ t18 (Int.ofNat 9)
 some (vB t19))) fun t20 =>
 obB (brV t20 (
 some (vB true)) (
 ixCV (vS t0) (vI t1) fun vt24 => asIV .u8 vt24 fun t24 =>
 let t25 := eqQ t24 (Int.ofNat 10)
 some (vB t25))) fun t26 =>
 obB (brV t26 (
 some (vB true)) (
 ixCV (vS t0) (vI t1) fun vt30 => asIV .u8 vt30 fun t30 =>
 let t31 := eqQ t30 (Int.ofNat 13)
 some (vB t31))) fun t32 =>
 br t32 (
 let t34 := wrQ .i64 (addQ t1 (Int.ofNat 1))
 g1 t0 t34 h) (
 cal D 156 [(vS t0), (vI t1), (vS ([47, 47] : LN))] h fun t37 h9 =>
 asB t37 fun t37a =>
 br t37a (
 S115_2 D m g1 t0 t1 h9) (
 cal D 156 [(vS t0), (vI t1), (vS ([47, 42] : LN))] h9 fun t52 h10 =>
 asB t52 fun t52a =>
 br t52a (
 let t54 := wrQ .i64 (addQ t1 (Int.ofNat 2))
 S115_4 D m g1 t0 t1 t54 h10) (
 some (.ret (.tup [(vI t1), (vB true)]) h10, .no))))) (
 S115_0 D m t1 h)
def S115_1 (D : CallD) (m : Nat) : LN → Int → HP → Res2 := nrec (fun _ _ _ => none) (fun _ g => S115_1b D m g) m
def e115_8 (k t0 t1 h) := kN k [(p0, (vS t0)), (p1, (vI t1))] h
def S115_8 (D : CallD) (m : Nat) (t0 : LN) (t1 : Int) (h : HP) : Res2 :=
 S115_1 D m t0 t1 h
def S115 : SFn := fun D m args h u => nou u <| popS args fun t0 args => popI .i64 args fun t1 args => endA args (S115_8 D m t0 t1 h)
theorem T115_0 (hE : FX x115 D m E) : S115_0 D m = e115_0 (E c115_0 []) := by unfold S115_0; rw [hE c115_0]; kernel_rfl
theorem T115_2b (hE : FX x115 D m E) (G2) (G1) : S115_2b D m (e115_2 G2) (e115_1 G1) = e115_2 (E c115_2b [.lp v115_2 G2, .blk 2, .blk 1, .lp v115_1 G1, .blk 0, .sj v115_0 c115_0]) := by unfold S115_2b; rw [hE c115_2b]; kernel_rfl
theorem T115_2 (hE : FX x115 D m E) (G1) : S115_2 D m (e115_1 G1) = e115_2 (nrec (fun _ => none) (fun _ G2 st => E c115_2b [.lp v115_2 G2, .blk 2, .blk 1, .lp v115_1 G1, .blk 0, .sj v115_0 c115_0] st) m) :=
  nrec_emb e115_2 (fun _ _ _ => none) (fun g => S115_2b D m g (e115_1 G1)) (fun G2 st => E c115_2b [.lp v115_2 G2, .blk 2, .blk 1, .lp v115_1 G1, .blk 0, .sj v115_0 c115_0] st) rfl (fun g => T115_2b hE g G1) m
theorem T115_3 (hE : FX x115 D m E) (G1) : S115_3 D m (e115_1 G1) = e115_3 (E c115_3 [.blk 1, .lp v115_1 G1, .blk 0, .sj v115_0 c115_0]) := by unfold S115_3; rw [hE c115_3]; kernel_rfl
theorem T115_5 (hE : FX x115 D m E) (G4) (G1) : S115_5 D m (e115_4 G4) (e115_1 G1) = e115_5 (E c115_5 [.lp v115_4 G4, .blk 4, .sj v115_3 c115_3, .blk 1, .lp v115_1 G1, .blk 0, .sj v115_0 c115_0]) := by unfold S115_5; rw [hE c115_5]; kernel_rfl
theorem T115_6 (hE : FX x115 D m E) (G4) (G1) : S115_6 D m (e115_4 G4) (e115_1 G1) = e115_6 (E (.opq false l115_6 c115_7) [.sj v115_5 c115_5, .lp v115_4 G4, .blk 4, .sj v115_3 c115_3, .blk 1, .lp v115_1 G1, .blk 0, .sj v115_0 c115_0]) := by unfold S115_6; rw [T115_5 hE G4 G1, T115_3 hE G1, hE (.opq false l115_6 c115_7)]; kernel_rfl
theorem T115_4b (hE : FX x115 D m E) (G4) (G1) : S115_4b D m (e115_4 G4) (e115_1 G1) = e115_4 (E c115_4b [.lp v115_4 G4, .blk 4, .sj v115_3 c115_3, .blk 1, .lp v115_1 G1, .blk 0, .sj v115_0 c115_0]) := by unfold S115_4b; rw [T115_6 hE G4 G1, hE c115_4b]; kernel_rfl
theorem T115_4 (hE : FX x115 D m E) (G1) : S115_4 D m (e115_1 G1) = e115_4 (nrec (fun _ => none) (fun _ G4 st => E c115_4b [.lp v115_4 G4, .blk 4, .sj v115_3 c115_3, .blk 1, .lp v115_1 G1, .blk 0, .sj v115_0 c115_0] st) m) :=
  nrec_emb e115_4 (fun _ _ _ _ => none) (fun g => S115_4b D m g (e115_1 G1)) (fun G4 st => E c115_4b [.lp v115_4 G4, .blk 4, .sj v115_3 c115_3, .blk 1, .lp v115_1 G1, .blk 0, .sj v115_0 c115_0] st) rfl (fun g => T115_4b hE g G1) m
theorem T115_1b (hE : FX x115 D m E) (G1) : S115_1b D m (e115_1 G1) = e115_1 (E c115_1b [.lp v115_1 G1, .blk 0, .sj v115_0 c115_0]) := by unfold S115_1b; rw [T115_2 hE G1, T115_4 hE G1, T115_0 hE, hE c115_1b]; kernel_rfl
theorem T115_1 (hE : FX x115 D m E) : S115_1 D m = e115_1 (nrec (fun _ => none) (fun _ G1 st => E c115_1b [.lp v115_1 G1, .blk 0, .sj v115_0 c115_0] st) m) :=
  nrec_emb e115_1 (fun _ _ _ => none) (fun g => S115_1b D m g) (fun G1 st => E c115_1b [.lp v115_1 G1, .blk 0, .sj v115_0 c115_0] st) rfl (fun g => T115_1b hE g) m
theorem T115_8 (hE : FX x115 D m E) : S115_8 D m = e115_8 (E c115_e []) := by unfold S115_8; rw [T115_1 hE, hE c115_e]; kernel_rfl
theorem X115 : XTie S115 x115 := X_of fun D m E hE args h u => by unfold S115; rw [T115_8 hE]; kernel_rfl
/- 116 -/
def v116_1 : List Pos := [p4, p6, p7]
def c116_1 : XC := (.sO [.L p96 (.cells 3 q6) .v, .mv p97 q7 tI, .ss 3 q4 q96, .mv p5 q97 tI] (.s .ret))
def v116_0 : List Pos := [p0, p1, p4, p6, p7]
def c116_0 : XC := (.sj v116_1 (.sO [.mv p89 q7 tI, .bn p90 .gtr q89 (ci 0) .b] (.cond q90 (.s (.oX [.mv p91 q0 .s, .mv p92 q1 tI, .mv p93 q7 tI, .P p94 (.slice .str q91 (some q92) (some q93) none) .s, .fa p95 1 q6, .st q95 q94])) (.s .skip))) c116_1)
def v116_2 : List Pos := [p0, p1, p4, p6, p7]
def c116_2 : XC := (.sO [.fa p37 0 q6, .st q37 (ci 1)] (.sO [.mv p38 q0 .s, .mv p39 q1 tI, .mv p40 q7 tI, .P p41 (.slice .str q38 (some q39) (some q40) none) .s, .cl p42 159 [q41] .b] (.cond q42 (.s (.oX [.fa p43 0 q6, .st q43 (ci 5)])) (.sO [.mv p44 q7 tI, .mv p45 q1 tI, .bn p46 .sub q44 q45 tI, .bn p47 .gtr q46 (ci 40) .b] (.cond q47 (.sO [.L p48 (.cells 3 q6) .v, .ss 3 q4 q48, .mv p5 (ci 0) tI] (.s .ret)) (.s .skip))))))
def v116_4 : List Pos := [p0, p1, p4, p6, p7]
def c116_4 : XC := (.block 1 (.s (.oX [.mv p35 q7 tI, .bn p36 .add q35 (ci 1) tI, .mv p7 q36 tI])))
def c116_7 : XC := (.cond q34 (.s .skip) (.s (.exit 0)))
def l116_6 : XL := (XL.of [])
def l116_5 : XL := (XL.pre [.P p34 (.pick q23 q33 (cb false)) .b, .jn p23 [p0, p1, p4, p6, p7, p34]] l116_6)
def v116_3 : List Pos := [p0, p1, p4, p6, p7]
def c116_3b : XC := (.sj v116_4 (.opq false (XL.pre [.mv p19 q7 tI, .mv p20 q0 .s, .P p21 (.lens q20) tI, .bn p22 .lss q19 q21 .b, .mv p23 q22 .b, .sp p23, .G p23 true p24 (.mov q0) .s, .G p23 true p25 (.mov q7) tI, .G p23 true p26 (.idxs q24 q25) tC, .o ⟨(some p27), (.call (.fn 157) [q26]), (some (p23, true)), []⟩ .b, .G p23 true p28 (.mov q27) .b, .sp p28, .G p28 false p29 (.mov q0) .s, .G p28 false p30 (.mov q7) tI, .G p28 false p31 (.idxs q29 q30) tC, .o ⟨(some p32), (.call (.fn 158) [q31]), (some (p28, false)), []⟩ .b, .G p23 true p33 (.pick q28 (cb true) q32) .b, .jn p28 [p0, p1, p4, p6, p7, p23, p33]] l116_5) c116_7) c116_4)
def v116_9 : List Pos := [p0, p1, p4, p6, p7]
def c116_9 : XC := (.s (.oX [.fa p88 0 q6, .st q88 (ci 4)]))
def v116_11 : List Pos := [p0, p1, p4, p6, p7, p8, p76]
def c116_11 : XC := (.s (.oX [.bn p87 .add q76 (ci 1) tI, .mv p76 q87 tI]))
def v116_10 : List Pos := [p0, p1, p4, p6, p7, p8, p76]
def c116_10b : XC := (.sO [.bn p77 .lss q76 (ci 8) .b] (.seq (.cond q77 .skip (.exit 4)) (.sj v116_11 (.block 5 (.sO [.mv p78 q76 tI, .mv p11 q78 tI] (.sO [.mv p79 q0 .s, .mv p80 q1 tI, .mv p81 q11 tI, .P p82 (.iaddr (.arr 8 1) q8 q81) .v, .ld p83 q82 .s, .cl p84 156 [q79, q80, q83] .b] (.cond q84 (.s (.oX [.mv p85 q1 tI, .bn p86 .add q85 (ci 2) tI, .mv p7 q86 tI])) (.s .skip))))) c116_11)))
def v116_8 : List Pos := [p0, p1, p4, p6, p7, p8]
def c116_8 : XC := (.sj v116_9 (.sO [.mv p76 (ci 0) tI] (.block 4 (.loop v116_10 c116_10b))) c116_9)
def v116_13 : List Pos := [p0, p1, p4, p6, p7, p8, p9, p10]
def c116_13 : XC := (.s (.oX [.mv p65 q10 tI, .bn p66 .add q65 (ci 1) tI, .mv p10 q66 tI]))
def v116_12 : List Pos := [p0, p1, p4, p6, p7, p8, p9, p10]
def c116_12b : XC := (.seq (.seq (.oX [.mv p61 q10 tI, .mv p62 q9 .s, .P p63 (.lens q62) tI, .bn p64 .lss q61 q63 .b]) (.cond q64 .skip (.exit 2))) (.sj v116_13 (.block 3 (.seq (.ops true (XL.of [.mv p67 q9 .s, .mv p68 q10 tI, .P p69 (.idxs q67 q68) tC, .mv p70 q0 .s, .mv p71 q1 tI, .P p72 (.idxs q70 q71) tC, .bn p73 .eql q69 q72 .b])) (.cond q73 (.s (.oX [.mv p74 q1 tI, .bn p75 .add q74 (ci 1) tI, .mv p7 q75 tI])) (.s .skip)))) c116_13))
def c116_e : XC := (.sO [.al p4 (.new [(kI 0), (.str []), (kI 0)]), .mv p5 (ci 0) tI] (.sO [.mv p12 q1 tI, .P p13 (.build [(kI 0), (.str []), (kI 0)] [⟨2, 1, q12⟩]) .v, .al p6 (.new [(kI 0), (.str []), (kI 0)]), .ss 3 q6 q13] (.sO [.mv p7 (ci 0) tI] (.sj v116_0 (.sO [.mv p14 q0 .s, .mv p15 q1 tI, .P p16 (.idxs q14 q15) tC, .cl p17 157 [q16] .b] (.cond q17 (.sO [.mv p18 q1 tI, .mv p7 q18 tI] (.sj v116_2 (.block 0 (.loop v116_3 c116_3b)) c116_2)) (.sO [.mv p49 q0 .s, .mv p50 q1 tI, .P p51 (.idxs q49 q50) tC, .cl p52 158 [q51] .b] (.cond q52 (.s (.oX [.mv p54 q0 .s, .mv p55 q1 tI, .cl p56 160 [q54, q55] .v, .mv p53 q56 .v, .P p57 (.ext q53 0) tI, .P p58 (.ext q53 1) tI, .fa p59 0 q6, .st q59 q57, .mv p7 q58 tI])) (.sO [.P p60 (.build [(.str []), (.str []), (.str []), (.str []), (.str []), (.str []), (.str []), (.str [])] [⟨0, 1, (.c (.str [60, 60]))⟩, ⟨1, 1, (.c (.str [62, 62]))⟩, ⟨2, 1, (.c (.str [60, 61]))⟩, ⟨3, 1, (.c (.str [62, 61]))⟩, ⟨4, 1, (.c (.str [61, 61]))⟩, ⟨5, 1, (.c (.str [33, 61]))⟩, ⟨6, 1, (.c (.str [38, 38]))⟩, ⟨7, 1, (.c (.str [124, 124]))⟩]) .v, .al p8 (.new [(.str []), (.str []), (.str []), (.str []), (.str []), (.str []), (.str []), (.str [])]), .ss 8 q8 q60] (.sO [.mv p9 (.c (.str [43, 45, 42, 47, 37, 38, 124, 94, 126, 33, 60, 62, 61, 40, 41, 123, 125, 91, 93, 59, 44])) .s] (.sj v116_8 (.sO [.mv p10 (ci 0) tI] (.block 2 (.loop v116_12 c116_12b))) c116_8))))))) c116_0))))
def x116 : XFn := ⟨[.s, tI], false, [(.cells 3 p4), (.tmp p5)], c116_e⟩
def e116_1 (k t4 t6 t7 h) := kN k [(p4, t4), (p6, t6), (p7, (vI t7))] h
def S116_1 (D : CallD) (m : Nat) (t4 t6 : AV) (t7 : Int) (h : HP) : Res2 :=
 cellsC 3 t6 h fun t96 =>
 stsC 3 t4 t96 h fun h18 =>
 cellsC 3 t4 h18 fun t4a =>
 some (.ret (.tup [t4a, (vI t7)]) h18, .no)
def e116_0 (k t0 t1 t4 t6 t7 h) := kN k [(p0, (vS t0)), (p1, (vI t1)), (p4, t4), (p6, t6), (p7, (vI t7))] h
def S116_0 (D : CallD) (m : Nat) (t0 : LN) (t1 : Int) (t4 t6 : AV) (t7 : Int) (h : HP) : Res2 :=
 let t90 := ltQ (Int.ofNat 0) t7
 br t90 (
 slC (vS t0) (some (vI t1)) (some (vI t7)) fun vt94 => asS vt94 fun t94 =>
 faC 1 t6 fun t95 =>
 stoC t95 (vS t94) h fun h19 =>
 S116_1 D m t4 t6 t7 h19) (
 S116_1 D m t4 t6 t7 h)
def e116_2 (k t0 t1 t4 t6 t7 h) := kN k [(p0, (vS t0)), (p1, (vI t1)), (p4, t4), (p6, t6), (p7, (vI t7))] h
def S116_2 (D : CallD) (m : Nat) (t0 : LN) (t1 : Int) (t4 t6 : AV) (t7 : Int) (h : HP) : Res2 :=
 faC 0 t6 fun t37 =>
 stoC t37 (vI (Int.ofNat 1)) h fun h21 =>
 slC (vS t0) (some (vI t1)) (some (vI t7)) fun vt41 => asS vt41 fun t41 =>
 cal D 159 [(vS t41)] h21 fun t42 h22 =>
 asB t42 fun t42a =>
 br t42a (
 faC 0 t6 fun t43 =>
 stoC t43 (vI (Int.ofNat 5)) h22 fun h23 =>
 S116_0 D m t0 t1 t4 t6 t7 h23) (
 let t46 := wrQ .i64 (t7 - t1)
 let t47 := ltQ (Int.ofNat 40) t46
 br t47 (
 cellsC 3 t6 h22 fun t48 =>
 stsC 3 t4 t48 h22 fun h24 =>
 cellsC 3 t4 h24 fun t4a =>
 some (.ret (.tup [t4a, (vI (Int.ofNat 0))]) h24, .no)) (
 S116_0 D m t0 t1 t4 t6 t7 h22))
def e116_4 (k t0 t1 t4 t6 t7 h) := kN k [(p0, (vS t0)), (p1, (vI t1)), (p4, t4), (p6, t6), (p7, (vI t7))] h
def S116_4 (D : CallD) (m : Nat) (g3 : LN → Int → AV → AV → Int → HP → Res2) (t0 : LN) (t1 : Int) (t4 t6 : AV) (t7 : Int) (h : HP) : Res2 :=
 let t36 := wrQ .i64 (addQ t7 (Int.ofNat 1))
 g3 t0 t1 t4 t6 t36 h
def e116_6 (k t0 t1 t4 t6 t7 t34 h) := kN k [(p0, (vS t0)), (p1, (vI t1)), (p4, t4), (p6, t6), (p7, (vI t7)), (p34, (vB t34))] h
def S116_6 (D : CallD) (m : Nat) (g3 : LN → Int → AV → AV → Int → HP → Res2) (t0 : LN) (t1 : Int) (t4 t6 : AV) (t7 : Int) (t34 : Bool) (h : HP) : Res2 :=
 br t34 (
 S116_4 D m g3 t0 t1 t4 t6 t7 h) (
 S116_2 D m t0 t1 t4 t6 t7 h)
def e116_5 (k t0 t1 t4 t6 t7 t23 t33 h) := kN k [(p0, (vS t0)), (p1, (vI t1)), (p4, t4), (p6, t6), (p7, (vI t7)), (p23, (vB t23)), (p33, (vB t33))] h
def S116_5 (D : CallD) (m : Nat) (g3 : LN → Int → AV → AV → Int → HP → Res2) (t0 : LN) (t1 : Int) (t4 t6 : AV) (t7 : Int) (t23 t33 : Bool) (h : HP) : Res2 :=
 obB (brV t23 (some (vB t33)) (some (vB false))) fun t34 =>
 S116_6 D m g3 t0 t1 t4 t6 t7 t34 h
def e116_3 (k t0 t1 t4 t6 t7 h) := kN k [(p0, (vS t0)), (p1, (vI t1)), (p4, t4), (p6, t6), (p7, (vI t7))] h
def S116_3b (D : CallD) (m : Nat) (g3 : LN → Int → AV → AV → Int → HP → Res2) (t0 : LN) (t1 : Int) (t4 t6 : AV) (t7 : Int) (h : HP) : Res2 :=
 let t21 := Int.ofNat (lenL t0)
 let t22 := ltQ t7 t21
 br t22 (
 ixC (vS t0) (vI t7) fun vt26 => asI .u8 vt26 fun t26 =>
 cal D 157 [(vC t26)] h fun t27 h25 =>
 asB t27 fun t27a =>
 br t27a (
 S116_5 D m g3 t0 t1 t4 t6 t7 true true h25) (
 ixC (vS t0) (vI t7) fun vt31 => asI .u8 vt31 fun t31 =>
 cal D 158 [(vC t31)] h25 fun t32 h26 =>
 asB t32 fun t32a =>
 S116_5 D m g3 t0 t1 t4 t6 t7 true t32a h26)) (
 S116_6 D m g3 t0 t1 t4 t6 t7 false h)
def S116_3 (D : CallD) (m : Nat) : LN → Int → AV → AV → Int → HP → Res2 := nrec (fun _ _ _ _ _ _ => none) (fun _ g => S116_3b D m g) m
def e116_9 (k t0 t1 t4 t6 t7 h) := kN k [(p0, (vS t0)), (p1, (vI t1)), (p4, t4), (p6, t6), (p7, (vI t7))] h
def S116_9 (D : CallD) (m : Nat) (t0 : LN) (t1 : Int) (t4 t6 : AV) (t7 : Int) (h : HP) : Res2 :=
 faC 0 t6 fun t88 =>
 stoC t88 (vI (Int.ofNat 4)) h fun h32 =>
 S116_0 D m t0 t1 t4 t6 t7 h32
def e116_11 (k t0 t1 t4 t6 t7 t8 t76 h) := kN k [(p0, (vS t0)), (p1, (vI t1)), (p4, t4), (p6, t6), (p7, (vI t7)), (p8, t8), (p76, (vI t76))] h
def S116_11 (D : CallD) (m : Nat) (g10 : LN → Int → AV → AV → Int → AV → Int → HP → Res2) (t0 : LN) (t1 : Int) (t4 t6 : AV) (t7 : Int) (t8 : AV) (t76 : Int) (h : HP) : Res2 :=
 let t87 := wrQ .i64 (addQ t76 (Int.ofNat 1))
 g10 t0 t1 t4 t6 t7 t8 t87 h
def e116_10 (k t0 t1 t4 t6 t7 t8 t76 h) := kN k [(p0, (vS t0)), (p1, (vI t1)), (p4, t4), (p6, t6), (p7, (vI t7)), (p8, t8), (p76, (vI t76))] h
def S116_10b (D : CallD) (m : Nat) (g10 : LN → Int → AV → AV → Int → AV → Int → HP → Res2) (t0 : LN) (t1 : Int) (t4 t6 : AV) (t7 : Int) (t8 : AV) (t76 : Int) (h : HP) : Res2 :=
 let t77 := ltQ t76 (Int.ofNat 8)
 br t77 (
 iarC 8 1 t8 (vI t76) fun t82 =>
 ldS t82 h fun t83 =>
 cal D 156 [(vS t0), (vI t1), (vS t83)] h fun t84 h33 =>
 asB t84 fun t84a =>
 br t84a (
 let t86 := wrQ .i64 (addQ t1 (Int.ofNat 2))
 S116_11 D m g10 t0 t1 t4 t6 t86 t8 t76 h33) (
 S116_11 D m g10 t0 t1 t4 t6 t7 t8 t76 h33)) (
 S116_9 D m t0 t1 t4 t6 t7 h)
def S116_10 (D : CallD) (m : Nat) : LN → Int → AV → AV → Int → AV → Int → HP → Res2 := nrec (fun _ _ _ _ _ _ _ _ => none) (fun _ g => S116_10b D m g) m
def e116_8 (k t0 t1 t4 t6 t7 t8 h) := kN k [(p0, (vS t0)), (p1, (vI t1)), (p4, t4), (p6, t6), (p7, (vI t7)), (p8, t8)] h
def S116_8 (D : CallD) (m : Nat) (t0 : LN) (t1 : Int) (t4 t6 : AV) (t7 : Int) (t8 : AV) (h : HP) : Res2 :=
 S116_10 D m t0 t1 t4 t6 t7 t8 (Int.ofNat 0) h
def e116_13 (k t0 t1 t4 t6 t7 t8 t9 t10 h) := kN k [(p0, (vS t0)), (p1, (vI t1)), (p4, t4), (p6, t6), (p7, (vI t7)), (p8, t8), (p9, (vS t9)), (p10, (vI t10))] h
def S116_13 (D : CallD) (m : Nat) (g12 : LN → Int → AV → AV → Int → AV → LN → Int → HP → Res2) (t0 : LN) (t1 : Int) (t4 t6 : AV) (t7 : Int) (t8 : AV) (t9 : LN) (t10 : Int) (h : HP) : Res2 :=
 let t66 := wrQ .i64 (addQ t10 (Int.ofNat 1))
 g12 t0 t1 t4 t6 t7 t8 t9 t66 h
def e116_12 (k t0 t1 t4 t6 t7 t8 t9 t10 h) := kN k [(p0, (vS t0)), (p1, (vI t1)), (p4, t4), (p6, t6), (p7, (vI t7)), (p8, t8), (p9, (vS t9)), (p10, (vI t10))] h
def S116_12b (D : CallD) (m : Nat) (g12 : LN → Int → AV → AV → Int → AV → LN → Int → HP → Res2) (t0 : LN) (t1 : Int) (t4 t6 : AV) (t7 : Int) (t8 : AV) (t9 : LN) (t10 : Int) (h : HP) : Res2 :=
 let t63 := Int.ofNat (lenL t9)
 let t64 := ltQ t10 t63
 br t64 (
 ixC (vS t9) (vI t10) fun vt69 => asI .u8 vt69 fun t69 =>
 ixC (vS t0) (vI t1) fun vt72 => asI .u8 vt72 fun t72 =>
 let t73 := eqQ t69 t72
 br t73 (
 let t75 := wrQ .i64 (addQ t1 (Int.ofNat 1))
 S116_13 D m g12 t0 t1 t4 t6 t75 t8 t9 t10 h) (
 S116_13 D m g12 t0 t1 t4 t6 t7 t8 t9 t10 h)) (
 S116_8 D m t0 t1 t4 t6 t7 t8 h)
def S116_12 (D : CallD) (m : Nat) : LN → Int → AV → AV → Int → AV → LN → Int → HP → Res2 := nrec (fun _ _ _ _ _ _ _ _ _ => none) (fun _ g => S116_12b D m g) m
def e116_14 (k t0 t1 h) := kN k [(p0, (vS t0)), (p1, (vI t1))] h
def S116_14 (D : CallD) (m : Nat) (t0 : LN) (t1 : Int) (h : HP) : Res2 :=
 let t4 := AV.ptr (HP.nxQ h) 0
 let h15 := HP.newQ h (.cells true [(kI 0), (.str []), (kI 0)])
 let t13 := (AV.agg [(vI (Int.ofNat 0)), (vS ([] : LN)), (vI t1)])
 let t6 := AV.ptr (HP.nxQ h15) 0
 let h16 := HP.newQ h15 (.cells true [(kI 0), (.str []), (kI 0)])
 stsC 3 t6 t13 h16 fun h17 =>
 ixC (vS t0) (vI t1) fun vt16 => asI .u8 vt16 fun t16 =>
 cal D 157 [(vC t16)] h17 fun t17 h20 =>
 asB t17 fun t17a =>
 br t17a (
 S116_3 D m t0 t1 t4 t6 t1 h20) (
 ixC (vS t0) (vI t1) fun vt51 => asI .u8 vt51 fun t51 =>
 cal D 158 [(vC t51)] h20 fun t52 h27 =>
 asB t52 fun t52a =>
 br t52a (
 cal D 160 [(vS t0), (vI t1)] h27 fun t56 h28 =>
 extC t56 0 fun vt57 => asI .i64 vt57 fun t57 =>
 extC t56 1 fun vt58 => asI .i64 vt58 fun t58 =>
 let t59 := (AV.ptr (HP.nxQ h15) (Nat.add 0 0))
 stoC t59 (vI t57) h28 fun h29 =>
 S116_0 D m t0 t1 t4 t6 t58 h29) (
 let t60 := (AV.agg [(vS ([60, 60] : LN)), (vS ([62, 62] : LN)), (vS ([60, 61] : LN)), (vS ([62, 61] : LN)), (vS ([61, 61] : LN)), (vS ([33, 61] : LN)), (vS ([38, 38] : LN)), (vS ([124, 124] : LN))])
 let t8 := AV.ptr (HP.nxQ h27) 0
 let h30 := HP.newQ h27 (.cells true [(.str []), (.str []), (.str []), (.str []), (.str []), (.str []), (.str []), (.str [])])
 stsC 8 t8 t60 h30 fun h31 =>
 S116_12 D m t0 t1 t4 t6 (Int.ofNat 0) t8 ([43, 45, 42, 47, 37, 38, 124, 94, 126, 33, 60, 62, 61, 40, 41, 123, 125, 91, 93, 59, 44] : LN) (Int.ofNat 0) h31))
def S116 : SFn := fun D m args h u => nou u <| popS args fun t0 args => popI .i64 args fun t1 args => endA args (S116_14 D m t0 t1 h)
theorem T116_1 (hE : FX x116 D m E) : S116_1 D m = e116_1 (E c116_1 []) := by unfold S116_1; rw [hE c116_1]; kernel_rfl
theorem T116_0 (hE : FX x116 D m E) : S116_0 D m = e116_0 (E c116_0 []) := by unfold S116_0; rw [T116_1 hE, hE c116_0]; kernel_rfl
theorem T116_2 (hE : FX x116 D m E) : S116_2 D m = e116_2 (E c116_2 [.sj v116_0 c116_0]) := by unfold S116_2; rw [T116_0 hE, hE c116_2]; kernel_rfl
theorem T116_4 (hE : FX x116 D m E) (G3) : S116_4 D m (e116_3 G3) = e116_4 (E c116_4 [.lp v116_3 G3, .blk 0, .sj v116_2 c116_2, .sj v116_0 c116_0]) := by unfold S116_4; rw [hE c116_4]; kernel_rfl
theorem T116_6 (hE : FX x116 D m E) (G3) : S116_6 D m (e116_3 G3) = e116_6 (E (.opq false l116_6 c116_7) [.sj v116_4 c116_4, .lp v116_3 G3, .blk 0, .sj v116_2 c116_2, .sj v116_0 c116_0]) := by unfold S116_6; rw [T116_4 hE G3, T116_2 hE, hE (.opq false l116_6 c116_7)]; kernel_rfl
theorem T116_5 (hE : FX x116 D m E) (G3) : S116_5 D m (e116_3 G3) = e116_5 (E (.opq false l116_5 c116_7) [.sj v116_4 c116_4, .lp v116_3 G3, .blk 0, .sj v116_2 c116_2, .sj v116_0 c116_0]) := by unfold S116_5; rw [T116_6 hE G3, hE (.opq false l116_5 c116_7)]; kernel_rfl
theorem T116_3b (hE : FX x116 D m E) (G3) : S116_3b D m (e116_3 G3) = e116_3 (E c116_3b [.lp v116_3 G3, .blk 0, .sj v116_2 c116_2, .sj v116_0 c116_0]) := by unfold S116_3b; rw [T116_5 hE G3, T116_6 hE G3, hE c116_3b]; kernel_rfl
theorem T116_3 (hE : FX x116 D m E) : S116_3 D m = e116_3 (nrec (fun _ => none) (fun _ G3 st => E c116_3b [.lp v116_3 G3, .blk 0, .sj v116_2 c116_2, .sj v116_0 c116_0] st) m) :=
  nrec_emb e116_3 (fun _ _ _ _ _ _ => none) (fun g => S116_3b D m g) (fun G3 st => E c116_3b [.lp v116_3 G3, .blk 0, .sj v116_2 c116_2, .sj v116_0 c116_0] st) rfl (fun g => T116_3b hE g) m
theorem T116_9 (hE : FX x116 D m E) : S116_9 D m = e116_9 (E c116_9 [.sj v116_0 c116_0]) := by unfold S116_9; rw [T116_0 hE, hE c116_9]; kernel_rfl
theorem T116_11 (hE : FX x116 D m E) (G10) : S116_11 D m (e116_10 G10) = e116_11 (E c116_11 [.lp v116_10 G10, .blk 4, .sj v116_9 c116_9, .sj v116_0 c116_0]) := by unfold S116_11; rw [hE c116_11]; kernel_rfl
theorem T116_10b (hE : FX x116 D m E) (G10) : S116_10b D m (e116_10 G10) = e116_10 (E c116_10b [.lp v116_10 G10, .blk 4, .sj v116_9 c116_9, .sj v116_0 c116_0]) := by unfold S116_10b; rw [T116_11 hE G10, T116_9 hE, hE c116_10b]; kernel_rfl
theorem T116_10 (hE : FX x116 D m E) : S116_10 D m = e116_10 (nrec (fun _ => none) (fun _ G10 st => E c116_10b [.lp v116_10 G10, .blk 4, .sj v116_9 c116_9, .sj v116_0 c116_0] st) m) :=
  nrec_emb e116_10 (fun _ _ _ _ _ _ _ _ => none) (fun g => S116_10b D m g) (fun G10 st => E c116_10b [.lp v116_10 G10, .blk 4, .sj v116_9 c116_9, .sj v116_0 c116_0] st) rfl (fun g => T116_10b hE g) m
theorem T116_8 (hE : FX x116 D m E) : S116_8 D m = e116_8 (E c116_8 [.sj v116_0 c116_0]) := by unfold S116_8; rw [T116_10 hE, hE c116_8]; kernel_rfl
theorem T116_13 (hE : FX x116 D m E) (G12) : S116_13 D m (e116_12 G12) = e116_13 (E c116_13 [.lp v116_12 G12, .blk 2, .sj v116_8 c116_8, .sj v116_0 c116_0]) := by unfold S116_13; rw [hE c116_13]; kernel_rfl
theorem T116_12b (hE : FX x116 D m E) (G12) : S116_12b D m (e116_12 G12) = e116_12 (E c116_12b [.lp v116_12 G12, .blk 2, .sj v116_8 c116_8, .sj v116_0 c116_0]) := by unfold S116_12b; rw [T116_13 hE G12, T116_8 hE, hE c116_12b]; kernel_rfl
theorem T116_12 (hE : FX x116 D m E) : S116_12 D m = e116_12 (nrec (fun _ => none) (fun _ G12 st => E c116_12b [.lp v116_12 G12, .blk 2, .sj v116_8 c116_8, .sj v116_0 c116_0] st) m) :=
  nrec_emb e116_12 (fun _ _ _ _ _ _ _ _ _ => none) (fun g => S116_12b D m g) (fun G12 st => E c116_12b [.lp v116_12 G12, .blk 2, .sj v116_8 c116_8, .sj v116_0 c116_0] st) rfl (fun g => T116_12b hE g) m
theorem T116_14 (hE : FX x116 D m E) : S116_14 D m = e116_14 (E c116_e []) := by unfold S116_14; rw [T116_3 hE, T116_0 hE, T116_12 hE, hE c116_e]; kernel_rfl
theorem X116 : XTie S116 x116 := X_of fun D m E hE args h u => by unfold S116; rw [T116_14 hE]; kernel_rfl
/- 117 -/
def c117_3 : XC := (.s .ret)
def l117_2 : XL := (XL.of [.mv p4 q26 .b])
def l117_1 : XL := (XL.pre [.mv p20 q19 .b, .sp p20, .o ⟨(some p21), (.l (.cells 5 q2)), (some (p20, true)), []⟩ .v, .o ⟨(some p22), (.call (.fn 82) [q21]), (some (p20, true)), []⟩ .v, .G p20 true p23 (.field 1 1 false q22) .s, .G p20 true p24 (.mov q1) .s, .G p20 true p25 (.bin .eql q23 q24) .b, .P p26 (.pick q20 q25 (cb false)) .b, .jn p20 [p26]] l117_2)
def l117_0 : XL := (XL.pre [.P p19 (.pick q8 q18 (cb false)) .b, .jn p8 [p1, p2, p19]] l117_1)
def c117_e : XC := (.sO [.al p2 (.box q0), .mv p4 (cb false) .b] (.opq false (XL.pre [.fa p5 3 q2, .ld p6 q5 tI, .bn p7 .eql q6 (ci 0) .b, .mv p8 q7 .b, .sp p8, .o ⟨(some p9), (.l (.cells 5 q2)), (some (p8, true)), []⟩ .v, .o ⟨(some p10), (.call (.fn 82) [q9]), (some (p8, true)), []⟩ .v, .G p8 true p11 (.field 0 1 false q10) tI, .G p8 true p12 (.bin .eql q11 (ci 4)) .b, .G p8 true p13 (.mov q12) .b, .sp p13, .o ⟨(some p14), (.l (.cells 5 q2)), (some (p13, false)), []⟩ .v, .o ⟨(some p15), (.call (.fn 82) [q14]), (some (p13, false)), []⟩ .v, .G p13 false p16 (.field 0 1 false q15) tI, .G p13 false p17 (.bin .eql q16 (ci 5)) .b, .G p8 true p18 (.pick q13 (cb true) q17) .b, .jn p13 [p1, p2, p8, p18]] l117_0) c117_3))
def x117 : XFn := ⟨[.v, .s], false, [(.tmp p4)], c117_e⟩
def e117_2 (k t26 h) := kN k [(p26, (vB t26))] h
def S117_2 (D : CallD) (m : Nat) (t26 : Bool) (h : HP) : Res2 :=
 some (.ret (vB t26) h, .no)
def e117_1 (k t1 t2 t19 h) := kN k [(p1, (vS t1)), (p2, t2), (p19, (vB t19))] h
def S117_1 (D : CallD) (m : Nat) (t1 : LN) (t2 : AV) (t19 : Bool) (h : HP) : Res2 :=
 br t19 (
 cellsC 5 t2 h fun t21 =>
 cal D 82 [t21] h fun t22 h7 =>
 fldC 1 1 false t22 fun vt23 => asS vt23 fun t23 =>
 let t25 := eqL t23 t1
 S117_2 D m t25 h7) (
 S117_2 D m false h)
def e117_0 (k t1 t2 t8 t18 h) := kN k [(p1, (vS t1)), (p2, t2), (p8, (vB t8)), (p18, (vB t18))] h
def S117_0 (D : CallD) (m : Nat) (t1 : LN) (t2 : AV) (t8 t18 : Bool) (h : HP) : Res2 :=
 obB (brV t8 (some (vB t18)) (some (vB false))) fun t19 =>
 S117_1 D m t1 t2 t19 h
def e117_4 (k t0 t1 h) := kN k [(p0, t0), (p1, (vS t1))] h
def S117_4 (D : CallD) (m : Nat) (t0 : AV) (t1 : LN) (h : HP) : Res2 :=
 let t2 := AV.ptr (HP.nxQ h) 0
 let h5 := HP.newQ h (.cells true (AV.cells t0))
 let t5 := (AV.ptr (HP.nxQ h) (Nat.add 0 3))
 ldI t5 h5 fun t6 =>
 let t7 := eqQ t6 (Int.ofNat 0)
 br t7 (
 cellsC 5 t2 h5 fun t9 =>
 cal D 82 [t9] h5 fun t10 h6 =>
 fldC 0 1 false t10 fun vt11 => asI .i64 vt11 fun t11 =>
 let t12 := eqQ t11 (Int.ofNat 4)
 br t12 (
 S117_0 D m t1 t2 true true h6) (
 cellsC 5 t2 h6 fun t14 =>
 cal D 82 [t14] h6 fun t15 h8 =>
 fldC 0 1 false t15 fun vt16 => asI .i64 vt16 fun t16 =>
 let t17 := eqQ t16 (Int.ofNat 5)
 S117_0 D m t1 t2 true t17 h8)) (
 S117_1 D m t1 t2 false h5)
def S117 : SFn := fun D m args h u => nou u <| popV args fun t0 args => popS args fun t1 args => endA args (S117_4 D m t0 t1 h)
theorem T117_2 (hE : FX x117 D m E) : S117_2 D m = e117_2 (E (.opq false l117_2 c117_3) []) := by unfold S117_2; rw [hE (.opq false l117_2 c117_3)]; kernel_rfl
theorem T117_1 (hE : FX x117 D m E) : S117_1 D m = e117_1 (E (.opq false l117_1 c117_3) []) := by unfold S117_1; rw [T117_2 hE, hE (.opq false l117_1 c117_3)]; kernel_rfl
theorem T117_0 (hE : FX x117 D m E) : S117_0 D m = e117_0 (E (.opq false l117_0 c117_3) []) := by unfold S117_0; rw [T117_1 hE, hE (.opq false l117_0 c117_3)]; kernel_rfl
theorem T117_4 (hE : FX x117 D m E) : S117_4 D m = e117_4 (E c117_e []) := by unfold S117_4; rw [T117_0 hE, T117_1 hE, hE c117_e]; kernel_rfl
theorem X117 : XTie S117 x117 := X_of fun D m E hE args h u => by unfold S117; rw [T117_4 hE]; kernel_rfl
/- 118 -/
def v118_0 : List Pos := [p1, p2]
def c118_0 : XC := (.sO [.L p16 (.cells 5 q1) .v, .ss 5 q2 q16] (.s .ret))
def c118_2 : XC := (.cond q11 (.s (.oX [.fa p12 1 q1, .ld p13 q12 tI, .bn p14 .add q13 (ci 1) tI, .fa p15 1 q1, .st q15 q14])) (.s .skip))
def l118_1 : XL := (XL.of [])
def c118_e : XC := (.sO [.al p1 (.box q0), .al p2 (.new [.nils, (kI 0), (kI 0), (kI 0), (kI 0)])] (.sj v118_0 (.opq false (XL.pre [.fa p3 3 q1, .ld p4 q3 tI, .bn p5 .eql q4 (ci 0) .b, .mv p6 q5 .b, .sp p6, .o ⟨(some p7), (.l (.cells 5 q1)), (some (p6, true)), []⟩ .v, .o ⟨(some p8), (.call (.fn 82) [q7]), (some (p6, true)), []⟩ .v, .G p6 true p9 (.field 0 1 false q8) tI, .G p6 true p10 (.bin .neq q9 (ci 0)) .b, .P p11 (.pick q6 q10 (cb false)) .b, .jn p6 [p1, p2, p11]] l118_1) c118_2) c118_0))
def x118 : XFn := ⟨[.v], false, [(.cells 5 p2)], c118_e⟩
def e118_0 (k t1 t2 h) := kN k [(p1, t1), (p2, t2)] h
def S118_0 (D : CallD) (m : Nat) (t1 t2 : AV) (h : HP) : Res2 :=
 cellsC 5 t1 h fun t16 =>
 stsC 5 t2 t16 h fun h6 =>
 cellsC 5 t2 h6 fun t2a =>
 some (.ret t2a h6, .no)
def e118_1 (k t1 t2 t11 h) := kN k [(p1, t1), (p2, t2), (p11, (vB t11))] h
def S118_1 (D : CallD) (m : Nat) (t1 t2 : AV) (t11 : Bool) (h : HP) : Res2 :=
 br t11 (
 faC 1 t1 fun t12 =>
 ldI t12 h fun t13 =>
 let t14 := wrQ .i64 (addQ t13 (Int.ofNat 1))
 faC 1 t1 fun t15 =>
 stoC t15 (vI t14) h fun h8 =>
 S118_0 D m t1 t2 h8) (
 S118_0 D m t1 t2 h)
def e118_3 (k t0 h) := kN k [(p0, t0)] h
def S118_3 (D : CallD) (m : Nat) (t0 : AV) (h : HP) : Res2 :=
 let t1 := AV.ptr (HP.nxQ h) 0
 let h4 := HP.newQ h (.cells true (AV.cells t0))
 let t2 := AV.ptr (HP.nxQ h4) 0
 let h5 := HP.newQ h4 (.cells true [.nils, (kI 0), (kI 0), (kI 0), (kI 0)])
 let t3 := (AV.ptr (HP.nxQ h) (Nat.add 0 3))
 ldI t3 h5 fun t4 =>
 let t5 := eqQ t4 (Int.ofNat 0)
 br t5 (
 cellsC 5 t1 h5 fun t7 =>
 cal D 82 [t7] h5 fun t8 h7 =>
 fldC 0 1 false t8 fun vt9 => asI .i64 vt9 fun t9 =>
 let t10 := notQ (eqQ t9 (Int.ofNat 0))
 S118_1 D m t1 t2 t10 h7) (
 S118_1 D m t1 t2 false h5)
def S118 : SFn := fun D m args h u => nou u <| popV args fun t0 args => endA args (S118_3 D m t0 h)
theorem T118_0 (hE : FX x118 D m E) : S118_0 D m = e118_0 (E c118_0 []) := by unfold S118_0; rw [hE c118_0]; kernel_rfl
theorem T118_1 (hE : FX x118 D m E) : S118_1 D m = e118_1 (E (.opq false l118_1 c118_2) [.sj v118_0 c118_0]) := by unfold S118_1; rw [T118_0 hE, hE (.opq false l118_1 c118_2)]; kernel_rfl
theorem T118_3 (hE : FX x118 D m E) : S118_3 D m = e118_3 (E c118_e []) := by unfold S118_3; rw [T118_1 hE, hE c118_e]; kernel_rfl
theorem X118 : XTie S118 x118 := X_of fun D m E hE args h u => by unfold S118; rw [T118_3 hE]; kernel_rfl
/- 119 -/
def v119_0 : List Pos := [p1, p2]
def c119_0 : XC := (.sO [.L p23 (.cells 5 q1) .v, .cl p24 123 [q23, (.c (.str [118, 111, 105, 100]))] .v, .ss 5 q2 q24, .mv p3 (ci 0) tI] (.s .ret))
def v119_2 : List Pos := [p1, p2, p4]
def c119_2 : XC := (.sO [.L p13 (.cells 5 q1) .v, .cl p14 118 [q13] .v, .ss 5 q1 q14] (.seq (.seq (.oX [.L p15 (.cells 5 q1) .v, .cl p16 117 [q15, (.c (.str [42]))] .b]) (.cond q16 (.seq (.oX [.L p17 (.cells 5 q1) .v, .cl p18 118 [q17] .v, .mv p19 q4 tI, .bn p20 .add q19 (ci 2) tI, .ss 5 q2 q18, .mv p3 q20 tI]) .ret) .skip)) (.sO [.L p21 (.cells 5 q1) .v, .mv p22 q4 tI, .ss 5 q2 q21, .mv p3 q22 tI] (.s .ret))))
def c119_3 : XC := (.cond q10 (.sO [.mv p4 (ci 1) tI] (.sj v119_2 (.sO [.L p11 (.cells 5 q1) .v, .cl p12 117 [q11, (.c (.str [100, 111, 117, 98, 108, 101]))] .b] (.cond q12 (.s (.oX [.mv p4 (ci 2) tI])) (.s .skip))) c119_2)) (.s .skip))
def l119_1 : XL := (XL.of [])
def c119_e : XC := (.sO [.al p1 (.box q0), .al p2 (.new [.nils, (kI 0), (kI 0), (kI 0), (kI 0)]), .mv p3 (ci 0) tI] (.sj v119_0 (.opq false (XL.pre [.L p5 (.cells 5 q1) .v, .cl p6 117 [q5, (.c (.str [105, 110, 116]))] .b, .mv p7 q6 .b, .sp p7, .o ⟨(some p8), (.l (.cells 5 q1)), (some (p7, false)), []⟩ .v, .o ⟨(some p9), (.call (.fn 117) [q8, (.c (.str [100, 111, 117, 98, 108, 101]))]), (some (p7, false)), []⟩ .b, .P p10 (.pick q7 (cb true) q9) .b, .jn p7 [p1, p2, p10]] l119_1) c119_3) c119_0))
def x119 : XFn := ⟨[.v], false, [(.cells 5 p2), (.tmp p3)], c119_e⟩
def e119_0 (k t1 t2 h) := kN k [(p1, t1), (p2, t2)] h
def S119_0 (D : CallD) (m : Nat) (t1 t2 : AV) (h : HP) : Res2 :=
 cellsC 5 t1 h fun t23 =>
 cal D 123 [t23, (vS ([118, 111, 105, 100] : LN))] h fun t24 h7 =>
 stsC 5 t2 t24 h7 fun h8 =>
 cellsC 5 t2 h8 fun t2a =>
 some (.ret (.tup [t2a, (vI (Int.ofNat 0))]) h8, .no)
def e119_2 (k t1 t2 t4 h) := kN k [(p1, t1), (p2, t2), (p4, (vI t4))] h
def S119_2 (D : CallD) (m : Nat) (t1 t2 : AV) (t4 : Int) (h : HP) : Res2 :=
 cellsC 5 t1 h fun t13 =>
 cal D 118 [t13] h fun t14 h10 =>
 stsC 5 t1 t14 h10 fun h11 =>
 cellsC 5 t1 h11 fun t15 =>
 cal D 117 [t15, (vS ([42] : LN))] h11 fun t16 h12 =>
 asB t16 fun t16a =>
 br t16a (
 cellsC 5 t1 h12 fun t17 =>
 cal D 118 [t17] h12 fun t18 h13 =>
 let t20 := wrQ .i64 (addQ t4 (Int.ofNat 2))
 stsC 5 t2 t18 h13 fun h14 =>
 cellsC 5 t2 h14 fun t2a =>
 some (.ret (.tup [t2a, (vI t20)]) h14, .no)) (
 cellsC 5 t1 h12 fun t21 =>
 stsC 5 t2 t21 h12 fun h15 =>
 cellsC 5 t2 h15 fun t2a =>
 some (.ret (.tup [t2a, (vI t4)]) h15, .no))
def e119_1 (k t1 t2 t10 h) := kN k [(p1, t1), (p2, t2), (p10, (vB t10))] h
def S119_1 (D : CallD) (m : Nat) (t1 t2 : AV) (t10 : Bool) (h : HP) : Res2 :=
 br t10 (
 cellsC 5 t1 h fun t11 =>
 cal D 117 [t11, (vS ([100, 111, 117, 98, 108, 101] : LN))] h fun t12 h16 =>
 asB t12 fun t12a =>
 br t12a (
 S119_2 D m t1 t2 (Int.ofNat 2) h16) (
 S119_2 D m t1 t2 (Int.ofNat 1) h16)) (
 S119_0 D m t1 t2 h)
def e119_4 (k t0 h) := kN k [(p0, t0)] h
def S119_4 (D : CallD) (m : Nat) (t0 : AV) (h : HP) : Res2 :=
 let t1 := AV.ptr (HP.nxQ h) 0
 let h5 := HP.newQ h (.cells true (AV.cells t0))
 let t2 := AV.ptr (HP.nxQ h5) 0
 let h6 := HP.newQ h5 (.cells true [.nils, (kI 0), (kI 0), (kI 0), (kI 0)])
 cellsC 5 t1 h6 fun t5 =>
 cal D 117 [t5, (vS ([105, 110, 116] : LN))] h6 fun t6 h9 =>
 asB t6 fun t6a =>
 br t6a (
 S119_1 D m t1 t2 true h9) (
 cellsC 5 t1 h9 fun t8 =>
 cal D 117 [t8, (vS ([100, 111, 117, 98, 108, 101] : LN))] h9 fun t9 h17 =>
 asB t9 fun t9a =>
 S119_1 D m t1 t2 t9a h17)
def S119 : SFn := fun D m args h u => nou u <| popV args fun t0 args => endA args (S119_4 D m t0 h)
theorem T119_0 (hE : FX x119 D m E) : S119_0 D m = e119_0 (E c119_0 []) := by unfold S119_0; rw [hE c119_0]; kernel_rfl
theorem T119_2 (hE : FX x119 D m E) : S119_2 D m = e119_2 (E c119_2 [.sj v119_0 c119_0]) := by unfold S119_2; rw [hE c119_2]; kernel_rfl
theorem T119_1 (hE : FX x119 D m E) : S119_1 D m = e119_1 (E (.opq false l119_1 c119_3) [.sj v119_0 c119_0]) := by unfold S119_1; rw [T119_2 hE, T119_0 hE, hE (.opq false l119_1 c119_3)]; kernel_rfl
theorem T119_4 (hE : FX x119 D m E) : S119_4 D m = e119_4 (E c119_e []) := by unfold S119_4; rw [T119_1 hE, hE c119_e]; kernel_rfl
theorem X119 : XTie S119 x119 := X_of fun D m E hE args h u => by unfold S119; rw [T119_4 hE]; kernel_rfl
/- 120 -/
def v120_0 : List Pos := [p2, p4]
def c120_0 : XC := (.seq (.ops true (XL.of [.L p18 (.cells 5 q2) .v, .L p20 (.cells 5 q2) .v, .o ⟨(some p19), (.call (.fn 118) [q18]), none, [⟨none, .cells 5 q2, p20⟩]⟩ .v, .cl p21 82 [q20] .v, .P p22 (.field 1 1 false q21) .s, .ss 5 q4 q19, .mv p5 q22 .s])) (.s .ret))
def c120_2 : XC := (.cond q15 (.sO [.L p16 (.cells 5 q2) .v, .cl p17 161 [q16, (ci 11)] .v, .ss 5 q4 q17, .mv p5 (.c (.str [])) .s] (.s .ret)) (.s .skip))
def l120_1 : XL := (XL.of [])
def c120_e : XC := (.sO [.al p2 (.box q0), .al p4 (.new [.nils, (kI 0), (kI 0), (kI 0), (kI 0)]), .mv p5 (.c (.str [])) .s] (.sj v120_0 (.opq false (XL.pre [.fa p6 3 q2, .ld p7 q6 tI, .bn p8 .neq q7 (ci 0) .b, .mv p9 q8 .b, .sp p9, .o ⟨(some p10), (.l (.cells 5 q2)), (some (p9, false)), []⟩ .v, .o ⟨(some p11), (.call (.fn 82) [q10]), (some (p9, false)), []⟩ .v, .G p9 false p12 (.field 0 1 false q11) tI, .G p9 false p13 (.mov q1) tI, .G p9 false p14 (.bin .neq q12 q13) .b, .P p15 (.pick q9 (cb true) q14) .b, .jn p9 [p2, p4, p15]] l120_1) c120_2) c120_0))
def x120 : XFn := ⟨[.v, tI], false, [(.cells 5 p4), (.tmp p5)], c120_e⟩
def e120_0 (k t2 t4 h) := kN k [(p2, t2), (p4, t4)] h
def S120_0 (D : CallD) (m : Nat) (t2 t4 : AV) (h : HP) : Res2 :=
 cellsC 5 t2 h fun t18 =>
 cellsC 5 t2 h fun t20 =>
 cal D 118 [t18] h fun t19 h6 =>
 br (again [⟨none, .cells 5 q2, p20⟩] (mkT [(p20, t20), (p2, t2)]) h6) (
 cal D 82 [t20] h6 fun t21 h7 =>
 fldC 1 1 false t21 fun vt22 => asS vt22 fun t22 =>
 stsC 5 t4 t19 h7 fun h8 =>
 cellsC 5 t4 h8 fun t4a =>
 some (.ret (.tup [t4a, (vS t22)]) h8, .no)) none
def e120_1 (k t2 t4 t15 h) := kN k [(p2, t2), (p4, t4), (p15, (vB t15))] h
def S120_1 (D : CallD) (m : Nat) (t2 t4 : AV) (t15 : Bool) (h : HP) : Res2 :=
 br t15 (
 cellsC 5 t2 h fun t16 =>
 cal D 161 [t16, (vI (Int.ofNat 11))] h fun t17 h9 =>
 stsC 5 t4 t17 h9 fun h10 =>
 cellsC 5 t4 h10 fun t4a =>
 some (.ret (.tup [t4a, (vS ([] : LN))]) h10, .no)) (
 S120_0 D m t2 t4 h)
def e120_3 (k t0 t1 h) := kN k [(p0, t0), (p1, (vI t1))] h
def S120_3 (D : CallD) (m : Nat) (t0 : AV) (t1 : Int) (h : HP) : Res2 :=
 let t2 := AV.ptr (HP.nxQ h) 0
 let h4 := HP.newQ h (.cells true (AV.cells t0))
 let t4 := AV.ptr (HP.nxQ h4) 0
 let h5 := HP.newQ h4 (.cells true [.nils, (kI 0), (kI 0), (kI 0), (kI 0)])
 let t6 := (AV.ptr (HP.nxQ h) (Nat.add 0 3))
 ldI t6 h5 fun t7 =>
 let t8 := notQ (eqQ t7 (Int.ofNat 0))
 br t8 (
 S120_1 D m t2 t4 true h5) (
 cellsC 5 t2 h5 fun t10 =>
 cal D 82 [t10] h5 fun t11 h11 =>
 fldC 0 1 false t11 fun vt12 => asI .i64 vt12 fun t12 =>
 let t14 := notQ (eqQ t12 t1)
 S120_1 D m t2 t4 t14 h11)
def S120 : SFn := fun D m args h u => nou u <| popV args fun t0 args => popI .i64 args fun t1 args => endA args (S120_3 D m t0 t1 h)
theorem T120_0 (hE : FX x120 D m E) : S120_0 D m = e120_0 (E c120_0 []) := by unfold S120_0; rw [hE c120_0]; kernel_rfl
theorem T120_1 (hE : FX x120 D m E) : S120_1 D m = e120_1 (E (.opq false l120_1 c120_2) [.sj v120_0 c120_0]) := by unfold S120_1; rw [T120_0 hE, hE (.opq false l120_1 c120_2)]; kernel_rfl
theorem T120_3 (hE : FX x120 D m E) : S120_3 D m = e120_3 (E c120_e []) := by unfold S120_3; rw [T120_1 hE, hE c120_e]; kernel_rfl
theorem X120 : XTie S120 x120 := X_of fun D m E hE args h u => by unfold S120; rw [T120_3 hE]; kernel_rfl
/- 121 -/
def v121_1 : List Pos := [p1, p2, p4]
def c121_1 : XC := (.sO [.L p72 (.cells 5 q1) .v, .mv p73 q4 .v, .ss 5 q2 q72, .mv p3 q73 .v] (.s .ret))
def v121_2 : List Pos := [p1, p2, p4]
def c121_2b : XC := (.seq (.seq (.oX [.fa p36 3 q1, .ld p37 q36 tI, .bn p38 .eql q37 (ci 0) .b]) (.cond q38 .skip (.exit 0))) (.block 1 (.seq (.seq (.oX [.mv p39 q4 .v, .P p40 (.lenl q39) tI, .bn p41 .geq q40 (ci 8) .b]) (.cond q41 (.seq (.oX [.L p42 (.cells 5 q1) .v, .cl p43 161 [q42, (ci 5)] .v, .ss 5 q2 q43, .mv p3 (.c .nils) .v]) .ret) .skip)) (.sO [.L p44 (.cells 5 q1) .v, .cl p45 82 [q44] .v, .P p46 (.field 2 1 false q45) tI, .P p47 (.build [(.str []), (kI 0), (kI 0)] [⟨2, 1, q46⟩]) .v, .al p5 (.new [(.str []), (kI 0), (kI 0)]), .ss 3 q5 q47] (.sO [.L p49 (.cells 5 q1) .v, .cl p50 119 [q49] .v, .mv p48 q50 .v, .P p51 (.ext q48 0) .v, .P p52 (.ext q48 1) tI, .ss 5 q1 q51, .fa p53 1 q5, .st q53 q52] (.sO [.L p55 (.cells 5 q1) .v, .cl p56 120 [q55, (ci 1)] .v, .mv p54 q56 .v, .P p57 (.ext q54 0) .v, .P p58 (.ext q54 1) .s, .ss 5 q1 q57, .fa p59 0 q5, .st q59 q58] (.sO [.mv p60 q4 .v, .L p61 (.cells 3 q5) .v, .al p62 (.bsl [(.str []), (kI 0), (kI 0)] 1 [⟨0, 3, q61⟩]), .o ⟨(some p63), (.e (.app 3 32 q60 q62)), none, []⟩ .v, .mv p4 q63 .v] (.seq (.seq (.oX [.L p64 (.cells 5 q1) .v, .cl p65 117 [q64, (.c (.str [44]))] .b, .P p66 (.un .not q65) .b]) (.cond q66 (.seq (.oX [.L p67 (.cells 5 q1) .v, .cl p68 123 [q67, (.c (.str [41]))] .v, .mv p69 q4 .v, .ss 5 q2 q68, .mv p3 q69 .v]) .ret) .skip)) (.s (.oX [.L p70 (.cells 5 q1) .v, .cl p71 118 [q70] .v, .ss 5 q1 q71]))))))))))
def v121_0 : List Pos := [p1, p2]
def c121_0 : XC := (.seq (.seq (.oX [.L p32 (.cells 5 q1) .v, .cl p33 117 [q32, (.c (.str [41]))] .b]) (.cond q33 (.seq (.oX [.L p34 (.cells 5 q1) .v, .cl p35 118 [q34] .v, .ss 5 q2 q35, .mv p3 (.c .nils) .v]) .ret) .skip)) (.sO [.mv p4 (.c .nils) .v] (.sj v121_1 (.block 0 (.loop v121_2 c121_2b)) c121_1)))
def c121_e : XC := (.sO [.al p1 (.box q0), .al p2 (.new [.nils, (kI 0), (kI 0), (kI 0), (kI 0)]), .mv p3 (.c .nils) .v] (.sj v121_0 (.sO [.L p6 (.cells 5 q1) .v, .cl p7 117 [q6, (.c (.str [118, 111, 105, 100]))] .b, .mv p8 q7 .b, .ge p8 (XL.of [.G p8 true p9 (.faddr 0 q1) .v, .o ⟨(some p10), (.l (.cell q9)), (some (p8, true)), []⟩ .v, .G p8 true p11 (.faddr 1 q1) .v, .o ⟨(some p12), (.l (.cell q11)), (some (p8, true)), []⟩ tI, .G p8 true p13 (.bin .add q12 (ci 1)) tI, .G p8 true p14 (.iaddr (.sl 3) q10 q13) .v, .G p8 true p15 (.faddr 0 q14) .v, .o ⟨(some p16), (.l (.cell q15)), (some (p8, true)), []⟩ tI, .G p8 true p17 (.bin .eql q16 (ci 4)) .b, .P p18 (.pick q8 q17 (cb false)) .b]) p18 .b, .mv p19 q18 .b, .ge p19 (XL.of [.G p19 true p20 (.faddr 0 q1) .v, .o ⟨(some p21), (.l (.cell q20)), (some (p19, true)), []⟩ .v, .G p19 true p22 (.faddr 1 q1) .v, .o ⟨(some p23), (.l (.cell q22)), (some (p19, true)), []⟩ tI, .G p19 true p24 (.bin .add q23 (ci 1)) tI, .G p19 true p25 (.iaddr (.sl 3) q21 q24) .v, .G p19 true p26 (.faddr 1 q25) .v, .o ⟨(some p27), (.l (.cell q26)), (some (p19, true)), []⟩ .s, .G p19 true p28 (.bin .eql q27 (.c (.str [41]))) .b, .P p29 (.pick q19 q28 (cb false)) .b]) p29 .b] (.cond q29 (.s (.oX [.L p30 (.cells 5 q1) .v, .cl p31 118 [q30] .v, .ss 5 q1 q31])) (.s .skip))) c121_0))
def x121 : XFn := ⟨[.v], false, [(.cells 5 p2), (.tmp p3)], c121_e⟩
def e121_1 (k t1 t2 t4 h) := kN k [(p1, t1), (p2, t2), (p4, t4)] h
def S121_1 (D : CallD) (m : Nat) (t1 t2 t4 : AV) (h : HP) : Res2 :=
 cellsC 5 t1 h fun t72 =>
 stsC 5 t2 t72 h fun h9 =>
 cellsC 5 t2 h9 fun t2a =>
 some (.ret (.tup [t2a, t4]) h9, .no)
def e121_2 (k t1 t2 t4 h) := kN k [(p1, t1), (p2, t2), (p4, t4)] h
def S121_2b (D : CallD) (m : Nat) (g2 : AV → AV → AV → HP → Res2) (t1 t2 t4 : AV) (h : HP) : Res2 :=
 faC 3 t1 fun t36 =>
 ldI t36 h fun t37 =>
 let t38 := eqQ t37 (Int.ofNat 0)
 br t38 (
 lenC t4 fun vt40 => asI .i64 vt40 fun t40 =>
 let t41 := leQ (Int.ofNat 8) t40
 br t41 (
 cellsC 5 t1 h fun t42 =>
 cal D 161 [t42, (vI (Int.ofNat 5))] h fun t43 h10 =>
 stsC 5 t2 t43 h10 fun h11 =>
 cellsC 5 t2 h11 fun t2a =>
 some (.ret (.tup [t2a, (.nils : AV)]) h11, .no)) (
 cellsC 5 t1 h fun t44 =>
 cal D 82 [t44] h fun t45 h12 =>
 fldC 2 1 false t45 fun vt46 => asI .i64 vt46 fun t46 =>
 let t47 := (AV.agg [(vS ([] : LN)), (vI (Int.ofNat 0)), (vI t46)])
 let t5 := AV.ptr (HP.nxQ h12) 0
 let h13 := HP.newQ h12 (.cells true [(.str []), (kI 0), (kI 0)])
 stsC 3 t5 t47 h13 fun h14 =>
 cellsC 5 t1 h14 fun t49 =>
 cal D 119 [t49] h14 fun t50 h15 =>
 extC t50 0 fun t51 =>
 extC t50 1 fun vt52 => asI .i64 vt52 fun t52 =>
 stsC 5 t1 t51 h15 fun h16 =>
 let t53 := (AV.ptr (HP.nxQ h12) (Nat.add 0 1))
 stoC t53 (vI t52) h16 fun h17 =>
 cellsC 5 t1 h17 fun t55 =>
 cal D 120 [t55, (vI (Int.ofNat 1))] h17 fun t56 h18 =>
 extC t56 0 fun t57 =>
 extC t56 1 fun vt58 => asS vt58 fun t58 =>
 stsC 5 t1 t57 h18 fun h19 =>
 let t59 := (AV.ptr (HP.nxQ h12) (Nat.add 0 0))
 stoC t59 (vS t58) h19 fun h20 =>
 cellsC 3 t5 h20 fun t61 =>
 obQ (evA (.bsl [(.str []), (kI 0), (kI 0)] 1 [⟨0, 3, (.c t61)⟩]) .leaf) fun r21 =>
 let t62 := vkV r21.2 (HP.nxQ h20)
 let h22 := HP.newQ h20 r21.1
 eff (.app 3 32 (.c t4) (.c t62)) h22 fun t63 h23 =>
 cellsC 5 t1 h23 fun t64 =>
 cal D 117 [t64, (vS ([44] : LN))] h23 fun t65 h24 =>
 asB t65 fun t65a =>
 let t66 := !t65a
 br t66 (
 cellsC 5 t1 h24 fun t67 =>
 cal D 123 [t67, (vS ([41] : LN))] h24 fun t68 h25 =>
 stsC 5 t2 t68 h25 fun h26 =>
 cellsC 5 t2 h26 fun t2a =>
 some (.ret (.tup [t2a, t63]) h26, .no)) (
 cellsC 5 t1 h24 fun t70 =>
 cal D 118 [t70] h24 fun t71 h27 =>
 stsC 5 t1 t71 h27 fun h28 =>
 g2 t1 t2 t63 h28))) (
 S121_1 D m t1 t2 t4 h)
def S121_2 (D : CallD) (m : Nat) : AV → AV → AV → HP → Res2 := nrec (fun _ _ _ _ => none) (fun _ g => S121_2b D m g) m
def e121_0 (k t1 t2 h) := kN k [(p1, t1), (p2, t2)] h
def S121_0 (D : CallD) (m : Nat) (t1 t2 : AV) (h : HP) : Res2 :=
 cellsC 5 t1 h fun t32 =>
 cal D 117 [t32, (vS ([41] : LN))] h fun t33 h6 =>
 asB t33 fun t33a =>
 br t33a (
 cellsC 5 t1 h6 fun t34 =>
 cal D 118 [t34] h6 fun t35 h7 =>
 stsC 5 t2 t35 h7 fun h8 =>
 cellsC 5 t2 h8 fun t2a =>
 some (.ret (.tup [t2a, (.nils : AV)]) h8, .no)) (
 S121_2 D m t1 t2 (.nils : AV) h6)
def e121_3 (k t0 h) := kN k [(p0, t0)] h
def S121_3 (D : CallD) (m : Nat) (t0 : AV) (h : HP) : Res2 :=
 let t1 := AV.ptr (HP.nxQ h) 0
 let h4 := HP.newQ h (.cells true (AV.cells t0))
 let t2 := AV.ptr (HP.nxQ h4) 0
 let h5 := HP.newQ h4 (.cells true [.nils, (kI 0), (kI 0), (kI 0), (kI 0)])
 cellsC 5 t1 h5 fun t6 =>
 cal D 117 [t6, (vS ([118, 111, 105, 100] : LN))] h5 fun t7 h29 =>
 asB t7 fun t7a =>
 obB (brV t7a (
 let t9 := (AV.ptr (HP.nxQ h) (Nat.add 0 0))
 cellCV t9 h29 fun t10 =>
 let t11 := (AV.ptr (HP.nxQ h) (Nat.add 0 1))
 ldIV t11 h29 fun t12 =>
 let t13 := wrQ .i64 (addQ t12 (Int.ofNat 1))
 iasCV 3 t10 (vI t13) fun t14 =>
 faCV 0 t14 fun t15 =>
 ldIV t15 h29 fun t16 =>
 let t17 := eqQ t16 (Int.ofNat 4)
 some (vB t17)) (
 some (vB false))) fun t18 =>
 obB (brV t18 (
 let t20 := (AV.ptr (HP.nxQ h) (Nat.add 0 0))
 cellCV t20 h29 fun t21 =>
 let t22 := (AV.ptr (HP.nxQ h) (Nat.add 0 1))
 ldIV t22 h29 fun t23 =>
 let t24 := wrQ .i64 (addQ t23 (Int.ofNat 1))
 iasCV 3 t21 (vI t24) fun t25 =>
 faCV 1 t25 fun t26 =>
 ldSV t26 h29 fun t27 =>
 let t28 := eqL t27 ([41] : LN)
 some (vB t28)) (
 some (vB false))) fun t29 =>
 br t29 (
 cellsC 5 t1 h29 fun t30 =>
 cal D 118 [t30] h29 fun t31 h30 =>
 stsC 5 t1 t31 h30 fun h31 =>
 S121_0 D m t1 t2 h31) (
 S121_0 D m t1 t2 h29)
def S121 : SFn := fun D m args h u => nou u <| popV args fun t0 args => endA args (S121_3 D m t0 h)
theorem T121_1 (hE : FX x121 D m E) : S121_1 D m = e121_1 (E c121_1 []) := by unfold S121_1; rw [hE c121_1]; kernel_rfl
theorem T121_2b (hE : FX x121 D m E) (G2) : S121_2b D m (e121_2 G2) = e121_2 (E c121_2b [.lp v121_2 G2, .blk 0, .sj v121_1 c121_1]) := by unfold S121_2b; rw [T121_1 hE, hE c121_2b]; kernel_rfl
theorem T121_2 (hE : FX x121 D m E) : S121_2 D m = e121_2 (nrec (fun _ => none) (fun _ G2 st => E c121_2b [.lp v121_2 G2, .blk 0, .sj v121_1 c121_1] st) m) :=
  nrec_emb e121_2 (fun _ _ _ _ => none) (fun g => S121_2b D m g) (fun G2 st => E c121_2b [.lp v121_2 G2, .blk 0, .sj v121_1 c121_1] st) rfl (fun g => T121_2b hE g) m
theorem T121_0 (hE : FX x121 D m E) : S121_0 D m = e121_0 (E c121_0 []) := by unfold S121_0; rw [T121_2 hE, hE c121_0]; kernel_rfl
theorem T121_3 (hE : FX x121 D m E) : S121_3 D m = e121_3 (E c121_e []) := by unfold S121_3; rw [T121_0 hE, hE c121_e]; kernel_rfl
theorem X121 : XTie S121 x121 := X_of fun D m E hE args h u => by unfold S121; rw [T121_3 hE]; kernel_rfl
/- 122 -/
def v122_0 : List Pos := [p1, p2, p3, p4]
def c122_0 : XC := (.seq (.ops true (XL.of [.L p32 (.cells 5 q1) .v, .L p34 (.cells 7 q4) .v, .o ⟨(some p33), (.call (.fn 123) [q32, (.c (.str [125]))]), none, [⟨none, .cells 7 q4, p34⟩]⟩ .v, .o ⟨none, (.e (.stores 5 q2 q33)), none, [⟨none, .cells 7 q4, p34⟩]⟩ .v, .ss 7 q3 q34])) (.s .ret))
def v122_2 : List Pos := [p1, p2, p3, p4]
def c122_2 : XC := (.block 1 (.sO [.P p20 (.build [(kI 0), .nils, .nils, (.str []), (kI 0), (kI 0), (kI 0)] []) .v, .al p5 (.new [(kI 0), .nils, .nils, (.str []), (kI 0), (kI 0), (kI 0)]), .ss 7 q5 q20] (.sO [.L p22 (.cells 5 q1) .v, .cl p23 162 [q22] .v, .mv p21 q23 .v, .P p24 (.ext q21 0) .v, .P p25 (.ext q21 1) .v, .ss 5 q1 q24, .ss 7 q5 q25] (.s (.oX [.fa p26 2 q4, .ld p27 q26 .v, .L p28 (.cells 7 q5) .v, .al p29 (.bsl [(kI 0), .nils, .nils, (.str []), (kI 0), (kI 0), (kI 0)] 1 [⟨0, 7, q28⟩]), .o ⟨(some p30), (.e (.app 7 96 q27 q29)), none, []⟩ .v, .fa p31 2 q4, .st q31 q30])))))
def c122_4 : XC := (.cond q19 (.s .skip) (.s (.exit 0)))
def l122_3 : XL := (XL.of [])
def v122_1 : List Pos := [p1, p2, p3, p4]
def c122_1b : XC := (.sj v122_2 (.opq false (XL.pre [.fa p12 3 q1, .ld p13 q12 tI, .bn p14 .eql q13 (ci 0) .b, .mv p15 q14 .b, .sp p15, .o ⟨(some p16), (.l (.cells 5 q1)), (some (p15, true)), []⟩ .v, .o ⟨(some p17), (.call (.fn 117) [q16, (.c (.str [125]))]), (some (p15, true)), []⟩ .b, .G p15 true p18 (.un .not q17) .b, .P p19 (.pick q15 q18 (cb false)) .b, .jn p15 [p1, p2, p3, p4, p19]] l122_3) c122_4) c122_2)
def c122_e : XC := (.sO [.al p1 (.box q0), .al p2 (.new [.nils, (kI 0), (kI 0), (kI 0), (kI 0)]), .al p3 (.new [(kI 0), .nils, .nils, (.str []), (kI 0), (kI 0), (kI 0)])] (.sO [.L p6 (.cells 5 q1) .v, .cl p7 82 [q6] .v, .P p8 (.field 2 1 false q7) tI, .P p9 (.build [(kI 0), .nils, .nils, (.str []), (kI 0), (kI 0), (kI 0)] [⟨0, 1, (ci 1)⟩, ⟨6, 1, q8⟩]) .v, .al p4 (.new [(kI 0), .nils, .nils, (.str []), (kI 0), (kI 0), (kI 0)]), .ss 7 q4 q9] (.sO [.L p10 (.cells 5 q1) .v, .cl p11 123 [q10, (.c (.str [123]))] .v, .ss 5 q1 q11] (.sj v122_0 (.block 0 (.loop v122_1 c122_1b)) c122_0))))
def x122 : XFn := ⟨[.v], false, [(.cells 5 p2), (.cells 7 p3)], c122_e⟩
def e122_0 (k t1 t2 t3 t4 h) := kN k [(p1, t1), (p2, t2), (p3, t3), (p4, t4)] h
def S122_0 (D : CallD) (m : Nat) (t1 t2 t3 t4 : AV) (h : HP) : Res2 :=
 cellsC 5 t1 h fun t32 =>
 cellsC 7 t4 h fun t34 =>
 cal D 123 [t32, (vS ([125] : LN))] h fun t33 h14 =>
 br (again [⟨none, .cells 7 q4, p34⟩] (mkT [(p34, t34), (p4, t4)]) h14) (
 stsC 5 t2 t33 h14 fun h15 =>
 br (againE (.stores 5 q2 q33) [⟨none, .cells 7 q4, p34⟩] (mkT [(p2, t2), (p34, t34), (p4, t4)]) h15) (
 stsC 7 t3 t34 h15 fun h16 =>
 cellsC 5 t2 h16 fun t2a =>
 cellsC 7 t3 h16 fun t3a =>
 some (.ret (.tup [t2a, t3a]) h16, .no)) none) none
def e122_2 (k t1 t2 t3 t4 h) := kN k [(p1, t1), (p2, t2), (p3, t3), (p4, t4)] h
def S122_2 (D : CallD) (m : Nat) (g1 : AV → AV → AV → AV → HP → Res2) (t1 t2 t3 t4 : AV) (h : HP) : Res2 :=
 let t20 := (AV.agg [(vI (Int.ofNat 0)), (.nils : AV), (.nils : AV), (vS ([] : LN)), (vI (Int.ofNat 0)), (vI (Int.ofNat 0)), (vI (Int.ofNat 0))])
 let t5 := AV.ptr (HP.nxQ h) 0
 let h17 := HP.newQ h (.cells true [(kI 0), .nils, .nils, (.str []), (kI 0), (kI 0), (kI 0)])
 stsC 7 t5 t20 h17 fun h18 =>
 cellsC 5 t1 h18 fun t22 =>
 cal D 162 [t22] h18 fun t23 h19 =>
 extC t23 0 fun t24 =>
 extC t23 1 fun t25 =>
 stsC 5 t1 t24 h19 fun h20 =>
 stsC 7 t5 t25 h20 fun h21 =>
 faC 2 t4 fun t26 =>
 cellC t26 h21 fun t27 =>
 cellsC 7 t5 h21 fun t28 =>
 obQ (evA (.bsl [(kI 0), .nils, .nils, (.str []), (kI 0), (kI 0), (kI 0)] 1 [⟨0, 7, (.c t28)⟩]) .leaf) fun r22 =>
 let t29 := vkV r22.2 (HP.nxQ h21)
 let h23 := HP.newQ h21 r22.1
 eff (.app 7 96 (.c t27) (.c t29)) h23 fun t30 h24 =>
 faC 2 t4 fun t31 =>
 stoC t31 t30 h24 fun h25 =>
 g1 t1 t2 t3 t4 h25
def e122_3 (k t1 t2 t3 t4 t19 h) := kN k [(p1, t1), (p2, t2), (p3, t3), (p4, t4), (p19, (vB t19))] h
def S122_3 (D : CallD) (m : Nat) (g1 : AV → AV → AV → AV → HP → Res2) (t1 t2 t3 t4 : AV) (t19 : Bool) (h : HP) : Res2 :=
 br t19 (
 S122_2 D m g1 t1 t2 t3 t4 h) (
 S122_0 D m t1 t2 t3 t4 h)
def e122_1 (k t1 t2 t3 t4 h) := kN k [(p1, t1), (p2, t2), (p3, t3), (p4, t4)] h
def S122_1b (D : CallD) (m : Nat) (g1 : AV → AV → AV → AV → HP → Res2) (t1 t2 t3 t4 : AV) (h : HP) : Res2 :=
 faC 3 t1 fun t12 =>
 ldI t12 h fun t13 =>
 let t14 := eqQ t13 (Int.ofNat 0)
 br t14 (
 cellsC 5 t1 h fun t16 =>
 cal D 117 [t16, (vS ([125] : LN))] h fun t17 h26 =>
 asB t17 fun t17a =>
 let t18 := !t17a
 S122_3 D m g1 t1 t2 t3 t4 t18 h26) (
 S122_3 D m g1 t1 t2 t3 t4 false h)
def S122_1 (D : CallD) (m : Nat) : AV → AV → AV → AV → HP → Res2 := nrec (fun _ _ _ _ _ => none) (fun _ g => S122_1b D m g) m
def e122_5 (k t0 h) := kN k [(p0, t0)] h
def S122_5 (D : CallD) (m : Nat) (t0 : AV) (h : HP) : Res2 :=
 let t1 := AV.ptr (HP.nxQ h) 0
 let h6 := HP.newQ h (.cells true (AV.cells t0))
 let t2 := AV.ptr (HP.nxQ h6) 0
 let h7 := HP.newQ h6 (.cells true [.nils, (kI 0), (kI 0), (kI 0), (kI 0)])
 let t3 := AV.ptr (HP.nxQ h7) 0
 let h8 := HP.newQ h7 (.cells true [(kI 0), .nils, .nils, (.str []), (kI 0), (kI 0), (kI 0)])
 cellsC 5 t1 h8 fun t6 =>
 cal D 82 [t6] h8 fun t7 h9 =>
 fldC 2 1 false t7 fun vt8 => asI .i64 vt8 fun t8 =>
 let t9 := (AV.agg [(vI (Int.ofNat 1)), (.nils : AV), (.nils : AV), (vS ([] : LN)), (vI (Int.ofNat 0)), (vI (Int.ofNat 0)), (vI t8)])
 let t4 := AV.ptr (HP.nxQ h9) 0
 let h10 := HP.newQ h9 (.cells true [(kI 0), .nils, .nils, (.str []), (kI 0), (kI 0), (kI 0)])
 stsC 7 t4 t9 h10 fun h11 =>
 cellsC 5 t1 h11 fun t10 =>
 cal D 123 [t10, (vS ([123] : LN))] h11 fun t11 h12 =>
 stsC 5 t1 t11 h12 fun h13 =>
 S122_1 D m t1 t2 t3 t4 h13
def S122 : SFn := fun D m args h u => nou u <| popV args fun t0 args => endA args (S122_5 D m t0 h)
theorem T122_0 (hE : FX x122 D m E) : S122_0 D m = e122_0 (E c122_0 []) := by unfold S122_0; rw [hE c122_0]; kernel_rfl
theorem T122_2 (hE : FX x122 D m E) (G1) : S122_2 D m (e122_1 G1) = e122_2 (E c122_2 [.lp v122_1 G1, .blk 0, .sj v122_0 c122_0]) := by unfold S122_2; rw [hE c122_2]; kernel_rfl
theorem T122_3 (hE : FX x122 D m E) (G1) : S122_3 D m (e122_1 G1) = e122_3 (E (.opq false l122_3 c122_4) [.sj v122_2 c122_2, .lp v122_1 G1, .blk 0, .sj v122_0 c122_0]) := by unfold S122_3; rw [T122_2 hE G1, T122_0 hE, hE (.opq false l122_3 c122_4)]; kernel_rfl
theorem T122_1b (hE : FX x122 D m E) (G1) : S122_1b D m (e122_1 G1) = e122_1 (E c122_1b [.lp v122_1 G1, .blk 0, .sj v122_0 c122_0]) := by unfold S122_1b; rw [T122_3 hE G1, hE c122_1b]; kernel_rfl
theorem T122_1 (hE : FX x122 D m E) : S122_1 D m = e122_1 (nrec (fun _ => none) (fun _ G1 st => E c122_1b [.lp v122_1 G1, .blk 0, .sj v122_0 c122_0] st) m) :=
  nrec_emb e122_1 (fun _ _ _ _ _ => none) (fun g => S122_1b D m g) (fun G1 st => E c122_1b [.lp v122_1 G1, .blk 0, .sj v122_0 c122_0] st) rfl (fun g => T122_1b hE g) m
theorem T122_5 (hE : FX x122 D m E) : S122_5 D m = e122_5 (E c122_e []) := by unfold S122_5; rw [T122_1 hE, hE c122_e]; kernel_rfl
theorem X122 : XTie S122 x122 := X_of fun D m E hE args h u => by unfold S122; rw [T122_5 hE]; kernel_rfl
/- 123 -/
def c123_e : XC := (.sO [.al p2 (.box q0), .al p4 (.new [.nils, (kI 0), (kI 0), (kI 0), (kI 0)])] (.seq (.seq (.oX [.L p5 (.cells 5 q2) .v, .mv p6 q1 .s, .cl p7 117 [q5, q6] .b]) (.cond q7 (.seq (.oX [.L p8 (.cells 5 q2) .v, .cl p9 118 [q8] .v, .ss 5 q4 q9]) .ret) .skip)) (.sO [.L p10 (.cells 5 q2) .v, .cl p11 161 [q10, (ci 11)] .v, .ss 5 q4 q11] (.s .ret))))
def x123 : XFn := ⟨[.v, .s], false, [(.cells 5 p4)], c123_e⟩
def e123_0 (k t0 t1 h) := kN k [(p0, t0), (p1, (vS t1))] h
def S123_0 (D : CallD) (m : Nat) (t0 : AV) (t1 : LN) (h : HP) : Res2 :=
 let t2 := AV.ptr (HP.nxQ h) 0
 let h1 := HP.newQ h (.cells true (AV.cells t0))
 let t4 := AV.ptr (HP.nxQ h1) 0
 let h2 := HP.newQ h1 (.cells true [.nils, (kI 0), (kI 0), (kI 0), (kI 0)])
 cellsC 5 t2 h2 fun t5 =>
 cal D 117 [t5, (vS t1)] h2 fun t7 h3 =>
 asB t7 fun t7a =>
 br t7a (
 cellsC 5 t2 h3 fun t8 =>
 cal D 118 [t8] h3 fun t9 h4 =>
 stsC 5 t4 t9 h4 fun h5 =>
 cellsC 5 t4 h5 fun t4a =>
 some (.ret t4a h5, .no)) (
 cellsC 5 t2 h3 fun t10 =>
 cal D 161 [t10, (vI (Int.ofNat 11))] h3 fun t11 h6 =>
 stsC 5 t4 t11 h6 fun h7 =>
 cellsC 5 t4 h7 fun t4a =>
 some (.ret t4a h7, .no))
def S123 : SFn := fun D m args h u => nou u <| popV args fun t0 args => popS args fun t1 args => endA args (S123_0 D m t0 t1 h)
theorem T123_0 (hE : FX x123 D m E) : S123_0 D m = e123_0 (E c123_e []) := by unfold S123_0; rw [hE c123_e]; kernel_rfl
theorem X123 : XTie S123 x123 := X_of fun D m E hE args h u => by unfold S123; rw [T123_0 hE]; kernel_rfl
/- 124 -/
def v124_0 : List Pos := [p1, p2, p5]
def c124_0 : XC := (.sO [.L p32 (.cells 5 q1) .v, .cl p33 123 [q32, (.c (.str [93]))] .v, .mv p34 q5 tI, .ss 5 q2 q33, .mv p3 q34 tI] (.s .ret))
def c124_e : XC := (.sO [.al p1 (.box q0), .al p2 (.new [.nils, (kI 0), (kI 0), (kI 0), (kI 0)]), .mv p3 (ci 0) tI] (.seq (.seq (.oX [.L p7 (.cells 5 q1) .v, .cl p8 117 [q7, (.c (.str [91]))] .b, .P p9 (.un .not q8) .b]) (.cond q9 (.seq (.oX [.L p10 (.cells 5 q1) .v, .ss 5 q2 q10, .mv p3 (ci 0) tI]) .ret) .skip)) (.sO [.L p11 (.cells 5 q1) .v, .cl p12 118 [q11] .v, .ss 5 q1 q12] (.sO [.L p13 (.cells 5 q1) .v, .al p4 (.new [.nils, (kI 0), (kI 0), (kI 0), (kI 0)]), .ss 5 q4 q13] (.sO [.mv p5 (ci 0) tI] (.sO [.L p15 (.cells 5 q1) .v, .cl p16 120 [q15, (ci 2)] .v, .mv p14 q16 .v, .P p17 (.ext q14 0) .v, .P p18 (.ext q14 1) .s, .ss 5 q1 q17, .mv p6 q18 .s] (.sj v124_0 (.sO [.fa p19 3 q1, .ld p20 q19 tI, .bn p21 .eql q20 (ci 0) .b] (.cond q21 (.sO [.mv p22 q6 .s, .cl p23 163 [q22] tI, .mv p5 q23 tI] (.sO [.mv p24 q5 tI, .bn p25 .lss q24 (ci 1) .b, .mv p26 q25 .b, .ge p26 (XL.of [.G p26 false p27 (.mov q5) tI, .G p26 false p28 (.bin .gtr q27 (ci 1000)) .b, .P p29 (.pick q26 (cb true) q28) .b]) p29 .b] (.cond q29 (.sO [.L p30 (.cells 5 q4) .v, .cl p31 161 [q30, (ci 1)] .v, .ss 5 q2 q31, .mv p3 (ci 0) tI] (.s .ret)) (.s .skip)))) (.s .skip))) c124_0)))))))
def x124 : XFn := ⟨[.v], false, [(.cells 5 p2), (.tmp p3)], c124_e⟩
def e124_0 (k t1 t2 t5 h) := kN k [(p1, t1), (p2, t2), (p5, (vI t5))] h
def S124_0 (D : CallD) (m : Nat) (t1 t2 : AV) (t5 : Int) (h : HP) : Res2 :=
 cellsC 5 t1 h fun t32 =>
 cal D 123 [t32, (vS ([93] : LN))] h fun t33 h12 =>
 stsC 5 t2 t33 h12 fun h13 =>
 cellsC 5 t2 h13 fun t2a =>
 some (.ret (.tup [t2a, (vI t5)]) h13, .no)
def e124_1 (k t0 h) := kN k [(p0, t0)] h
def S124_1 (D : CallD) (m : Nat) (t0 : AV) (h : HP) : Res2 :=
 let t1 := AV.ptr (HP.nxQ h) 0
 let h2 := HP.newQ h (.cells true (AV.cells t0))
 let t2 := AV.ptr (HP.nxQ h2) 0
 let h3 := HP.newQ h2 (.cells true [.nils, (kI 0), (kI 0), (kI 0), (kI 0)])
 cellsC 5 t1 h3 fun t7 =>
 cal D 117 [t7, (vS ([91] : LN))] h3 fun t8 h4 =>
 asB t8 fun t8a =>
 let t9 := !t8a
 br t9 (
 cellsC 5 t1 h4 fun t10 =>
 stsC 5 t2 t10 h4 fun h5 =>
 cellsC 5 t2 h5 fun t2a =>
 some (.ret (.tup [t2a, (vI (Int.ofNat 0))]) h5, .no)) (
 cellsC 5 t1 h4 fun t11 =>
 cal D 118 [t11] h4 fun t12 h6 =>
 stsC 5 t1 t12 h6 fun h7 =>
 cellsC 5 t1 h7 fun t13 =>
 let t4 := AV.ptr (HP.nxQ h7) 0
 let h8 := HP.newQ h7 (.cells true [.nils, (kI 0), (kI 0), (kI 0), (kI 0)])
 stsC 5 t4 t13 h8 fun h9 =>
 cellsC 5 t1 h9 fun t15 =>
 cal D 120 [t15, (vI (Int.ofNat 2))] h9 fun t16 h10 =>
 extC t16 0 fun t17 =>
 extC t16 1 fun vt18 => asS vt18 fun t18 =>
 stsC 5 t1 t17 h10 fun h11 =>
 let t19 := (AV.ptr (HP.nxQ h) (Nat.add 0 3))
 ldI t19 h11 fun t20 =>
 let t21 := eqQ t20 (Int.ofNat 0)
 br t21 (
 cal D 163 [(vS t18)] h11 fun t23 h14 =>
 asI .i64 t23 fun t23a =>
 let t25 := ltQ t23a (Int.ofNat 1)
 obB (brV t25 (
 some (vB true)) (
 let t28 := ltQ (Int.ofNat 1000) t23a
 some (vB t28))) fun t29 =>
 br t29 (
 cellsC 5 t4 h14 fun t30 =>
 cal D 161 [t30, (vI (Int.ofNat 1))] h14 fun t31 h15 =>
 stsC 5 t2 t31 h15 fun h16 =>
 cellsC 5 t2 h16 fun t2a =>
 some (.ret (.tup [t2a, (vI (Int.ofNat 0))]) h16, .no)) (
 S124_0 D m t1 t2 t23a h14)) (
 S124_0 D m t1 t2 (Int.ofNat 0) h11))
def S124 : SFn := fun D m args h u => nou u <| popV args fun t0 args => endA args (S124_1 D m t0 h)
theorem T124_0 (hE : FX x124 D m E) : S124_0 D m = e124_0 (E c124_0 []) := by unfold S124_0; rw [hE c124_0]; kernel_rfl
theorem T124_1 (hE : FX x124 D m E) : S124_1 D m = e124_1 (E c124_e []) := by unfold S124_1; rw [T124_0 hE, hE c124_e]; kernel_rfl
theorem X124 : XTie S124 x124 := X_of fun D m E hE args h u => by unfold S124; rw [T124_1 hE]; kernel_rfl
/- 125 -/
def v125_0 : List Pos := [p1, p2, p3, p4]
def c125_0 : XC := (.seq (.ops true (XL.of [.L p27 (.cells 5 q1) .v, .L p29 (.cells 8 q4) .v, .o ⟨(some p28), (.call (.fn 166) [q27]), none, [⟨none, .cells 8 q4, p29⟩]⟩ .v, .o ⟨none, (.e (.stores 5 q2 q28)), none, [⟨none, .cells 8 q4, p29⟩]⟩ .v, .ss 8 q3 q29])) (.s .ret))
def c125_e : XC := (.sO [.al p1 (.box q0), .al p2 (.new [.nils, (kI 0), (kI 0), (kI 0), (kI 0)]), .al p3 (.new [(kI 0), (.str []), (.str []), (.int .u32 (.ofNat 0)), (.int .u64 (.ofNat 0)), .nils, (kI 0), (kI 0)])] (.sO [.L p7 (.cells 5 q1) .v, .cl p8 165 [q7] .v, .cl p9 164 [q8, (ci 0)] .v, .mv p6 q9 .v, .P p10 (.ext q6 0) .v, .P p11 (.ext q6 1) .v, .al p4 (.new [(kI 0), (.str []), (.str []), (.int .u32 (.ofNat 0)), (.int .u64 (.ofNat 0)), .nils, (kI 0), (kI 0)]), .ss 5 q1 q10, .ss 8 q4 q11] (.sj v125_0 (.sO [.L p12 (.cells 5 q1) .v, .cl p13 117 [q12, (.c (.str [61]))] .b] (.cond q13 (.sO [.P p14 (.build [(kI 0), (.str []), (.str []), (.int .u32 (.ofNat 0)), (.int .u64 (.ofNat 0)), .nils, (kI 0), (kI 0)] []) .v, .al p5 (.new [(kI 0), (.str []), (.str []), (.int .u32 (.ofNat 0)), (.int .u64 (.ofNat 0)), .nils, (kI 0), (kI 0)]), .ss 8 q5 q14] (.sO [.L p16 (.cells 5 q1) .v, .cl p17 118 [q16] .v, .cl p18 125 [q17] .v, .mv p15 q18 .v, .P p19 (.ext q15 0) .v, .P p20 (.ext q15 1) .v, .ss 5 q1 q19, .ss 8 q5 q20] (.s (.oX [.L p21 (.cells 8 q4) .v, .L p22 (.cells 8 q5) .v, .al p23 (.bsl [(kI 0), (.str []), (.str []), (.int .u32 (.ofNat 0)), (.int .u64 (.ofNat 0)), .nils, (kI 0), (kI 0), (kI 0), (.str []), (.str []), (.int .u32 (.ofNat 0)), (.int .u64 (.ofNat 0)), .nils, (kI 0), (kI 0)] 2 [⟨0, 8, q21⟩, ⟨8, 8, q22⟩]), .fa p24 7 q4, .ld p25 q24 tI, .P p26 (.build [(kI 0), (.str []), (.str []), (.int .u32 (.ofNat 0)), (.int .u64 (.ofNat 0)), .nils, (kI 0), (kI 0)] [⟨0, 1, (ci 6)⟩, ⟨5, 1, q23⟩, ⟨7, 1, q25⟩]) .v, .ss 8 q4 q26])))) (.s .skip))) c125_0)))
def x125 : XFn := ⟨[.v], false, [(.cells 5 p2), (.cells 8 p3)], c125_e⟩
def e125_0 (k t1 t2 t3 t4 h) := kN k [(p1, t1), (p2, t2), (p3, t3), (p4, t4)] h
def S125_0 (D : CallD) (m : Nat) (t1 t2 t3 t4 : AV) (h : HP) : Res2 :=
 cellsC 5 t1 h fun t27 =>
 cellsC 8 t4 h fun t29 =>
 cal D 166 [t27] h fun t28 h10 =>
 br (again [⟨none, .cells 8 q4, p29⟩] (mkT [(p29, t29), (p4, t4)]) h10) (
 stsC 5 t2 t28 h10 fun h11 =>
 br (againE (.stores 5 q2 q28) [⟨none, .cells 8 q4, p29⟩] (mkT [(p2, t2), (p29, t29), (p4, t4)]) h11) (
 stsC 8 t3 t29 h11 fun h12 =>
 cellsC 5 t2 h12 fun t2a =>
 cellsC 8 t3 h12 fun t3a =>
 some (.ret (.tup [t2a, t3a]) h12, .no)) none) none
def e125_1 (k t0 h) := kN k [(p0, t0)] h
def S125_1 (D : CallD) (m : Nat) (t0 : AV) (h : HP) : Res2 :=
 let t1 := AV.ptr (HP.nxQ h) 0
 let h2 := HP.newQ h (.cells true (AV.cells t0))
 let t2 := AV.ptr (HP.nxQ h2) 0
 let h3 := HP.newQ h2 (.cells true [.nils, (kI 0), (kI 0), (kI 0), (kI 0)])
 let t3 := AV.ptr (HP.nxQ h3) 0
 let h4 := HP.newQ h3 (.cells true [(kI 0), (.str []), (.str []), (.int .u32 (.ofNat 0)), (.int .u64 (.ofNat 0)), .nils, (kI 0), (kI 0)])
 cellsC 5 t1 h4 fun t7 =>
 cal D 165 [t7] h4 fun t8 h5 =>
 cal D 164 [t8, (vI (Int.ofNat 0))] h5 fun t9 h6 =>
 extC t9 0 fun t10 =>
 extC t9 1 fun t11 =>
 let t4 := AV.ptr (HP.nxQ h6) 0
 let h7 := HP.newQ h6 (.cells true [(kI 0), (.str []), (.str []), (.int .u32 (.ofNat 0)), (.int .u64 (.ofNat 0)), .nils, (kI 0), (kI 0)])
 stsC 5 t1 t10 h7 fun h8 =>
 stsC 8 t4 t11 h8 fun h9 =>
 cellsC 5 t1 h9 fun t12 =>
 cal D 117 [t12, (vS ([61] : LN))] h9 fun t13 h13 =>
 asB t13 fun t13a =>
 br t13a (
 let t14 := (AV.agg [(vI (Int.ofNat 0)), (vS ([] : LN)), (vS ([] : LN)), (vW (Int.ofNat 0)), (AV.int .u64 (Int.ofNat 0)), (.nils : AV), (vI (Int.ofNat 0)), (vI (Int.ofNat 0))])
 let t5 := AV.ptr (HP.nxQ h13) 0
 let h14 := HP.newQ h13 (.cells true [(kI 0), (.str []), (.str []), (.int .u32 (.ofNat 0)), (.int .u64 (.ofNat 0)), .nils, (kI 0), (kI 0)])
 stsC 8 t5 t14 h14 fun h15 =>
 cellsC 5 t1 h15 fun t16 =>
 cal D 118 [t16] h15 fun t17 h16 =>
 cal D 125 [t17] h16 fun t18 h17 =>
 extC t18 0 fun t19 =>
 extC t18 1 fun t20 =>
 stsC 5 t1 t19 h17 fun h18 =>
 stsC 8 t5 t20 h18 fun h19 =>
 cellsC 8 t4 h19 fun t21 =>
 cellsC 8 t5 h19 fun t22 =>
 obQ (evA (.bsl [(kI 0), (.str []), (.str []), (.int .u32 (.ofNat 0)), (.int .u64 (.ofNat 0)), .nils, (kI 0), (kI 0), (kI 0), (.str []), (.str []), (.int .u32 (.ofNat 0)), (.int .u64 (.ofNat 0)), .nils, (kI 0), (kI 0)] 2 [⟨0, 8, (.c t21)⟩, ⟨8, 8, (.c t22)⟩]) .leaf) fun r20 =>
 let t23 := vkV r20.2 (HP.nxQ h19)
 let h21 := HP.newQ h19 r20.1
 let t24 := (AV.ptr (HP.nxQ h6) (Nat.add 0 7))
 ldI t24 h21 fun t25 =>
 obQ (evP (.build [(kI 0), (.str []), (.str []), (.int .u32 (.ofNat 0)), (.int .u64 (.ofNat 0)), .nils, (kI 0), (kI 0)] [⟨0, 1, (.c (vI (Int.ofNat 6)))⟩, ⟨5, 1, (.c t23)⟩, ⟨7, 1, (.c (vI t25))⟩]) .leaf) fun t26 =>
 stsC 8 t4 t26 h21 fun h22 =>
 S125_0 D m t1 t2 t3 t4 h22) (
 S125_0 D m t1 t2 t3 t4 h13)
def S125 : SFn := fun D m args h u => nou u <| popV args fun t0 args => endA args (S125_1 D m t0 h)
theorem T125_0 (hE : FX x125 D m E) : S125_0 D m = e125_0 (E c125_0 []) := by unfold S125_0; rw [hE c125_0]; kernel_rfl
theorem T125_1 (hE : FX x125 D m E) : S125_1 D m = e125_1 (E c125_e []) := by unfold S125_1; rw [T125_0 hE, hE c125_e]; kernel_rfl
theorem X125 : XTie S125 x125 := X_of fun D m E hE args h u => by unfold S125; rw [T125_1 hE]; kernel_rfl
/- 126 -/
def c126_e : XC := (.sO [.al p3 (.box q0), .al p4 (.box q1), .al p6 (.new [.nils, (kI 0), (kI 0), (kI 0), (kI 0), (kI 0), (kI 0)])] (.seq (.ops true (XL.of [.al p7 (.bsl [] 0 []), .fa p8 0 q3, .ld p9 q8 .v, .L p11 (.cells 17 q4) .v, .mv p12 q2 .s, .fa p13 1 q3, .ld p14 q13 tI, .P p15 (.build [(.bool false), (.bool false), (.bool false), (.str []), (kI 0), (kI 0), .nils, (.bool false), .nils, (kI 0), .nils, .nils, (.str []), (kI 0), (kI 0), (kI 0), (kI 0), (.str []), (kI 0)] [⟨0, 17, q11⟩, ⟨17, 1, q12⟩, ⟨18, 1, q14⟩]) .v, .al p16 (.bsl [(.bool false), (.bool false), (.bool false), (.str []), (kI 0), (kI 0), .nils, (.bool false), .nils, (kI 0), .nils, .nils, (.str []), (kI 0), (kI 0), (kI 0), (kI 0), (.str []), (kI 0)] 1 [⟨0, 19, q15⟩]), .o ⟨(some p10), (.e (.app 19 224 q7 q9)), none, [⟨none, .cells 17 q4, p11⟩, ⟨none, .cell q13, p14⟩]⟩ .v, .o ⟨(some p17), (.e (.app 19 224 q10 q16)), none, []⟩ .v, .fa p18 0 q3, .st q18 q17])) (.sO [.L p19 (.cells 7 q3) .v, .ss 7 q6 q19] (.s .ret))))
def x126 : XFn := ⟨[.v, .v, .s], false, [(.cells 7 p6)], c126_e⟩
def e126_0 (k t0 t1 t2 h) := kN k [(p0, t0), (p1, t1), (p2, (vS t2))] h
def S126_0 (D : CallD) (m : Nat) (t0 t1 : AV) (t2 : LN) (h : HP) : Res2 :=
 let t3 := AV.ptr (HP.nxQ h) 0
 let h1 := HP.newQ h (.cells true (AV.cells t0))
 let t4 := AV.ptr (HP.nxQ h1) 0
 let h2 := HP.newQ h1 (.cells true (AV.cells t1))
 let t6 := AV.ptr (HP.nxQ h2) 0
 let h3 := HP.newQ h2 (.cells true [.nils, (kI 0), (kI 0), (kI 0), (kI 0), (kI 0), (kI 0)])
 let t7 := AV.slice (HP.nxQ h3) 0 0 (.exact 0)
 let h4 := HP.newQ h3 (.cells true [])
 let t8 := (AV.ptr (HP.nxQ h) (Nat.add 0 0))
 cellC t8 h4 fun t9 =>
 cellsC 17 t4 h4 fun t11 =>
 let t13 := (AV.ptr (HP.nxQ h) (Nat.add 0 1))
 ldI t13 h4 fun t14 =>
 obQ (evP (.build [(.bool false), (.bool false), (.bool false), (.str []), (kI 0), (kI 0), .nils, (.bool false), .nils, (kI 0), .nils, .nils, (.str []), (kI 0), (kI 0), (kI 0), (kI 0), (.str []), (kI 0)] [⟨0, 17, (.c t11)⟩, ⟨17, 1, (.c (vS t2))⟩, ⟨18, 1, (.c (vI t14))⟩]) .leaf) fun t15 =>
 obQ (evA (.bsl [(.bool false), (.bool false), (.bool false), (.str []), (kI 0), (kI 0), .nils, (.bool false), .nils, (kI 0), .nils, .nils, (.str []), (kI 0), (kI 0), (kI 0), (kI 0), (.str []), (kI 0)] 1 [⟨0, 19, (.c t15)⟩]) .leaf) fun r5 =>
 let t16 := vkV r5.2 (HP.nxQ h4)
 let h6 := HP.newQ h4 r5.1
 eff (.app 19 224 (.c t7) (.c t9)) h6 fun t10 h7 =>
 br (againE (.app 19 224 q7 q9) [⟨none, .cells 17 q4, p11⟩, ⟨none, .cell q13, p14⟩] (mkT [(p14, (vI t14)), (p13, t13), (p11, t11), (p4, t4)]) h7) (
 eff (.app 19 224 (.c t10) (.c t16)) h7 fun t17 h8 =>
 let t18 := (AV.ptr (HP.nxQ h) (Nat.add 0 0))
 stoC t18 t17 h8 fun h9 =>
 cellsC 7 t3 h9 fun t19 =>
 stsC 7 t6 t19 h9 fun h10 =>
 cellsC 7 t6 h10 fun t6a =>
 some (.ret t6a h10, .no)) none
def S126 : SFn := fun D m args h u => nou u <| popV args fun t0 args => popV args fun t1 args => popS args fun t2 args => endA args (S126_0 D m t0 t1 t2 h)
theorem T126_0 (hE : FX x126 D m E) : S126_0 D m = e126_0 (E c126_e []) := by unfold S126_0; rw [hE c126_e]; kernel_rfl
theorem X126 : XTie S126 x126 := X_of fun D m E hE args h u => by unfold S126; rw [T126_0 hE]; kernel_rfl
/- 127 -/
def c127_e : XC := (.sO [.mv p2 (cb false) .b] (.sO [.mv p3 q0 .s, .bn p4 .eql q3 (.c (.str [112, 117, 116, 119])) .b, .mv p5 q4 .b, .ge p5 (XL.of [.G p5 false p6 (.mov q0) .s, .G p5 false p7 (.bin .eql q6 (.c (.str [112, 117, 116, 100]))) .b, .P p8 (.pick q5 (cb true) q7) .b]) p8 .b, .mv p9 q8 .b, .ge p9 (XL.of [.G p9 false p10 (.mov q0) .s, .G p9 false p11 (.bin .eql q10 (.c (.str [103, 101, 116, 119]))) .b, .P p12 (.pick q9 (cb true) q11) .b]) p12 .b, .mv p2 q12 .b] (.s .ret)))
def x127 : XFn := ⟨[.s], false, [(.tmp p2)], c127_e⟩
def e127_0 (k t0 h) := kN k [(p0, (vS t0))] h
def S127_0 (D : CallD) (m : Nat) (t0 : LN) (h : HP) : Res2 :=
 let t4 := eqL t0 ([112, 117, 116, 119] : LN)
 obB (brV t4 (
 some (vB true)) (
 let t7 := eqL t0 ([112, 117, 116, 100] : LN)
 some (vB t7))) fun t8 =>
 obB (brV t8 (
 some (vB true)) (
 let t11 := eqL t0 ([103, 101, 116, 119] : LN)
 some (vB t11))) fun t12 =>
 some (.ret (vB t12) h, .no)
def S127 : SFn := fun D m args h u => nou u <| popS args fun t0 args => endA args (S127_0 D m t0 h)
theorem T127_0 (hE : FX x127 D m E) : S127_0 D m = e127_0 (E c127_e []) := by unfold S127_0; rw [hE c127_e]; kernel_rfl
theorem X127 : XTie S127 x127 := X_of fun D m E hE args h u => by unfold S127; rw [T127_0 hE]; kernel_rfl
/- 128 -/
def c128_e : XC := (.sO [.mv p2 (cb false) .b] (.sO [.mv p3 q0 tI, .bn p4 .eql q3 (ci 1) .b, .mv p5 q4 .b, .ge p5 (XL.of [.G p5 false p6 (.mov q0) tI, .G p5 false p7 (.bin .eql q6 (ci 2)) .b, .P p8 (.pick q5 (cb true) q7) .b]) p8 .b, .mv p2 q8 .b] (.s .ret)))
def x128 : XFn := ⟨[tI], false, [(.tmp p2)], c128_e⟩
def e128_0 (k t0 h) := kN k [(p0, (vI t0))] h
def S128_0 (D : CallD) (m : Nat) (t0 : Int) (h : HP) : Res2 :=
 let t4 := eqQ t0 (Int.ofNat 1)
 obB (brV t4 (
 some (vB true)) (
 let t7 := eqQ t0 (Int.ofNat 2)
 some (vB t7))) fun t8 =>
 some (.ret (vB t8) h, .no)
def S128 : SFn := fun D m args h u => nou u <| popI .i64 args fun t0 args => endA args (S128_0 D m t0 h)
theorem T128_0 (hE : FX x128 D m E) : S128_0 D m = e128_0 (E c128_e []) := by unfold S128_0; rw [hE c128_e]; kernel_rfl
theorem X128 : XTie S128 x128 := X_of fun D m E hE args h u => by unfold S128; rw [T128_0 hE]; kernel_rfl
/- 129 -/
def c129_e : XC := (.sO [.al p1 (.box q0), .al p2 (.new [.nils, (kI 0), (kI 0), (kI 0), (kI 0), (kI 0), (kI 0)])] (.sO [.fa p3 1 q1, .ld p4 q3 tI, .bn p5 .add q4 (ci 1) tI, .fa p6 1 q1, .st q6 q5] (.sO [.L p7 (.cells 7 q1) .v, .ss 7 q2 q7] (.s .ret))))
def x129 : XFn := ⟨[.v], false, [(.cells 7 p2)], c129_e⟩
def e129_0 (k t0 h) := kN k [(p0, t0)] h
def S129_0 (D : CallD) (m : Nat) (t0 : AV) (h : HP) : Res2 :=
 let t1 := AV.ptr (HP.nxQ h) 0
 let h1 := HP.newQ h (.cells true (AV.cells t0))
 let t2 := AV.ptr (HP.nxQ h1) 0
 let h2 := HP.newQ h1 (.cells true [.nils, (kI 0), (kI 0), (kI 0), (kI 0), (kI 0), (kI 0)])
 let t3 := (AV.ptr (HP.nxQ h) (Nat.add 0 1))
 ldI t3 h2 fun t4 =>
 let t5 := wrQ .i64 (addQ t4 (Int.ofNat 1))
 let t6 := (AV.ptr (HP.nxQ h) (Nat.add 0 1))
 stoC t6 (vI t5) h2 fun h3 =>
 cellsC 7 t1 h3 fun t7 =>
 stsC 7 t2 t7 h3 fun h4 =>
 cellsC 7 t2 h4 fun t2a =>
 some (.ret t2a h4, .no)
def S129 : SFn := fun D m args h u => nou u <| popV args fun t0 args => endA args (S129_0 D m t0 h)
theorem T129_0 (hE : FX x129 D m E) : S129_0 D m = e129_0 (E c129_e []) := by unfold S129_0; rw [hE c129_e]; kernel_rfl
theorem X129 : XTie S129 x129 := X_of fun D m E hE args h u => by unfold S129; rw [T129_0 hE]; kernel_rfl
/- 130 -/
def v130_0 : List Pos := [p4]
def c130_0 : XC := (.sO [.P p29 (.build [(.bool false), (.bool false), (.bool false), (.str []), (kI 0), (kI 0), .nils, (.bool false), .nils, (kI 0), .nils, .nils, (.str []), (kI 0), (kI 0), (kI 0), (kI 0), (.str []), (kI 0)] []) .v, .ss 19 q4 q29, .mv p5 (cb false) .b] (.s .ret))
def v130_1 : List Pos := [p1, p2, p4, p6]
def c130_1b : XC := (.seq (.seq (.oX [.mv p11 q6 tI, .bn p12 .geq q11 (ci 0) .b]) (.cond q12 .skip (.exit 0))) (.seq (.block 1 (.seq (.oX [.fa p15 0 q2, .ld p16 q15 .v, .mv p17 q6 tI, .P p18 (.iaddr (.sl 19) q16 q17) .v, .fa p19 0 q18, .fa p20 3 q19, .ld p21 q20 .s, .mv p22 q1 .s, .bn p23 .eql q21 q22 .b]) (.cond q23 (.seq (.oX [.fa p24 0 q2, .ld p25 q24 .v, .mv p26 q6 tI, .P p27 (.iaddr (.sl 19) q25 q26) .v, .L p28 (.cells 19 q27) .v, .ss 19 q4 q28, .mv p5 (cb true) .b]) .ret) .skip))) (.s (.oX [.mv p13 q6 tI, .bn p14 .sub q13 (ci 1) tI, .mv p6 q14 tI]))))
def c130_e : XC := (.sO [.al p2 (.box q0), .al p4 (.new [(.bool false), (.bool false), (.bool false), (.str []), (kI 0), (kI 0), .nils, (.bool false), .nils, (kI 0), .nils, .nils, (.str []), (kI 0), (kI 0), (kI 0), (kI 0), (.str []), (kI 0)]), .mv p5 (cb false) .b] (.sj v130_0 (.sO [.fa p7 0 q2, .ld p8 q7 .v, .P p9 (.lenl q8) tI, .bn p10 .sub q9 (ci 1) tI, .mv p6 q10 tI] (.block 0 (.loop v130_1 c130_1b))) c130_0))
def x130 : XFn := ⟨[.v, .s], false, [(.cells 19 p4), (.tmp p5)], c130_e⟩
def e130_0 (k t4 h) := kN k [(p4, t4)] h
def S130_0 (D : CallD) (m : Nat) (t4 : AV) (h : HP) : Res2 :=
 let t29 := (AV.agg [(vB false), (vB false), (vB false), (vS ([] : LN)), (vI (Int.ofNat 0)), (vI (Int.ofNat 0)), (.nils : AV), (vB false), (.nils : AV), (vI (Int.ofNat 0)), (.nils : AV), (.nils : AV), (vS ([] : LN)), (vI (Int.ofNat 0)), (vI (Int.ofNat 0)), (vI (Int.ofNat 0)), (vI (Int.ofNat 0)), (vS ([] : LN)), (vI (Int.ofNat 0))])
 stsC 19 t4 t29 h fun h5 =>
 cellsC 19 t4 h5 fun t4a =>
 some (.ret (.tup [t4a, (vB false)]) h5, .no)
def e130_1 (k t1 t2 t4 t6 h) := kN k [(p1, (vS t1)), (p2, t2), (p4, t4), (p6, (vI t6))] h
def S130_1b (D : CallD) (m : Nat) (g1 : LN → AV → AV → Int → HP → Res2) (t1 : LN) (t2 t4 : AV) (t6 : Int) (h : HP) : Res2 :=
 let t12 := leQ (Int.ofNat 0) t6
 br t12 (
 faC 0 t2 fun t15 =>
 cellC t15 h fun t16 =>
 iasC 19 t16 (vI t6) fun t18 =>
 faC 0 t18 fun t19 =>
 faC 3 t19 fun t20 =>
 ldS t20 h fun t21 =>
 let t23 := eqL t21 t1
 br t23 (
 faC 0 t2 fun t24 =>
 cellC t24 h fun t25 =>
 iasC 19 t25 (vI t6) fun t27 =>
 cellsC 19 t27 h fun t28 =>
 stsC 19 t4 t28 h fun h6 =>
 cellsC 19 t4 h6 fun t4a =>
 some (.ret (.tup [t4a, (vB true)]) h6, .no)) (
 let t14 := wrQ .i64 (t6 - (Int.ofNat 1))
 g1 t1 t2 t4 t14 h)) (
 S130_0 D m t4 h)
def S130_1 (D : CallD) (m : Nat) : LN → AV → AV → Int → HP → Res2 := nrec (fun _ _ _ _ _ => none) (fun _ g => S130_1b D m g) m
def e130_2 (k t0 t1 h) := kN k [(p0, t0), (p1, (vS t1))] h
def S130_2 (D : CallD) (m : Nat) (t0 : AV) (t1 : LN) (h : HP) : Res2 :=
 let t2 := AV.ptr (HP.nxQ h) 0
 let h3 := HP.newQ h (.cells true (AV.cells t0))
 let t4 := AV.ptr (HP.nxQ h3) 0
 let h4 := HP.newQ h3 (.cells true [(.bool false), (.bool false), (.bool false), (.str []), (kI 0), (kI 0), .nils, (.bool false), .nils, (kI 0), .nils, .nils, (.str []), (kI 0), (kI 0), (kI 0), (kI 0), (.str []), (kI 0)])
 let t7 := (AV.ptr (HP.nxQ h) (Nat.add 0 0))
 cellC t7 h4 fun t8 =>
 lenC t8 fun vt9 => asI .i64 vt9 fun t9 =>
 let t10 := wrQ .i64 (t9 - (Int.ofNat 1))
 S130_1 D m t1 t2 t4 t10 h4
def S130 : SFn := fun D m args h u => nou u <| popV args fun t0 args => popS args fun t1 args => endA args (S130_2 D m t0 t1 h)
theorem T130_0 (hE : FX x130 D m E) : S130_0 D m = e130_0 (E c130_0 []) := by unfold S130_0; rw [hE c130_0]; kernel_rfl
theorem T130_1b (hE : FX x130 D m E) (G1) : S130_1b D m (e130_1 G1) = e130_1 (E c130_1b [.lp v130_1 G1, .blk 0, .sj v130_0 c130_0]) := by unfold S130_1b; rw [T130_0 hE, hE c130_1b]; kernel_rfl
theorem T130_1 (hE : FX x130 D m E) : S130_1 D m = e130_1 (nrec (fun _ => none) (fun _ G1 st => E c130_1b [.lp v130_1 G1, .blk 0, .sj v130_0 c130_0] st) m) :=
  nrec_emb e130_1 (fun _ _ _ _ _ => none) (fun g => S130_1b D m g) (fun G1 st => E c130_1b [.lp v130_1 G1, .blk 0, .sj v130_0 c130_0] st) rfl (fun g => T130_1b hE g) m
theorem T130_2 (hE : FX x130 D m E) : S130_2 D m = e130_2 (E c130_e []) := by unfold S130_2; rw [T130_1 hE, hE c130_e]; kernel_rfl
theorem X130 : XTie S130 x130 := X_of fun D m E hE args h u => by unfold S130; rw [T130_2 hE]; kernel_rfl
/- 131 -/
def c131_e : XC := (.sO [.al p2 (.box q0), .al p3 (.box q1), .al p4 (.new [.nils, (kI 0), (kI 0), (kI 0), (kI 0), (kI 0), (kI 0)]), .mv p5 (.c (.str [])) .s] (.sO [.fa p7 3 q2, .ld p8 q7 tI, .cl p9 13 [q8] .s, .bn p10 .add (.c (.str [36])) q9 .s, .mv p6 q10 .s] (.sO [.fa p11 3 q2, .ld p12 q11 tI, .bn p13 .add q12 (ci 1) tI, .fa p14 3 q2, .st q14 q13] (.sO [.L p15 (.cells 7 q2) .v, .L p16 (.cells 17 q3) .v, .mv p17 q6 .s, .cl p18 126 [q15, q16, q17] .v, .mv p19 q6 .s, .ss 7 q4 q18, .mv p5 q19 .s] (.s .ret)))))
def x131 : XFn := ⟨[.v, .v], false, [(.cells 7 p4), (.tmp p5)], c131_e⟩
def e131_0 (k t0 t1 h) := kN k [(p0, t0), (p1, t1)] h
def S131_0 (D : CallD) (m : Nat) (t0 t1 : AV) (h : HP) : Res2 :=
 let t2 := AV.ptr (HP.nxQ h) 0
 let h1 := HP.newQ h (.cells true (AV.cells t0))
 let t3 := AV.ptr (HP.nxQ h1) 0
 let h2 := HP.newQ h1 (.cells true (AV.cells t1))
 let t4 := AV.ptr (HP.nxQ h2) 0
 let h3 := HP.newQ h2 (.cells true [.nils, (kI 0), (kI 0), (kI 0), (kI 0), (kI 0), (kI 0)])
 let t7 := (AV.ptr (HP.nxQ h) (Nat.add 0 3))
 ldI t7 h3 fun t8 =>
 cal D 13 [(vI t8)] h3 fun t9 h4 =>
 asS t9 fun t9a =>
 obS (strBin .add ([36] : LN) t9a) fun t10 =>
 let t11 := (AV.ptr (HP.nxQ h) (Nat.add 0 3))
 ldI t11 h4 fun t12 =>
 let t13 := wrQ .i64 (addQ t12 (Int.ofNat 1))
 let t14 := (AV.ptr (HP.nxQ h) (Nat.add 0 3))
 stoC t14 (vI t13) h4 fun h5 =>
 cellsC 7 t2 h5 fun t15 =>
 cellsC 17 t3 h5 fun t16 =>
 cal D 126 [t15, t16, (vS t10)] h5 fun t18 h6 =>
 stsC 7 t4 t18 h6 fun h7 =>
 cellsC 7 t4 h7 fun t4a =>
 some (.ret (.tup [t4a, (vS t10)]) h7, .no)
def S131 : SFn := fun D m args h u => nou u <| popV args fun t0 args => popV args fun t1 args => endA args (S131_0 D m t0 t1 h)
theorem T131_0 (hE : FX x131 D m E) : S131_0 D m = e131_0 (E c131_e []) := by unfold S131_0; rw [hE c131_e]; kernel_rfl
theorem X131 : XTie S131 x131 := X_of fun D m E hE args h u => by unfold S131; rw [T131_0 hE]; kernel_rfl
/- 132 -/
def v132_0 : List Pos := [p4, p5, p8, p9]
def c132_0 : XC := (.seq (.ops true (XL.of [.L p28 (.cells 7 q4) .v, .L p29 (.cells 8 q5) .v, .o ⟨none, (.e (.stores 7 q8 q28)), none, [⟨none, .cells 8 q5, p29⟩]⟩ .v, .ss 8 q9 q29])) (.s .ret))
def c132_e : XC := (.sO [.al p4 (.box q0), .al p5 (.box q1), .al p8 (.new [.nils, (kI 0), (kI 0), (kI 0), (kI 0), (kI 0), (kI 0)]), .al p9 (.new [(kI 0), (.str []), (.str []), (.int .u32 (.ofNat 0)), (.int .u64 (.ofNat 0)), .nils, (kI 0), (kI 0)])] (.sO [.L p12 (.cells 7 q4) .v, .L p13 (.cells 8 q5) .v, .cl p14 167 [q12, q13] .v, .mv p11 q14 .v, .P p15 (.ext q11 0) .v, .P p16 (.ext q11 1) .v, .ss 7 q4 q15, .ss 8 q5 q16] (.sO [.L p18 (.cells 8 q5) .v, .mv p19 q2 tI, .cl p20 168 [q18, q19] .v, .mv p17 q20 .v, .P p21 (.ext q17 0) .v, .P p22 (.ext q17 1) .b, .ss 8 q5 q21, .mv p10 q22 .b] (.sj v132_0 (.sO [.mv p23 q10 .b, .P p24 (.un .not q23) .b] (.cond q24 (.s (.oX [.L p25 (.cells 7 q4) .v, .mv p26 q3 tI, .cl p27 86 [q25, (ci 14), q26] .v, .ss 7 q4 q27])) (.s .skip))) c132_0))))
def x132 : XFn := ⟨[.v, .v, tI, tI], false, [(.cells 7 p8), (.cells 8 p9)], c132_e⟩
def e132_0 (k t4 t5 t8 t9 h) := kN k [(p4, t4), (p5, t5), (p8, t8), (p9, t9)] h
def S132_0 (D : CallD) (m : Nat) (t4 t5 t8 t9 : AV) (h : HP) : Res2 :=
 cellsC 7 t4 h fun t28 =>
 cellsC 8 t5 h fun t29 =>
 stsC 7 t8 t28 h fun h11 =>
 br (againE (.stores 7 q8 q28) [⟨none, .cells 8 q5, p29⟩] (mkT [(p8, t8), (p29, t29), (p5, t5)]) h11) (
 stsC 8 t9 t29 h11 fun h12 =>
 cellsC 7 t8 h12 fun t8a =>
 cellsC 8 t9 h12 fun t9a =>
 some (.ret (.tup [t8a, t9a]) h12, .no)) none
def e132_1 (k t0 t1 t2 t3 h) := kN k [(p0, t0), (p1, t1), (p2, (vI t2)), (p3, (vI t3))] h
def S132_1 (D : CallD) (m : Nat) (t0 t1 : AV) (t2 t3 : Int) (h : HP) : Res2 :=
 let t4 := AV.ptr (HP.nxQ h) 0
 let h2 := HP.newQ h (.cells true (AV.cells t0))
 let t5 := AV.ptr (HP.nxQ h2) 0
 let h3 := HP.newQ h2 (.cells true (AV.cells t1))
 let t8 := AV.ptr (HP.nxQ h3) 0
 let h4 := HP.newQ h3 (.cells true [.nils, (kI 0), (kI 0), (kI 0), (kI 0), (kI 0), (kI 0)])
 let t9 := AV.ptr (HP.nxQ h4) 0
 let h5 := HP.newQ h4 (.cells true [(kI 0), (.str []), (.str []), (.int .u32 (.ofNat 0)), (.int .u64 (.ofNat 0)), .nils, (kI 0), (kI 0)])
 cellsC 7 t4 h5 fun t12 =>
 cellsC 8 t5 h5 fun t13 =>
 cal D 167 [t12, t13] h5 fun t14 h6 =>
 extC t14 0 fun t15 =>
 extC t14 1 fun t16 =>
 stsC 7 t4 t15 h6 fun h7 =>
 stsC 8 t5 t16 h7 fun h8 =>
 cellsC 8 t5 h8 fun t18 =>
 cal D 168 [t18, (vI t2)] h8 fun t20 h9 =>
 extC t20 0 fun t21 =>
 extC t20 1 fun vt22 => asB vt22 fun t22 =>
 stsC 8 t5 t21 h9 fun h10 =>
 let t24 := !t22
 br t24 (
 cellsC 7 t4 h10 fun t25 =>
 cal D 86 [t25, (vI (Int.ofNat 14)), (vI t3)] h10 fun t27 h13 =>
 stsC 7 t4 t27 h13 fun h14 =>
 S132_0 D m t4 t5 t8 t9 h14) (
 S132_0 D m t4 t5 t8 t9 h10)
def S132 : SFn := fun D m args h u => nou u <| popV args fun t0 args => popV args fun t1 args => popI .i64 args fun t2 args => popI .i64 args fun t3 args => endA args (S132_1 D m t0 t1 t2 t3 h)
theorem T132_0 (hE : FX x132 D m E) : S132_0 D m = e132_0 (E c132_0 []) := by unfold S132_0; rw [hE c132_0]; kernel_rfl
theorem T132_1 (hE : FX x132 D m E) : S132_1 D m = e132_1 (E c132_e []) := by unfold S132_1; rw [T132_0 hE, hE c132_e]; kernel_rfl
theorem X132 : XTie S132 x132 := X_of fun D m E hE args h u => by unfold S132; rw [T132_1 hE]; kernel_rfl
/- 133 -/
def v133_0 : List Pos := [p2, p4, p6]
def c133_0 : XC := (.sO [.L p29 (.cells 7 q2) .v, .mv p30 q6 .v, .ss 7 q4 q29, .mv p5 q30 .v] (.s .ret))
def v133_1 : List Pos := [p1, p2, p4, p6, p10, p11]
def c133_1b : XC := (.sO [.bn p12 .lss q11 q10 .b] (.seq (.cond q12 .skip (.exit 0)) (.seq (.block 1 (.seq (.oX [.mv p13 q11 tI, .mv p7 q13 tI]) (.seq (.oX [.P p14 (.build [(kI 0), .nils, .nils, (.str []), (kI 0), (kI 0), (kI 0)] []) .v, .al p8 (.new [(kI 0), .nils, .nils, (.str []), (kI 0), (kI 0), (kI 0)]), .ss 7 q8 q14]) (.seq (.ops true (XL.of [.L p16 (.cells 7 q2) .v, .mv p17 q1 .v, .mv p18 q7 tI, .P p19 (.iaddr (.sl 7) q17 q18) .v, .L p20 (.cells 7 q19) .v, .cl p21 169 [q16, q20] .v, .mv p15 q21 .v, .P p22 (.ext q15 0) .v, .P p23 (.ext q15 1) .v, .ss 7 q2 q22, .ss 7 q8 q23])) (.oX [.mv p24 q6 .v, .L p25 (.cells 7 q8) .v, .al p26 (.bsl [(kI 0), .nils, .nils, (.str []), (kI 0), (kI 0), (kI 0)] 1 [⟨0, 7, q25⟩]), .o ⟨(some p27), (.e (.app 7 96 q24 q26)), none, []⟩ .v, .mv p6 q27 .v]))))) (.s (.oX [.bn p28 .add q11 (ci 1) tI, .mv p11 q28 tI])))))
def c133_e : XC := (.sO [.al p2 (.box q0), .al p4 (.new [.nils, (kI 0), (kI 0), (kI 0), (kI 0), (kI 0), (kI 0)]), .mv p5 (.c .nils) .v] (.sO [.mv p6 (.c .nils) .v] (.sj v133_0 (.sO [.mv p9 q1 .v, .P p10 (.lenl q9) tI, .mv p11 (ci 0) tI] (.block 0 (.loop v133_1 c133_1b))) c133_0)))
def x133 : XFn := ⟨[.v, .v], false, [(.cells 7 p4), (.tmp p5)], c133_e⟩
def e133_0 (k t2 t4 t6 h) := kN k [(p2, t2), (p4, t4), (p6, t6)] h
def S133_0 (D : CallD) (m : Nat) (t2 t4 t6 : AV) (h : HP) : Res2 :=
 cellsC 7 t2 h fun t29 =>
 stsC 7 t4 t29 h fun h5 =>
 cellsC 7 t4 h5 fun t4a =>
 some (.ret (.tup [t4a, t6]) h5, .no)
def e133_1 (k t1 t2 t4 t6 t10 t11 h) := kN k [(p1, t1), (p2, t2), (p4, t4), (p6, t6), (p10, (vI t10)), (p11, (vI t11))] h
def S133_1b (D : CallD) (m : Nat) (g1 : AV → AV → AV → AV → Int → Int → HP → Res2) (t1 t2 t4 t6 : AV) (t10 t11 : Int) (h : HP) : Res2 :=
 let t12 := ltQ t11 t10
 br t12 (
 let t14 := (AV.agg [(vI (Int.ofNat 0)), (.nils : AV), (.nils : AV), (vS ([] : LN)), (vI (Int.ofNat 0)), (vI (Int.ofNat 0)), (vI (Int.ofNat 0))])
 let t8 := AV.ptr (HP.nxQ h) 0
 let h6 := HP.newQ h (.cells true [(kI 0), .nils, .nils, (.str []), (kI 0), (kI 0), (kI 0)])
 stsC 7 t8 t14 h6 fun h7 =>
 cellsC 7 t2 h7 fun t16 =>
 iasC 7 t1 (vI t11) fun t19 =>
 cellsC 7 t19 h7 fun t20 =>
 cal D 169 [t16, t20] h7 fun t21 h8 =>
 extC t21 0 fun t22 =>
 extC t21 1 fun t23 =>
 stsC 7 t2 t22 h8 fun h9 =>
 stsC 7 t8 t23 h9 fun h10 =>
 cellsC 7 t8 h10 fun t25 =>
 obQ (evA (.bsl [(kI 0), .nils, .nils, (.str []), (kI 0), (kI 0), (kI 0)] 1 [⟨0, 7, (.c t25)⟩]) .leaf) fun r11 =>
 let t26 := vkV r11.2 (HP.nxQ h10)
 let h12 := HP.newQ h10 r11.1
 eff (.app 7 96 (.c t6) (.c t26)) h12 fun t27 h13 =>
 let t28 := wrQ .i64 (addQ t11 (Int.ofNat 1))
 g1 t1 t2 t4 t27 t10 t28 h13) (
 S133_0 D m t2 t4 t6 h)
def S133_1 (D : CallD) (m : Nat) : AV → AV → AV → AV → Int → Int → HP → Res2 := nrec (fun _ _ _ _ _ _ _ => none) (fun _ g => S133_1b D m g) m
def e133_2 (k t0 t1 h) := kN k [(p0, t0), (p1, t1)] h
def S133_2 (D : CallD) (m : Nat) (t0 t1 : AV) (h : HP) : Res2 :=
 let t2 := AV.ptr (HP.nxQ h) 0
 let h3 := HP.newQ h (.cells true (AV.cells t0))
 let t4 := AV.ptr (HP.nxQ h3) 0
 let h4 := HP.newQ h3 (.cells true [.nils, (kI 0), (kI 0), (kI 0), (kI 0), (kI 0), (kI 0)])
 lenC t1 fun vt10 => asI .i64 vt10 fun t10 =>
 S133_1 D m t1 t2 t4 (.nils : AV) t10 (Int.ofNat 0) h4
def S133 : SFn := fun D m args h u => nou u <| popV args fun t0 args => popV args fun t1 args => endA args (S133_2 D m t0 t1 h)
theorem T133_0 (hE : FX x133 D m E) : S133_0 D m = e133_0 (E c133_0 []) := by unfold S133_0; rw [hE c133_0]; kernel_rfl
theorem T133_1b (hE : FX x133 D m E) (G1) : S133_1b D m (e133_1 G1) = e133_1 (E c133_1b [.lp v133_1 G1, .blk 0, .sj v133_0 c133_0]) := by unfold S133_1b; rw [T133_0 hE, hE c133_1b]; kernel_rfl
theorem T133_1 (hE : FX x133 D m E) : S133_1 D m = e133_1 (nrec (fun _ => none) (fun _ G1 st => E c133_1b [.lp v133_1 G1, .blk 0, .sj v133_0 c133_0] st) m) :=
  nrec_emb e133_1 (fun _ _ _ _ _ _ _ => none) (fun g => S133_1b D m g) (fun G1 st => E c133_1b [.lp v133_1 G1, .blk 0, .sj v133_0 c133_0] st) rfl (fun g => T133_1b hE g) m
theorem T133_2 (hE : FX x133 D m E) : S133_2 D m = e133_2 (E c133_e []) := by unfold S133_2; rw [T133_1 hE, hE c133_e]; kernel_rfl
theorem X133 : XTie S133 x133 := X_of fun D m E hE args h u => by unfold S133; rw [T133_2 hE]; kernel_rfl
end
end Go.Proofs.YtcoldhmbmcdemaaGreat.Sx
