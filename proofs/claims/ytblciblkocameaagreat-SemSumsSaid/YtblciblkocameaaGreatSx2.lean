/- Functions, printed by a program of ours: their code, what they do, and that it is so. -/
import Derived.Test.YtblciblkocameaaGreatSp
set_option maxRecDepth 8000
set_option linter.unusedVariables false
namespace Go.Proofs.YtblciblkocameaaGreat.Sx
open Go Go.Proofs.YtblciblkocameaaGreat.Ev
set_option linter.unusedSectionVars false
noncomputable section
variable [Rho]
variable {D : CallD} {m : Nat} {E : XE}
/- 117 -/
def v117_3 : List Pos := [p2, p3, p4, p5]
def c117_3 : XC := (.seq (.ops true (XL.of [.L p164 (.cells 7 q2) .v, .L p165 (.cells 8 q3) .v, .o ⟨none, (.e (.stores 7 q4 q164)), none, [⟨none, .cells 8 q3, p165⟩]⟩ .v, .ss 8 q5 q165])) (.s .ret))
def v117_2 : List Pos := [p2, p3, p4, p5]
def c117_2 : XC := (.sO [.mv p12 (ci 0) tI] (.sO [.L p152 (.cells 8 q3) .v, .cl p153 142 [q152] .v, .mv p151 q153 .v, .P p154 (.ext q151 0) .v, .P p155 (.ext q151 1) tI, .ss 8 q3 q154, .mv p12 q155 tI] (.sO [.mv p156 q12 tI, .fa p157 6 q3, .st q157 q156] (.sj v117_3 (.sO [.mv p158 q12 tI, .bn p159 .eql q158 (ci 0) .b] (.cond q159 (.s (.oX [.L p160 (.cells 7 q2) .v, .fa p161 7 q3, .ld p162 q161 tI, .cl p163 54 [q160, (ci 14), q162] .v, .ss 7 q2 q163])) (.s .skip))) c117_3))))
def v117_4 : List Pos := [p2, p3, p4, p5, p9]
def c117_4 : XC := (.sO [.fa p145 0 q9, .fa p146 4 q145, .ld p147 q146 tI, .fa p148 6 q3, .st q148 q147] (.seq (.ops true (XL.of [.L p149 (.cells 7 q2) .v, .L p150 (.cells 8 q3) .v, .o ⟨none, (.e (.stores 7 q4 q149)), none, [⟨none, .cells 8 q3, p150⟩]⟩ .v, .ss 8 q5 q150])) (.s .ret)))
def v117_6 : List Pos := [p2, p3, p4, p5, p9, p114, p115]
def c117_6 : XC := (.s (.oX [.bn p144 .add q115 (ci 1) tI, .mv p115 q144 tI]))
def v117_5 : List Pos := [p2, p3, p4, p5, p9, p114, p115]
def c117_5b : XC := (.sO [.bn p116 .lss q115 q114 .b] (.seq (.cond q116 .skip (.exit 2)) (.sj v117_6 (.block 3 (.sO [.mv p117 q115 tI, .mv p11 q117 tI] (.seq (.ops true (XL.of [.fa p119 5 q3, .ld p120 q119 .v, .mv p121 q11 tI, .fa p122 5 q3, .ld p123 q122 .v, .mv p124 q11 tI, .P p125 (.iaddr (.sl 8) q123 q124) .v, .L p126 (.cells 8 q125) .v, .fa p127 0 q9, .fa p128 8 q127, .ld p129 q128 .v, .mv p130 q11 tI, .P p131 (.iaddr (.sl 3) q129 q130) .v, .fa p132 1 q131, .ld p133 q132 tI, .o ⟨(some p134), (.call (.fn 118) [q126, q133]), none, [⟨none, .cell q119, p120⟩]⟩ .v, .mv p118 q134 .v, .P p135 (.ext q118 0) .v, .P p136 (.ext q118 1) .b, .P p137 (.iaddr (.sl 8) q120 q121) .v, .ss 8 q137 q135, .mv p10 q136 .b])) (.sO [.mv p138 q10 .b, .P p139 (.un .not q138) .b] (.cond q139 (.s (.oX [.L p140 (.cells 7 q2) .v, .fa p141 7 q3, .ld p142 q141 tI, .cl p143 54 [q140, (ci 14), q142] .v, .ss 7 q2 q143])) (.s .skip)))))) c117_6)))
def v117_1 : List Pos := [p2, p3, p4, p5, p9, p10]
def c117_1 : XC := (.sj v117_2 (.sO [.fa p83 0 q3, .ld p84 q83 tI, .bn p85 .eql q84 (ci 7) .b] (.cond q85 (.seq (.seq (.oX [.mv p86 q10 .b, .P p87 (.un .not q86) .b, .mv p88 q87 .b, .ge p88 (XL.of [.G p88 false p89 (.faddr 0 q9) .v, .G p88 false p90 (.faddr 0 q89) .v, .o ⟨(some p91), (.l (.cell q90)), (some (p88, false)), []⟩ .b, .G p88 false p92 (.un .not q91) .b, .P p93 (.pick q88 (cb true) q92) .b]) p93 .b]) (.cond q93 (.seq (.ops true (XL.of [.L p94 (.cells 7 q2) .v, .fa p95 7 q3, .ld p96 q95 tI, .L p98 (.cells 8 q3) .v, .o ⟨(some p97), (.call (.fn 54) [q94, (ci 13), q96]), none, [⟨none, .cells 8 q3, p98⟩]⟩ .v, .o ⟨none, (.e (.stores 7 q4 q97)), none, [⟨none, .cells 8 q3, p98⟩]⟩ .v, .ss 8 q5 q98])) .ret) .skip)) (.seq (.seq (.oX [.fa p99 5 q3, .ld p100 q99 .v, .P p101 (.lenl q100) tI, .fa p102 0 q9, .fa p103 8 q102, .ld p104 q103 .v, .P p105 (.lenl q104) tI, .bn p106 .neq q101 q105 .b]) (.cond q106 (.seq (.ops true (XL.of [.L p107 (.cells 7 q2) .v, .fa p108 7 q3, .ld p109 q108 tI, .L p111 (.cells 8 q3) .v, .o ⟨(some p110), (.call (.fn 54) [q107, (ci 14), q109]), none, [⟨none, .cells 8 q3, p111⟩]⟩ .v, .o ⟨none, (.e (.stores 7 q4 q110)), none, [⟨none, .cells 8 q3, p111⟩]⟩ .v, .ss 8 q5 q111])) .ret) .skip)) (.sj v117_4 (.sO [.fa p112 5 q3, .ld p113 q112 .v, .P p114 (.lenl q113) tI, .mv p115 (ci 0) tI] (.block 2 (.loop v117_5 c117_5b))) c117_4))) (.s .skip))) c117_2)
def v117_7 : List Pos := [p2, p3, p4, p5]
def c117_7 : XC := (.seq (.ops true (XL.of [.L p81 (.cells 7 q2) .v, .L p82 (.cells 8 q3) .v, .o ⟨none, (.e (.stores 7 q4 q81)), none, [⟨none, .cells 8 q3, p82⟩]⟩ .v, .ss 8 q5 q82])) (.s .ret))
def v117_0 : List Pos := [p2, p3, p4, p5, p6]
def c117_0 : XC := (.sO [.mv p35 q6 .v, .fa p36 5 q3, .st q36 q35] (.seq (.seq (.oX [.fa p37 5 q2, .ld p38 q37 tI, .bn p39 .neq q38 (ci 0) .b]) (.cond q39 (.seq (.ops true (XL.of [.L p40 (.cells 7 q2) .v, .L p41 (.cells 8 q3) .v, .o ⟨none, (.e (.stores 7 q4 q40)), none, [⟨none, .cells 8 q3, p41⟩]⟩ .v, .ss 8 q5 q41])) .ret) .skip)) (.sO [.L p43 (.cells 7 q2) .v, .fa p44 2 q3, .ld p45 q44 .s, .cl p46 86 [q43, q45] .v, .mv p42 q46 .v, .P p47 (.ext q42 0) .v, .P p48 (.ext q42 1) .b, .al p9 (.new [(.bool false), (.bool false), (.bool false), (.str []), (kI 0), (kI 0), .nils, (.bool false), .nils, (kI 0), .nils, .nils, (.str []), (kI 0), (kI 0), (kI 0), (kI 0), (.str []), (kI 0)]), .ss 19 q9 q47, .mv p10 q48 .b] (.sj v117_1 (.sO [.fa p49 0 q3, .ld p50 q49 tI, .bn p51 .eql q50 (ci 3) .b] (.cond q51 (.seq (.seq (.oX [.mv p52 q10 .b, .P p53 (.un .not q52) .b, .mv p54 q53 .b, .ge p54 (XL.of [.G p54 false p55 (.faddr 0 q9) .v, .G p54 false p56 (.faddr 0 q55) .v, .o ⟨(some p57), (.l (.cell q56)), (some (p54, false)), []⟩ .b, .P p58 (.pick q54 (cb true) q57) .b]) p58 .b]) (.cond q58 (.seq (.ops true (XL.of [.L p59 (.cells 7 q2) .v, .fa p60 7 q3, .ld p61 q60 tI, .L p63 (.cells 8 q3) .v, .o ⟨(some p62), (.call (.fn 54) [q59, (ci 13), q61]), none, [⟨none, .cells 8 q3, p63⟩]⟩ .v, .o ⟨none, (.e (.stores 7 q4 q62)), none, [⟨none, .cells 8 q3, p63⟩]⟩ .v, .ss 8 q5 q63])) .ret) .skip)) (.sO [.fa p64 17 q9, .ld p65 q64 .s, .fa p66 2 q3, .st q66 q65] (.sO [.fa p67 0 q9, .fa p68 4 q67, .ld p69 q68 tI, .fa p70 6 q3, .st q70 q69] (.sj v117_7 (.sO [.fa p71 0 q9, .fa p72 5 q71, .ld p73 q72 tI, .bn p74 .gtr q73 (ci 0) .b] (.cond q74 (.sO [.fa p75 0 q9, .fa p76 4 q75, .ld p77 q76 tI, .cl p78 141 [q77] tI, .fa p79 6 q3, .st q79 q78] (.s (.oX [.fa p80 3 q3, .st q80 (.c (.int .u32 (.ofNat 1)))]))) (.s .skip))) c117_7)))) (.s .skip))) c117_1))))
def v117_8 : List Pos := [p2, p3, p4, p5, p6, p15, p16]
def c117_8b : XC := (.sO [.bn p17 .lss q16 q15 .b] (.seq (.cond q17 .skip (.exit 0)) (.seq (.block 1 (.seq (.oX [.mv p18 q16 tI, .mv p7 q18 tI]) (.seq (.oX [.P p19 (.build [(kI 0), (.str []), (.str []), (.int .u32 (.ofNat 0)), (.int .u64 (.ofNat 0)), .nils, (kI 0), (kI 0)] []) .v, .al p8 (.new [(kI 0), (.str []), (.str []), (.int .u32 (.ofNat 0)), (.int .u64 (.ofNat 0)), .nils, (kI 0), (kI 0)]), .ss 8 q8 q19]) (.seq (.ops true (XL.of [.L p21 (.cells 7 q2) .v, .fa p22 5 q3, .ld p23 q22 .v, .mv p24 q7 tI, .P p25 (.iaddr (.sl 8) q23 q24) .v, .L p26 (.cells 8 q25) .v, .cl p27 117 [q21, q26] .v, .mv p20 q27 .v, .P p28 (.ext q20 0) .v, .P p29 (.ext q20 1) .v, .ss 7 q2 q28, .ss 8 q8 q29])) (.oX [.mv p30 q6 .v, .L p31 (.cells 8 q8) .v, .al p32 (.bsl [(kI 0), (.str []), (.str []), (.int .u32 (.ofNat 0)), (.int .u64 (.ofNat 0)), .nils, (kI 0), (kI 0)] 1 [⟨0, 8, q31⟩]), .o ⟨(some p33), (.e (.app 8 96 q30 q32)), none, []⟩ .v, .mv p6 q33 .v]))))) (.s (.oX [.bn p34 .add q16 (ci 1) tI, .mv p16 q34 tI])))))
def c117_e : XC := (.sO [.al p2 (.box q0), .al p3 (.box q1), .al p4 (.new [.nils, (kI 0), (kI 0), (kI 0), (kI 0), (kI 0), (kI 0)]), .al p5 (.new [(kI 0), (.str []), (.str []), (.int .u32 (.ofNat 0)), (.int .u64 (.ofNat 0)), .nils, (kI 0), (kI 0)])] (.sO [.mv p6 (.c .nils) .v] (.sj v117_0 (.sO [.fa p13 5 q3, .ld p14 q13 .v, .P p15 (.lenl q14) tI, .mv p16 (ci 0) tI] (.block 0 (.loop v117_8 c117_8b))) c117_0)))
def x117 : XFn := ⟨[.v, .v], false, [(.cells 7 p4), (.cells 8 p5)], c117_e⟩
def e117_3 (k t2 t3 t4 t5 h) := kN k [(p2, t2), (p3, t3), (p4, t4), (p5, t5)] h
def S117_3 (D : CallD) (m : Nat) (t2 t3 t4 t5 : AV) (h : HP) : Res2 :=
 cellsC 7 t2 h fun t164 =>
 cellsC 8 t3 h fun t165 =>
 stsC 7 t4 t164 h fun h23 =>
 br (againE (.stores 7 q4 q164) [⟨none, .cells 8 q3, p165⟩] (mkT [(p4, t4), (p165, t165), (p3, t3)]) h23) (
 stsC 8 t5 t165 h23 fun h24 =>
 cellsC 7 t4 h24 fun t4a =>
 cellsC 8 t5 h24 fun t5a =>
 some (.ret (.tup [t4a, t5a]) h24, .no)) none
def e117_2 (k t2 t3 t4 t5 h) := kN k [(p2, t2), (p3, t3), (p4, t4), (p5, t5)] h
def S117_2 (D : CallD) (m : Nat) (t2 t3 t4 t5 : AV) (h : HP) : Res2 :=
 cellsC 8 t3 h fun t152 =>
 cal D 142 [t152] h fun t153 h20 =>
 extC t153 0 fun t154 =>
 extC t153 1 fun vt155 => asI .i64 vt155 fun t155 =>
 stsC 8 t3 t154 h20 fun h21 =>
 faC 6 t3 fun t157 =>
 stoC t157 (vI t155) h21 fun h22 =>
 let t159 := eqQ t155 (Int.ofNat 0)
 br t159 (
 cellsC 7 t2 h22 fun t160 =>
 faC 7 t3 fun t161 =>
 ldI t161 h22 fun t162 =>
 cal D 54 [t160, (kI 14), (vI t162)] h22 fun t163 h25 =>
 stsC 7 t2 t163 h25 fun h26 =>
 S117_3 D m t2 t3 t4 t5 h26) (
 S117_3 D m t2 t3 t4 t5 h22)
def e117_4 (k t2 t3 t4 t5 t9 h) := kN k [(p2, t2), (p3, t3), (p4, t4), (p5, t5), (p9, t9)] h
def S117_4 (D : CallD) (m : Nat) (t2 t3 t4 t5 t9 : AV) (h : HP) : Res2 :=
 faC 0 t9 fun t145 =>
 faC 4 t145 fun t146 =>
 ldI t146 h fun t147 =>
 faC 6 t3 fun t148 =>
 stoC t148 (vI t147) h fun h33 =>
 cellsC 7 t2 h33 fun t149 =>
 cellsC 8 t3 h33 fun t150 =>
 stsC 7 t4 t149 h33 fun h34 =>
 br (againE (.stores 7 q4 q149) [⟨none, .cells 8 q3, p150⟩] (mkT [(p4, t4), (p150, t150), (p3, t3)]) h34) (
 stsC 8 t5 t150 h34 fun h35 =>
 cellsC 7 t4 h35 fun t4a =>
 cellsC 8 t5 h35 fun t5a =>
 some (.ret (.tup [t4a, t5a]) h35, .no)) none
def e117_6 (k t2 t3 t4 t5 t9 t114 t115 h) := kN k [(p2, t2), (p3, t3), (p4, t4), (p5, t5), (p9, t9), (p114, (vI t114)), (p115, (vI t115))] h
def S117_6 (D : CallD) (m : Nat) (g5 : AV → AV → AV → AV → AV → Int → Int → HP → Res2) (t2 t3 t4 t5 t9 : AV) (t114 t115 : Int) (h : HP) : Res2 :=
 let t144 := wrQ .i64 (addQ t115 (Int.ofNat 1))
 g5 t2 t3 t4 t5 t9 t114 t144 h
def e117_5 (k t2 t3 t4 t5 t9 t114 t115 h) := kN k [(p2, t2), (p3, t3), (p4, t4), (p5, t5), (p9, t9), (p114, (vI t114)), (p115, (vI t115))] h
def S117_5b (D : CallD) (m : Nat) (g5 : AV → AV → AV → AV → AV → Int → Int → HP → Res2) (t2 t3 t4 t5 t9 : AV) (t114 t115 : Int) (h : HP) : Res2 :=
 let t116 := ltQ t115 t114
 br t116 (
 faC 5 t3 fun t119 =>
 cellC t119 h fun t120 =>
 faC 5 t3 fun t122 =>
 cellC t122 h fun t123 =>
 iasC 8 t123 (vI t115) fun t125 =>
 cellsC 8 t125 h fun t126 =>
 faC 0 t9 fun t127 =>
 faC 8 t127 fun t128 =>
 cellC t128 h fun t129 =>
 iasC 3 t129 (vI t115) fun t131 =>
 faC 1 t131 fun t132 =>
 ldI t132 h fun t133 =>
 cal D 118 [t126, (vI t133)] h fun t134 h36 =>
 br (again [⟨none, .cell q119, p120⟩] (mkT [(p120, t120), (p119, t119)]) h36) (
 extC t134 0 fun t135 =>
 extC t134 1 fun vt136 => asB vt136 fun t136 =>
 iasC 8 t120 (vI t115) fun t137 =>
 stsC 8 t137 t135 h36 fun h37 =>
 let t139 := !t136
 br t139 (
 cellsC 7 t2 h37 fun t140 =>
 faC 7 t3 fun t141 =>
 ldI t141 h37 fun t142 =>
 cal D 54 [t140, (kI 14), (vI t142)] h37 fun t143 h38 =>
 stsC 7 t2 t143 h38 fun h39 =>
 S117_6 D m g5 t2 t3 t4 t5 t9 t114 t115 h39) (
 S117_6 D m g5 t2 t3 t4 t5 t9 t114 t115 h37)) none) (
 S117_4 D m t2 t3 t4 t5 t9 h)
def S117_5 (D : CallD) (m : Nat) : AV → AV → AV → AV → AV → Int → Int → HP → Res2 := nrec (fun _ _ _ _ _ _ _ _ => none) (fun _ g => S117_5b D m g) m
def e117_1 (k t2 t3 t4 t5 t9 t10 h) := kN k [(p2, t2), (p3, t3), (p4, t4), (p5, t5), (p9, t9), (p10, (vB t10))] h
def S117_1 (D : CallD) (m : Nat) (t2 t3 t4 t5 t9 : AV) (t10 : Bool) (h : HP) : Res2 :=
 faC 0 t3 fun t83 =>
 ldI t83 h fun t84 =>
 let t85 := eqQ t84 (Int.ofNat 7)
 br t85 (
 let t87 := !t10
 obB (brV t87 (
 some (vB true)) (
 faCV 0 t9 fun t89 =>
 faCV 0 t89 fun t90 =>
 ldBV t90 h fun t91 =>
 let t92 := !t91
 some (vB t92))) fun t93 =>
 br t93 (
 cellsC 7 t2 h fun t94 =>
 faC 7 t3 fun t95 =>
 ldI t95 h fun t96 =>
 cellsC 8 t3 h fun t98 =>
 cal D 54 [t94, (kI 13), (vI t96)] h fun t97 h27 =>
 br (again [⟨none, .cells 8 q3, p98⟩] (mkT [(p98, t98), (p3, t3)]) h27) (
 stsC 7 t4 t97 h27 fun h28 =>
 br (againE (.stores 7 q4 q97) [⟨none, .cells 8 q3, p98⟩] (mkT [(p4, t4), (p98, t98), (p3, t3)]) h28) (
 stsC 8 t5 t98 h28 fun h29 =>
 cellsC 7 t4 h29 fun t4a =>
 cellsC 8 t5 h29 fun t5a =>
 some (.ret (.tup [t4a, t5a]) h29, .no)) none) none) (
 faC 5 t3 fun t99 =>
 cellC t99 h fun t100 =>
 lenC t100 fun vt101 => asI .i64 vt101 fun t101 =>
 faC 0 t9 fun t102 =>
 faC 8 t102 fun t103 =>
 cellC t103 h fun t104 =>
 lenC t104 fun vt105 => asI .i64 vt105 fun t105 =>
 let t106 := notQ (eqQ t101 t105)
 br t106 (
 cellsC 7 t2 h fun t107 =>
 faC 7 t3 fun t108 =>
 ldI t108 h fun t109 =>
 cellsC 8 t3 h fun t111 =>
 cal D 54 [t107, (kI 14), (vI t109)] h fun t110 h30 =>
 br (again [⟨none, .cells 8 q3, p111⟩] (mkT [(p111, t111), (p3, t3)]) h30) (
 stsC 7 t4 t110 h30 fun h31 =>
 br (againE (.stores 7 q4 q110) [⟨none, .cells 8 q3, p111⟩] (mkT [(p4, t4), (p111, t111), (p3, t3)]) h31) (
 stsC 8 t5 t111 h31 fun h32 =>
 cellsC 7 t4 h32 fun t4a =>
 cellsC 8 t5 h32 fun t5a =>
 some (.ret (.tup [t4a, t5a]) h32, .no)) none) none) (
 faC 5 t3 fun t112 =>
 cellC t112 h fun t113 =>
 lenC t113 fun vt114 => asI .i64 vt114 fun t114 =>
 S117_5 D m t2 t3 t4 t5 t9 t114 (Int.ofNat 0) h))) (
 S117_2 D m t2 t3 t4 t5 h)
def e117_7 (k t2 t3 t4 t5 h) := kN k [(p2, t2), (p3, t3), (p4, t4), (p5, t5)] h
def S117_7 (D : CallD) (m : Nat) (t2 t3 t4 t5 : AV) (h : HP) : Res2 :=
 cellsC 7 t2 h fun t81 =>
 cellsC 8 t3 h fun t82 =>
 stsC 7 t4 t81 h fun h45 =>
 br (againE (.stores 7 q4 q81) [⟨none, .cells 8 q3, p82⟩] (mkT [(p4, t4), (p82, t82), (p3, t3)]) h45) (
 stsC 8 t5 t82 h45 fun h46 =>
 cellsC 7 t4 h46 fun t4a =>
 cellsC 8 t5 h46 fun t5a =>
 some (.ret (.tup [t4a, t5a]) h46, .no)) none
def e117_0 (k t2 t3 t4 t5 t6 h) := kN k [(p2, t2), (p3, t3), (p4, t4), (p5, t5), (p6, t6)] h
def S117_0 (D : CallD) (m : Nat) (t2 t3 t4 t5 t6 : AV) (h : HP) : Res2 :=
 faC 5 t3 fun t36 =>
 stoC t36 t6 h fun h14 =>
 faC 5 t2 fun t37 =>
 ldI t37 h14 fun t38 =>
 let t39 := notQ (eqQ t38 (Int.ofNat 0))
 br t39 (
 cellsC 7 t2 h14 fun t40 =>
 cellsC 8 t3 h14 fun t41 =>
 stsC 7 t4 t40 h14 fun h15 =>
 br (againE (.stores 7 q4 q40) [⟨none, .cells 8 q3, p41⟩] (mkT [(p4, t4), (p41, t41), (p3, t3)]) h15) (
 stsC 8 t5 t41 h15 fun h16 =>
 cellsC 7 t4 h16 fun t4a =>
 cellsC 8 t5 h16 fun t5a =>
 some (.ret (.tup [t4a, t5a]) h16, .no)) none) (
 cellsC 7 t2 h14 fun t43 =>
 faC 2 t3 fun t44 =>
 ldS t44 h14 fun t45 =>
 cal D 86 [t43, (vS t45)] h14 fun t46 h17 =>
 extC t46 0 fun t47 =>
 extC t46 1 fun vt48 => asB vt48 fun t48 =>
 let t9 := P0 h17
 let h18 := nQ h17 [(.bool false), (.bool false), (.bool false), (.str []), (kI 0), (kI 0), .nils, (.bool false), .nils, (kI 0), .nils, .nils, (.str []), (kI 0), (kI 0), (kI 0), (kI 0), (.str []), (kI 0)]
 stsC 19 t9 t47 h18 fun h19 =>
 faC 0 t3 fun t49 =>
 ldI t49 h19 fun t50 =>
 let t51 := eqQ t50 (Int.ofNat 3)
 br t51 (
 let t53 := !t48
 obB (brV t53 (
 some (vB true)) (
 let t55 := (AV.ptr (HP.nxQ h17) (Nat.add 0 0))
 let t56 := (AV.ptr (HP.nxQ h17) (Nat.add (Nat.add 0 0) 0))
 ldBV t56 h19 fun t57 =>
 some (vB t57))) fun t58 =>
 br t58 (
 cellsC 7 t2 h19 fun t59 =>
 faC 7 t3 fun t60 =>
 ldI t60 h19 fun t61 =>
 cellsC 8 t3 h19 fun t63 =>
 cal D 54 [t59, (kI 13), (vI t61)] h19 fun t62 h40 =>
 br (again [⟨none, .cells 8 q3, p63⟩] (mkT [(p63, t63), (p3, t3)]) h40) (
 stsC 7 t4 t62 h40 fun h41 =>
 br (againE (.stores 7 q4 q62) [⟨none, .cells 8 q3, p63⟩] (mkT [(p4, t4), (p63, t63), (p3, t3)]) h41) (
 stsC 8 t5 t63 h41 fun h42 =>
 cellsC 7 t4 h42 fun t4a =>
 cellsC 8 t5 h42 fun t5a =>
 some (.ret (.tup [t4a, t5a]) h42, .no)) none) none) (
 let t64 := (AV.ptr (HP.nxQ h17) (Nat.add 0 17))
 ldS t64 h19 fun t65 =>
 faC 2 t3 fun t66 =>
 stoC t66 (vS t65) h19 fun h43 =>
 let t67 := (AV.ptr (HP.nxQ h17) (Nat.add 0 0))
 let t68 := (AV.ptr (HP.nxQ h17) (Nat.add (Nat.add 0 0) 4))
 ldI t68 h43 fun t69 =>
 faC 6 t3 fun t70 =>
 stoC t70 (vI t69) h43 fun h44 =>
 let t71 := (AV.ptr (HP.nxQ h17) (Nat.add 0 0))
 let t72 := (AV.ptr (HP.nxQ h17) (Nat.add (Nat.add 0 0) 5))
 ldI t72 h44 fun t73 =>
 let t74 := ltQ (Int.ofNat 0) t73
 br t74 (
 let t75 := (AV.ptr (HP.nxQ h17) (Nat.add 0 0))
 let t76 := (AV.ptr (HP.nxQ h17) (Nat.add (Nat.add 0 0) 4))
 ldI t76 h44 fun t77 =>
 cal D 141 [(vI t77)] h44 fun t78 h47 =>
 asI .i64 t78 fun t78a =>
 faC 6 t3 fun t79 =>
 stoC t79 (vI t78a) h47 fun h48 =>
 faC 3 t3 fun t80 =>
 stoC t80 (vW (Int.ofNat 1)) h48 fun h49 =>
 S117_7 D m t2 t3 t4 t5 h49) (
 S117_7 D m t2 t3 t4 t5 h44))) (
 S117_1 D m t2 t3 t4 t5 t9 t48 h19))
def e117_8 (k t2 t3 t4 t5 t6 t15 t16 h) := kN k [(p2, t2), (p3, t3), (p4, t4), (p5, t5), (p6, t6), (p15, (vI t15)), (p16, (vI t16))] h
def S117_8b (D : CallD) (m : Nat) (g8 : AV → AV → AV → AV → AV → Int → Int → HP → Res2) (t2 t3 t4 t5 t6 : AV) (t15 t16 : Int) (h : HP) : Res2 :=
 let t17 := ltQ t16 t15
 br t17 (
 let t19 := (AV.agg [(kI 0), (vS ([] : LN)), (vS ([] : LN)), (vW (Int.ofNat 0)), (AV.int .u64 (Int.ofNat 0)), (.nils : AV), (kI 0), (kI 0)])
 let t8 := P0 h
 let h50 := nQ h [(kI 0), (.str []), (.str []), (.int .u32 (.ofNat 0)), (.int .u64 (.ofNat 0)), .nils, (kI 0), (kI 0)]
 stsC 8 t8 t19 h50 fun h51 =>
 cellsC 7 t2 h51 fun t21 =>
 faC 5 t3 fun t22 =>
 cellC t22 h51 fun t23 =>
 iasC 8 t23 (vI t16) fun t25 =>
 cellsC 8 t25 h51 fun t26 =>
 cal D 117 [t21, t26] h51 fun t27 h52 =>
 extC t27 0 fun t28 =>
 extC t27 1 fun t29 =>
 stsC 7 t2 t28 h52 fun h53 =>
 stsC 8 t8 t29 h53 fun h54 =>
 cellsC 8 t8 h54 fun t31 =>
 obQ (evA (.bsl [(kI 0), (.str []), (.str []), (.int .u32 (.ofNat 0)), (.int .u64 (.ofNat 0)), .nils, (kI 0), (kI 0)] 1 [⟨0, 8, (.c t31)⟩]) .leaf) fun r55 =>
 let t32 := vkV r55.2 (HP.nxQ h54)
 let h56 := HP.newQ h54 r55.1
 eff (.app 8 96 (.c t6) (.c t32)) h56 fun t33 h57 =>
 let t34 := wrQ .i64 (addQ t16 (Int.ofNat 1))
 g8 t2 t3 t4 t5 t33 t15 t34 h57) (
 S117_0 D m t2 t3 t4 t5 t6 h)
def S117_8 (D : CallD) (m : Nat) : AV → AV → AV → AV → AV → Int → Int → HP → Res2 := nrec (fun _ _ _ _ _ _ _ _ => none) (fun _ g => S117_8b D m g) m
def e117_9 (k t0 t1 h) := kN k [(p0, t0), (p1, t1)] h
def S117_9 (D : CallD) (m : Nat) (t0 t1 : AV) (h : HP) : Res2 :=
 let t2 := P0 h
 let h10 := HP.newQ h (.cells true (AV.cells t0))
 let t3 := P0 h10
 let h11 := HP.newQ h10 (.cells true (AV.cells t1))
 let t4 := P0 h11
 let h12 := nQ h11 [.nils, (kI 0), (kI 0), (kI 0), (kI 0), (kI 0), (kI 0)]
 let t5 := P0 h12
 let h13 := nQ h12 [(kI 0), (.str []), (.str []), (.int .u32 (.ofNat 0)), (.int .u64 (.ofNat 0)), .nils, (kI 0), (kI 0)]
 let t13 := (AV.ptr (HP.nxQ h10) (Nat.add 0 5))
 cellC t13 h13 fun t14 =>
 lenC t14 fun vt15 => asI .i64 vt15 fun t15 =>
 S117_8 D m t2 t3 t4 t5 (.nils : AV) t15 (Int.ofNat 0) h13
def S117 : SFn := fun D m args h u => nou u <| popV args fun t0 args => popV args fun t1 args => endA args (S117_9 D m t0 t1 h)
theorem T117_3 (hE : FX x117 D m E) : S117_3 D m = e117_3 (E c117_3 []) := by unfold S117_3; rw [hE c117_3]; kernel_rfl
theorem T117_2 (hE : FX x117 D m E) : S117_2 D m = e117_2 (E c117_2 []) := by unfold S117_2; rw [T117_3 hE, hE c117_2]; kernel_rfl
theorem T117_4 (hE : FX x117 D m E) : S117_4 D m = e117_4 (E c117_4 [.sj v117_2 c117_2]) := by unfold S117_4; rw [hE c117_4]; kernel_rfl
theorem T117_6 (hE : FX x117 D m E) (G5) : S117_6 D m (e117_5 G5) = e117_6 (E c117_6 [.lp v117_5 G5, .blk 2, .sj v117_4 c117_4, .sj v117_2 c117_2]) := by unfold S117_6; rw [hE c117_6]; kernel_rfl
theorem T117_5b (hE : FX x117 D m E) (G5) : S117_5b D m (e117_5 G5) = e117_5 (E c117_5b [.lp v117_5 G5, .blk 2, .sj v117_4 c117_4, .sj v117_2 c117_2]) := by unfold S117_5b; rw [T117_6 hE G5, T117_4 hE, hE c117_5b]; kernel_rfl
theorem T117_5 (hE : FX x117 D m E) : S117_5 D m = e117_5 (nrec (fun _ => none) (fun _ G5 st => E c117_5b [.lp v117_5 G5, .blk 2, .sj v117_4 c117_4, .sj v117_2 c117_2] st) m) :=
  nrec_emb e117_5 (fun _ _ _ _ _ _ _ _ => none) (fun g => S117_5b D m g) (fun G5 st => E c117_5b [.lp v117_5 G5, .blk 2, .sj v117_4 c117_4, .sj v117_2 c117_2] st) rfl (fun g => T117_5b hE g) m
theorem T117_1 (hE : FX x117 D m E) : S117_1 D m = e117_1 (E c117_1 []) := by unfold S117_1; rw [T117_5 hE, T117_2 hE, hE c117_1]; kernel_rfl
theorem T117_7 (hE : FX x117 D m E) : S117_7 D m = e117_7 (E c117_7 [.sj v117_1 c117_1]) := by unfold S117_7; rw [hE c117_7]; kernel_rfl
theorem T117_0 (hE : FX x117 D m E) : S117_0 D m = e117_0 (E c117_0 []) := by unfold S117_0; rw [T117_7 hE, T117_1 hE, hE c117_0]; kernel_rfl
theorem T117_8b (hE : FX x117 D m E) (G8) : S117_8b D m (e117_8 G8) = e117_8 (E c117_8b [.lp v117_8 G8, .blk 0, .sj v117_0 c117_0]) := by unfold S117_8b; rw [T117_0 hE, hE c117_8b]; kernel_rfl
theorem T117_8 (hE : FX x117 D m E) : S117_8 D m = e117_8 (nrec (fun _ => none) (fun _ G8 st => E c117_8b [.lp v117_8 G8, .blk 0, .sj v117_0 c117_0] st) m) :=
  nrec_emb e117_8 (fun _ _ _ _ _ _ _ _ => none) (fun g => S117_8b D m g) (fun G8 st => E c117_8b [.lp v117_8 G8, .blk 0, .sj v117_0 c117_0] st) rfl (fun g => T117_8b hE g) m
theorem T117_9 (hE : FX x117 D m E) : S117_9 D m = e117_9 (E c117_e []) := by unfold S117_9; rw [T117_8 hE, hE c117_e]; kernel_rfl
theorem X117 : XTie S117 x117 := X_of fun D m E hE args h u => by unfold S117; rw [T117_9 hE]; kernel_rfl
/- 118 -/
def c118_2 : XC := (.s .ret)
def l118_1 : XL := (XL.of [.o ⟨none, (.e (.stores 8 q4 q21)), none, [⟨(some (p24, true)), .cell q25, p26⟩]⟩ .v, .mv p5 q29 .b])
def v118_0 : List Pos := [p1, p2, p4]
def c118_0 : XC := (.opq true (XL.pre [.L p21 (.cells 8 q2) .v, .mv p22 q1 tI, .bn p23 .neq q22 (ci 0) .b, .mv p24 q23 .b, .sp p24, .G p24 true p25 (.faddr 6 q2) .v, .o ⟨(some p26), (.l (.cell q25)), (some (p24, true)), []⟩ tI, .G p24 true p27 (.mov q1) tI, .G p24 true p28 (.bin .eql q26 q27) .b, .P p29 (.pick q24 q28 (cb false)) .b, .jn p24 [p4, p21, p24, p25, p26, p29]] l118_1) c118_2)
def c118_e : XC := (.sO [.al p2 (.box q0), .al p4 (.new [(kI 0), (.str []), (.str []), (.int .u32 (.ofNat 0)), (.int .u64 (.ofNat 0)), .nils, (kI 0), (kI 0)]), .mv p5 (cb false) .b] (.sj v118_0 (.sO [.mv p6 q1 tI, .cl p7 143 [q6] tI, .bn p8 .neq q7 (ci 0) .b, .mv p9 q8 .b, .ge p9 (XL.of [.G p9 true p10 (.faddr 0 q2) .v, .o ⟨(some p11), (.l (.cell q10)), (some (p9, true)), []⟩ tI, .G p9 true p12 (.bin .eql q11 (ci 1)) .b, .P p13 (.pick q9 q12 (cb false)) .b]) p13 .b, .mv p14 q13 .b, .ge p14 (XL.of [.G p14 true p15 (.faddr 3 q2) .v, .o ⟨(some p16), (.l (.cell q15)), (some (p14, true)), []⟩ tW, .G p14 true p17 (.bin .eql q16 (.c (.int .u32 (.ofNat 0)))) .b, .P p18 (.pick q14 q17 (cb false)) .b]) p18 .b] (.cond q18 (.s (.oX [.mv p19 q1 tI, .fa p20 6 q2, .st q20 q19])) (.s .skip))) c118_0))
def x118 : XFn := ⟨[.v, tI], false, [(.cells 8 p4), (.tmp p5)], c118_e⟩
def e118_1 (k t4 t21 t24 t25 t26 t29 h) := kN k [(p4, t4), (p21, t21), (p24, (vB t24)), (p25, t25), (p26, t26), (p29, (vB t29))] h
def S118_1 (D : CallD) (m : Nat) (t4 t21 : AV) (t24 : Bool) (t25 t26 : AV) (t29 : Bool) (h : HP) : Res2 :=
 stsC 8 t4 t21 h fun h6 =>
 br (againE (.stores 8 q4 q21) [⟨(some (p24, true)), .cell q25, p26⟩] (mkT [(p4, t4), (p26, t26), (p24, (vB t24)), (p25, t25)]) h6) (
 cellsC 8 t4 h6 fun t4a =>
 some (.ret (.tup [t4a, (vB t29)]) h6, .no)) none
def e118_0 (k t1 t2 t4 h) := kN k [(p1, (vI t1)), (p2, t2), (p4, t4)] h
def S118_0 (D : CallD) (m : Nat) (t1 : Int) (t2 t4 : AV) (h : HP) : Res2 :=
 cellsC 8 t2 h fun t21 =>
 let t23 := notQ (eqQ t1 (Int.ofNat 0))
 br t23 (
 faC 6 t2 fun t25 =>
 ldI t25 h fun t26 =>
 let t28 := eqQ t26 t1
 S118_1 D m t4 t21 true t25 (vI t26) t28 h) (
 S118_1 D m t4 t21 false (.tup [] : AV) (.tup [] : AV) false h)
def e118_3 (k t0 t1 h) := kN k [(p0, t0), (p1, (vI t1))] h
def S118_3 (D : CallD) (m : Nat) (t0 : AV) (t1 : Int) (h : HP) : Res2 :=
 let t2 := P0 h
 let h4 := HP.newQ h (.cells true (AV.cells t0))
 let t4 := P0 h4
 let h5 := nQ h4 [(kI 0), (.str []), (.str []), (.int .u32 (.ofNat 0)), (.int .u64 (.ofNat 0)), .nils, (kI 0), (kI 0)]
 cal D 143 [(vI t1)] h5 fun t7 h7 =>
 asI .i64 t7 fun t7a =>
 let t8 := notQ (eqQ t7a (Int.ofNat 0))
 obB (brV t8 (
 let t10 := (AV.ptr (HP.nxQ h) (Nat.add 0 0))
 ldIV t10 h7 fun t11 =>
 let t12 := eqQ t11 (Int.ofNat 1)
 some (vB t12)) (
 some (vB false))) fun t13 =>
 obB (brV t13 (
 let t15 := (AV.ptr (HP.nxQ h) (Nat.add 0 3))
 ldWV t15 h7 fun t16 =>
 binCV .eql (vW t16) (vW (Int.ofNat 0)) fun vt17 => asBV vt17 fun t17 =>
 some (vB t17)) (
 some (vB false))) fun t18 =>
 br t18 (
 let t20 := (AV.ptr (HP.nxQ h) (Nat.add 0 6))
 stoC t20 (vI t1) h7 fun h8 =>
 S118_0 D m t1 t2 t4 h8) (
 S118_0 D m t1 t2 t4 h7)
def S118 : SFn := fun D m args h u => nou u <| popV args fun t0 args => popI .i64 args fun t1 args => endA args (S118_3 D m t0 t1 h)
theorem T118_1 (hE : FX x118 D m E) : S118_1 D m = e118_1 (E (.opq true l118_1 c118_2) []) := by unfold S118_1; rw [hE (.opq true l118_1 c118_2)]; kernel_rfl
theorem T118_0 (hE : FX x118 D m E) : S118_0 D m = e118_0 (E c118_0 []) := by unfold S118_0; rw [T118_1 hE, hE c118_0]; kernel_rfl
theorem T118_3 (hE : FX x118 D m E) : S118_3 D m = e118_3 (E c118_e []) := by unfold S118_3; rw [T118_0 hE, hE c118_e]; kernel_rfl
theorem X118 : XTie S118 x118 := X_of fun D m E hE args h u => by unfold S118; rw [T118_3 hE]; kernel_rfl
/- 119 -/
def v119_0 : List Pos := [p2, p3, p4, p5, p6]
def c119_0 : XC := (.sO [.mv p241 q6 .v, .fa p242 1 q3, .st q242 q241] (.seq (.ops true (XL.of [.L p243 (.cells 7 q2) .v, .L p244 (.cells 7 q3) .v, .o ⟨none, (.e (.stores 7 q4 q243)), none, [⟨none, .cells 7 q3, p244⟩]⟩ .v, .ss 7 q5 q244])) (.s .ret)))
def v119_2 : List Pos := [p2, p3, p4, p5, p6, p7]
def c119_2 : XC := (.sO [.mv p86 q7 .v, .fa p87 2 q3, .st q87 q86] (.s (.oX [.fa p88 4 q2, .ld p89 q88 tI, .fa p90 0 q3, .ld p91 q90 tI, .bn p92 .sub q89 q91 tI, .bn p93 .add q92 (ci 2) tI, .fa p94 4 q2, .st q94 q93])))
def v119_3 : List Pos := [p2, p3, p4, p5, p6, p7, p63, p64]
def c119_3b : XC := (.sO [.bn p65 .lss q64 q63 .b] (.seq (.cond q65 .skip (.exit 1)) (.seq (.block 2 (.seq (.oX [.mv p66 q64 tI, .mv p8 q66 tI]) (.seq (.oX [.P p67 (.build [(kI 0), .nils, .nils, (.str []), (kI 0), (kI 0), (kI 0)] []) .v, .al p9 (.new [(kI 0), .nils, .nils, (.str []), (kI 0), (kI 0), (kI 0)]), .ss 7 q9 q67]) (.seq (.ops true (XL.of [.L p69 (.cells 7 q2) .v, .fa p71 2 q3, .ld p72 q71 .v, .mv p73 q8 tI, .P p74 (.iaddr (.sl 7) q72 q73) .v, .L p75 (.cells 7 q74) .v, .o ⟨(some p70), (.call (.fn 85) [q69]), none, [⟨none, .cell q71, p72⟩, ⟨none, .cells 7 q74, p75⟩]⟩ .v, .cl p76 119 [q70, q75] .v, .mv p68 q76 .v, .P p77 (.ext q68 0) .v, .P p78 (.ext q68 1) .v, .ss 7 q2 q77, .ss 7 q9 q78])) (.seq (.oX [.L p79 (.cells 7 q2) .v, .cl p80 90 [q79] .v, .ss 7 q2 q80]) (.oX [.mv p81 q7 .v, .L p82 (.cells 7 q9) .v, .al p83 (.bsl [(kI 0), .nils, .nils, (.str []), (kI 0), (kI 0), (kI 0)] 1 [⟨0, 7, q82⟩]), .o ⟨(some p84), (.e (.app 7 96 q81 q83)), none, []⟩ .v, .mv p7 q84 .v])))))) (.s (.oX [.bn p85 .add q64 (ci 1) tI, .mv p64 q85 tI])))))
def v119_4 : List Pos := [p2, p3, p4, p5, p6]
def c119_4 : XC := (.sO [.mv p109 q6 .v, .P p110 (.lenl q109) tI, .bn p111 .gtr q110 (ci 0) .b] (.cond q111 (.s (.ops true (XL.of [.mv p113 q6 .v, .L p114 (.cells 7 q2) .v, .mv p115 q6 .v, .P p116 (.iaddr (.sl 8) q115 (ci 0)) .v, .L p117 (.cells 8 q116) .v, .fa p118 2 q2, .ld p119 q118 tI, .fa p120 6 q3, .ld p121 q120 tI, .cl p122 88 [q114, q117, q119, q121] .v, .mv p112 q122 .v, .P p123 (.ext q112 0) .v, .P p124 (.ext q112 1) .v, .ss 7 q2 q123, .P p125 (.iaddr (.sl 8) q113 (ci 0)) .v, .ss 8 q125 q124]))) (.s .skip)))
def v119_8 : List Pos := [p2, p3, p4, p5, p6]
def c119_8 : XC := (.s (.oX [.L p229 (.cells 7 q2) .v, .fa p230 3 q3, .ld p231 q230 .s, .fa p232 4 q3, .ld p233 q232 tI, .fa p234 5 q3, .ld p235 q234 tI, .P p236 (.build [(.bool false), (.bool false), (.bool false), (.str []), (kI 0), (kI 0), .nils, (.bool false), .nils, (kI 0), .nils, .nils, (.str []), (kI 0), (kI 0), (kI 0), (kI 0)] [⟨3, 1, q231⟩, ⟨4, 1, q233⟩, ⟨5, 1, q235⟩]) .v, .cl p237 87 [q229, q236] .v, .mv p228 q237 .v, .P p238 (.ext q228 0) .v, .P p239 (.ext q228 1) .s, .ss 7 q2 q238, .fa p240 3 q3, .st q240 q239]))
def c119_11 : XC := (.cond q223 (.s (.oX [.L p224 (.cells 7 q2) .v, .fa p225 6 q3, .ld p226 q225 tI, .cl p227 54 [q224, (ci 14), q226] .v, .ss 7 q2 q227])) (.s .skip))
def l119_10 : XL := (XL.of [])
def l119_9 : XL := (XL.pre [.P p223 (.pick q208 (cb true) q222) .b, .jn p208 [p2, p3, p4, p5, p6, p223]] l119_10)
def v119_7 : List Pos := [p2, p3, p4, p5, p6, p12]
def c119_7 : XC := (.sj v119_8 (.opq false (XL.pre [.mv p201 q12 .b, .P p202 (.un .not q201) .b, .mv p203 q202 .b, .ge p203 (XL.of [.G p203 false p204 (.faddr 4 q3) .v, .o ⟨(some p205), (.l (.cell q204)), (some (p203, false)), []⟩ tI, .G p203 false p206 (.bin .eql q205 (ci 0)) .b, .P p207 (.pick q203 (cb true) q206) .b]) p207 .b, .mv p208 q207 .b, .sp p208, .G p208 false p209 (.faddr 5 q3) .v, .o ⟨(some p210), (.l (.cell q209)), (some (p208, false)), []⟩ tI, .G p208 false p211 (.bin .gtr q210 (ci 0)) .b, .G p208 false p212 (.mov q211) .b, .sp p212, .G p212 true p213 (.faddr 4 q3) .v, .o ⟨(some p214), (.l (.cell q213)), (some (p212, true)), []⟩ tI, .o ⟨(some p215), (.call (.fn 84) [q214]), (some (p212, true)), []⟩ .b, .G p212 true p216 (.un .not q215) .b, .G p212 true p217 (.mov q216) .b, .ge p217 (XL.of [.G p217 false p218 (.mov q6) .v, .G p217 false p219 (.lenl q218) tI, .G p217 false p220 (.bin .gtr q219 (ci 0)) .b, .G p212 true p221 (.pick q217 (cb true) q220) .b]) p221 .b, .G p208 false p222 (.pick q212 q221 (cb false)) .b, .jn p212 [p2, p3, p4, p5, p6, p208, p222]] l119_9) c119_11) c119_8)
def v119_6 : List Pos := [p2, p3, p4, p5, p6]
def c119_6 : XC := (.sO [.mv p12 (cb true) .b] (.sj v119_7 (.sO [.mv p172 q6 .v, .P p173 (.lenl q172) tI, .bn p174 .gtr q173 (ci 0) .b, .mv p175 q174 .b, .ge p175 (XL.of [.G p175 true p176 (.faddr 5 q2) .v, .o ⟨(some p177), (.l (.cell q176)), (some (p175, true)), []⟩ tI, .G p175 true p178 (.bin .eql q177 (ci 0)) .b, .P p179 (.pick q175 q178 (cb false)) .b]) p179 .b] (.cond q179 (.seq (.ops true (XL.of [.mv p181 q6 .v, .L p182 (.cells 7 q2) .v, .mv p183 q6 .v, .P p184 (.iaddr (.sl 8) q183 (ci 0)) .v, .L p185 (.cells 8 q184) .v, .cl p186 117 [q182, q185] .v, .mv p180 q186 .v, .P p187 (.ext q180 0) .v, .P p188 (.ext q180 1) .v, .ss 7 q2 q187, .P p189 (.iaddr (.sl 8) q181 (ci 0)) .v, .ss 8 q189 q188])) (.s (.ops true (XL.of [.mv p191 q6 .v, .mv p192 q6 .v, .P p193 (.iaddr (.sl 8) q192 (ci 0)) .v, .L p194 (.cells 8 q193) .v, .fa p195 4 q3, .ld p196 q195 tI, .cl p197 118 [q194, q196] .v, .mv p190 q197 .v, .P p198 (.ext q190 0) .v, .P p199 (.ext q190 1) .b, .P p200 (.iaddr (.sl 8) q191 (ci 0)) .v, .ss 8 q200 q198, .mv p12 q199 .b])))) (.s .skip))) c119_7))
def v119_5 : List Pos := [p2, p3, p4, p5, p6, p23, p126]
def c119_5 : XC := (.cond q126 (.sO [.fa p129 4 q2, .ld p130 q129 tI, .bn p131 .eql q130 (ci 0) .b] (.cond q131 (.s (.oX [.L p132 (.cells 7 q2) .v, .fa p133 6 q3, .ld p134 q133 tI, .cl p135 54 [q132, (ci 14), q134] .v, .ss 7 q2 q135])) (.s .skip))) (.sO [.bn p137 .eql q23 (ci 7) .b, .mv p136 q137 .b] (.cond q136 (.sO [.mv p138 q6 .v, .P p139 (.lenl q138) tI, .bn p140 .gtr q139 (ci 0) .b] (.cond q140 (.s (.ops true (XL.of [.mv p142 q6 .v, .L p143 (.cells 7 q2) .v, .mv p144 q6 .v, .P p145 (.iaddr (.sl 8) q144 (ci 0)) .v, .L p146 (.cells 8 q145) .v, .cl p147 117 [q143, q146] .v, .mv p141 q147 .v, .P p148 (.ext q141 0) .v, .P p149 (.ext q141 1) .v, .ss 7 q2 q148, .P p150 (.iaddr (.sl 8) q142 (ci 0)) .v, .ss 8 q150 q149]))) (.s .skip))) (.sO [.bn p152 .eql q23 (ci 8) .b, .mv p151 q152 .b] (.cond q151 (.sO [.L p154 (.cells 7 q2) .v, .fa p155 3 q3, .ld p156 q155 .s, .cl p157 86 [q154, q156] .v, .mv p153 q157 .v, .P p158 (.ext q153 0) .v, .P p159 (.ext q153 1) .b, .al p10 (.new [(.bool false), (.bool false), (.bool false), (.str []), (kI 0), (kI 0), .nils, (.bool false), .nils, (kI 0), .nils, .nils, (.str []), (kI 0), (kI 0), (kI 0), (kI 0), (.str []), (kI 0)]), .ss 19 q10 q158, .mv p11 q159 .b] (.sj v119_6 (.sO [.mv p160 q11 .b, .mv p161 q160 .b, .ge p161 (XL.of [.G p161 true p162 (.faddr 18 q10) .v, .o ⟨(some p163), (.l (.cell q162)), (some (p161, true)), []⟩ tI, .G p161 true p164 (.faddr 1 q2) .v, .o ⟨(some p165), (.l (.cell q164)), (some (p161, true)), []⟩ tI, .G p161 true p166 (.bin .eql q163 q165) .b, .P p167 (.pick q161 q166 (cb false)) .b]) p167 .b] (.cond q167 (.s (.oX [.L p168 (.cells 7 q2) .v, .fa p169 6 q3, .ld p170 q169 tI, .cl p171 54 [q168, (ci 13), q170] .v, .ss 7 q2 q171])) (.s .skip))) c119_6)) (.s .skip))))))
def v119_1 : List Pos := [p2, p3, p4, p5, p6, p23, p37]
def c119_1 : XC := (.cond q37 (.seq (.ops true (XL.of [.mv p41 q6 .v, .L p42 (.cells 7 q2) .v, .mv p43 q6 .v, .P p44 (.iaddr (.sl 8) q43 (ci 0)) .v, .L p45 (.cells 8 q44) .v, .mv p46 q6 .v, .P p47 (.iaddr (.sl 8) q46 (ci 0)) .v, .fa p48 7 q47, .ld p49 q48 tI, .cl p50 88 [q42, q45, (ci 1), q49] .v, .mv p40 q50 .v, .P p51 (.ext q40 0) .v, .P p52 (.ext q40 1) .v, .ss 7 q2 q51, .P p53 (.iaddr (.sl 8) q41 (ci 0)) .v, .ss 8 q53 q52])) (.sO [.fa p54 4 q2, .ld p55 q54 tI, .fa p56 0 q3, .ld p57 q56 tI, .bn p58 .add q55 q57 tI, .bn p59 .sub q58 (ci 2) tI, .fa p60 4 q2, .st q60 q59] (.sO [.mv p7 (.c .nils) .v] (.sj v119_2 (.sO [.fa p61 2 q3, .ld p62 q61 .v, .P p63 (.lenl q62) tI, .mv p64 (ci 0) tI] (.block 1 (.loop v119_3 c119_3b))) c119_2)))) (.sO [.bn p96 .eql q23 (ci 4) .b, .mv p95 q96 .b] (.cond q95 (.sj v119_4 (.sO [.mv p97 q6 .v, .P p98 (.lenl q97) tI, .bn p99 .eql q98 (ci 0) .b, .mv p100 q99 .b, .ge p100 (XL.of [.G p100 true p101 (.faddr 2 q2) .v, .o ⟨(some p102), (.l (.cell q101)), (some (p100, true)), []⟩ tI, .G p100 true p103 (.bin .neq q102 (ci 0)) .b, .P p104 (.pick q100 q103 (cb false)) .b]) p104 .b] (.cond q104 (.s (.oX [.L p105 (.cells 7 q2) .v, .fa p106 6 q3, .ld p107 q106 tI, .cl p108 54 [q105, (ci 14), q107] .v, .ss 7 q2 q108])) (.s .skip))) c119_4) (.sj v119_5 (.sO [.bn p127 .eql q23 (ci 5) .b, .mv p126 q127 .b] (.cond q126 (.s .skip) (.s (.oX [.bn p128 .eql q23 (ci 6) .b, .mv p126 q128 .b])))) c119_5))))
def c119_e : XC := (.sO [.al p2 (.box q0), .al p3 (.box q1), .al p4 (.new [.nils, (kI 0), (kI 0), (kI 0), (kI 0), (kI 0), (kI 0)]), .al p5 (.new [(kI 0), .nils, .nils, (.str []), (kI 0), (kI 0), (kI 0)])] (.seq (.seq (.oX [.fa p13 5 q2, .ld p14 q13 tI, .bn p15 .neq q14 (ci 0) .b]) (.cond q15 (.seq (.ops true (XL.of [.L p16 (.cells 7 q2) .v, .L p17 (.cells 7 q3) .v, .o ⟨none, (.e (.stores 7 q4 q16)), none, [⟨none, .cells 7 q3, p17⟩]⟩ .v, .ss 7 q5 q17])) .ret) .skip)) (.sO [.al p18 (.bsl [] 0 []), .fa p19 1 q3, .ld p20 q19 .v, .o ⟨(some p21), (.e (.app 8 96 q18 q20)), none, []⟩ .v, .mv p6 q21 .v] (.sj v119_0 (.sO [.fa p22 0 q3, .ld p23 q22 tI] (.block 0 (.sO [.bn p25 .eql q23 (ci 1) .b, .mv p24 q25 .b] (.cond q24 (.seq (.ops true (XL.of [.L p27 (.cells 7 q2) .v, .fa p29 2 q3, .ld p30 q29 .v, .o ⟨(some p28), (.call (.fn 85) [q27]), none, [⟨none, .cell q29, p30⟩]⟩ .v, .cl p31 89 [q28, q30] .v, .mv p26 q31 .v, .P p32 (.ext q26 0) .v, .P p33 (.ext q26 1) .v, .ss 7 q2 q32, .fa p34 2 q3, .st q34 q33])) (.s (.oX [.L p35 (.cells 7 q2) .v, .cl p36 90 [q35] .v, .ss 7 q2 q36]))) (.sj v119_1 (.sO [.bn p38 .eql q23 (ci 2) .b, .mv p37 q38 .b] (.cond q37 (.s .skip) (.s (.oX [.bn p39 .eql q23 (ci 3) .b, .mv p37 q39 .b])))) c119_1))))) c119_0))))
def x119 : XFn := ⟨[.v, .v], false, [(.cells 7 p4), (.cells 7 p5)], c119_e⟩
def e119_0 (k t2 t3 t4 t5 t6 h) := kN k [(p2, t2), (p3, t3), (p4, t4), (p5, t5), (p6, t6)] h
def S119_0 (D : CallD) (m : Nat) (t2 t3 t4 t5 t6 : AV) (h : HP) : Res2 :=
 faC 1 t3 fun t242 =>
 stoC t242 t6 h fun h21 =>
 cellsC 7 t2 h21 fun t243 =>
 cellsC 7 t3 h21 fun t244 =>
 stsC 7 t4 t243 h21 fun h22 =>
 br (againE (.stores 7 q4 q243) [⟨none, .cells 7 q3, p244⟩] (mkT [(p4, t4), (p244, t244), (p3, t3)]) h22) (
 stsC 7 t5 t244 h22 fun h23 =>
 cellsC 7 t4 h23 fun t4a =>
 cellsC 7 t5 h23 fun t5a =>
 some (.ret (.tup [t4a, t5a]) h23, .no)) none
def e119_2 (k t2 t3 t4 t5 t6 t7 h) := kN k [(p2, t2), (p3, t3), (p4, t4), (p5, t5), (p6, t6), (p7, t7)] h
def S119_2 (D : CallD) (m : Nat) (t2 t3 t4 t5 t6 t7 : AV) (h : HP) : Res2 :=
 faC 2 t3 fun t87 =>
 stoC t87 t7 h fun h34 =>
 faC 4 t2 fun t88 =>
 ldI t88 h34 fun t89 =>
 faC 0 t3 fun t90 =>
 ldI t90 h34 fun t91 =>
 let t92 := wrQ .i64 (t89 - t91)
 let t93 := wrQ .i64 (addQ t92 (Int.ofNat 2))
 faC 4 t2 fun t94 =>
 stoC t94 (vI t93) h34 fun h35 =>
 S119_0 D m t2 t3 t4 t5 t6 h35
def e119_3 (k t2 t3 t4 t5 t6 t7 t63 t64 h) := kN k [(p2, t2), (p3, t3), (p4, t4), (p5, t5), (p6, t6), (p7, t7), (p63, (vI t63)), (p64, (vI t64))] h
def S119_3b (D : CallD) (m : Nat) (g3 : AV → AV → AV → AV → AV → AV → Int → Int → HP → Res2) (t2 t3 t4 t5 t6 t7 : AV) (t63 t64 : Int) (h : HP) : Res2 :=
 let t65 := ltQ t64 t63
 br t65 (
 let t67 := (AV.agg [(kI 0), (.nils : AV), (.nils : AV), (vS ([] : LN)), (kI 0), (kI 0), (kI 0)])
 let t9 := P0 h
 let h36 := nQ h [(kI 0), .nils, .nils, (.str []), (kI 0), (kI 0), (kI 0)]
 stsC 7 t9 t67 h36 fun h37 =>
 cellsC 7 t2 h37 fun t69 =>
 faC 2 t3 fun t71 =>
 cellC t71 h37 fun t72 =>
 iasC 7 t72 (vI t64) fun t74 =>
 cellsC 7 t74 h37 fun t75 =>
 cal D 85 [t69] h37 fun t70 h38 =>
 br (again [⟨none, .cell q71, p72⟩, ⟨none, .cells 7 q74, p75⟩] (mkT [(p75, t75), (p74, t74), (p72, t72), (p71, t71)]) h38) (
 cal D 119 [t70, t75] h38 fun t76 h39 =>
 extC t76 0 fun t77 =>
 extC t76 1 fun t78 =>
 stsC 7 t2 t77 h39 fun h40 =>
 stsC 7 t9 t78 h40 fun h41 =>
 cellsC 7 t2 h41 fun t79 =>
 cal D 90 [t79] h41 fun t80 h42 =>
 stsC 7 t2 t80 h42 fun h43 =>
 cellsC 7 t9 h43 fun t82 =>
 obQ (evA (.bsl [(kI 0), .nils, .nils, (.str []), (kI 0), (kI 0), (kI 0)] 1 [⟨0, 7, (.c t82)⟩]) .leaf) fun r44 =>
 let t83 := vkV r44.2 (HP.nxQ h43)
 let h45 := HP.newQ h43 r44.1
 eff (.app 7 96 (.c t7) (.c t83)) h45 fun t84 h46 =>
 let t85 := wrQ .i64 (addQ t64 (Int.ofNat 1))
 g3 t2 t3 t4 t5 t6 t84 t63 t85 h46) none) (
 S119_2 D m t2 t3 t4 t5 t6 t7 h)
def S119_3 (D : CallD) (m : Nat) : AV → AV → AV → AV → AV → AV → Int → Int → HP → Res2 := nrec (fun _ _ _ _ _ _ _ _ _ => none) (fun _ g => S119_3b D m g) m
def e119_4 (k t2 t3 t4 t5 t6 h) := kN k [(p2, t2), (p3, t3), (p4, t4), (p5, t5), (p6, t6)] h
def S119_4 (D : CallD) (m : Nat) (t2 t3 t4 t5 t6 : AV) (h : HP) : Res2 :=
 lenC t6 fun vt110 => asI .i64 vt110 fun t110 =>
 let t111 := ltQ (Int.ofNat 0) t110
 br t111 (
 cellsC 7 t2 h fun t114 =>
 iasC 8 t6 (kI 0) fun t116 =>
 cellsC 8 t116 h fun t117 =>
 faC 2 t2 fun t118 =>
 ldI t118 h fun t119 =>
 faC 6 t3 fun t120 =>
 ldI t120 h fun t121 =>
 cal D 88 [t114, t117, (vI t119), (vI t121)] h fun t122 h47 =>
 extC t122 0 fun t123 =>
 extC t122 1 fun t124 =>
 stsC 7 t2 t123 h47 fun h48 =>
 iasC 8 t6 (kI 0) fun t125 =>
 stsC 8 t125 t124 h48 fun h49 =>
 S119_0 D m t2 t3 t4 t5 t6 h49) (
 S119_0 D m t2 t3 t4 t5 t6 h)
def e119_8 (k t2 t3 t4 t5 t6 h) := kN k [(p2, t2), (p3, t3), (p4, t4), (p5, t5), (p6, t6)] h
def S119_8 (D : CallD) (m : Nat) (t2 t3 t4 t5 t6 : AV) (h : HP) : Res2 :=
 cellsC 7 t2 h fun t229 =>
 faC 3 t3 fun t230 =>
 ldS t230 h fun t231 =>
 faC 4 t3 fun t232 =>
 ldI t232 h fun t233 =>
 faC 5 t3 fun t234 =>
 ldI t234 h fun t235 =>
 let t236 := (AV.agg [(vB false), (vB false), (vB false), (vS t231), (vI t233), (vI t235), (.nils : AV), (vB false), (.nils : AV), (kI 0), (.nils : AV), (.nils : AV), (vS ([] : LN)), (kI 0), (kI 0), (kI 0), (kI 0)])
 cal D 87 [t229, t236] h fun t237 h60 =>
 extC t237 0 fun t238 =>
 extC t237 1 fun vt239 => asS vt239 fun t239 =>
 stsC 7 t2 t238 h60 fun h61 =>
 faC 3 t3 fun t240 =>
 stoC t240 (vS t239) h61 fun h62 =>
 S119_0 D m t2 t3 t4 t5 t6 h62
def e119_10 (k t2 t3 t4 t5 t6 t223 h) := kN k [(p2, t2), (p3, t3), (p4, t4), (p5, t5), (p6, t6), (p223, (vB t223))] h
def S119_10 (D : CallD) (m : Nat) (t2 t3 t4 t5 t6 : AV) (t223 : Bool) (h : HP) : Res2 :=
 br t223 (
 cellsC 7 t2 h fun t224 =>
 faC 6 t3 fun t225 =>
 ldI t225 h fun t226 =>
 cal D 54 [t224, (kI 14), (vI t226)] h fun t227 h63 =>
 stsC 7 t2 t227 h63 fun h64 =>
 S119_8 D m t2 t3 t4 t5 t6 h64) (
 S119_8 D m t2 t3 t4 t5 t6 h)
def e119_9 (k t2 t3 t4 t5 t6 t208 t222 h) := kN k [(p2, t2), (p3, t3), (p4, t4), (p5, t5), (p6, t6), (p208, (vB t208)), (p222, (vB t222))] h
def S119_9 (D : CallD) (m : Nat) (t2 t3 t4 t5 t6 : AV) (t208 t222 : Bool) (h : HP) : Res2 :=
 obB (brV t208 (some (vB true)) (some (vB t222))) fun t223 =>
 S119_10 D m t2 t3 t4 t5 t6 t223 h
def e119_7 (k t2 t3 t4 t5 t6 t12 h) := kN k [(p2, t2), (p3, t3), (p4, t4), (p5, t5), (p6, t6), (p12, (vB t12))] h
def S119_7 (D : CallD) (m : Nat) (t2 t3 t4 t5 t6 : AV) (t12 : Bool) (h : HP) : Res2 :=
 let t202 := !t12
 obB (brV t202 (
 some (vB true)) (
 faCV 4 t3 fun t204 =>
 ldIV t204 h fun t205 =>
 let t206 := eqQ t205 (Int.ofNat 0)
 some (vB t206))) fun t207 =>
 br t207 (
 S119_10 D m t2 t3 t4 t5 t6 true h) (
 faC 5 t3 fun t209 =>
 ldI t209 h fun t210 =>
 let t211 := ltQ (Int.ofNat 0) t210
 br t211 (
 faC 4 t3 fun t213 =>
 ldI t213 h fun t214 =>
 cal D 84 [(vI t214)] h fun t215 h65 =>
 asB t215 fun t215a =>
 let t216 := !t215a
 obB (brV t216 (
 some (vB true)) (
 lenCV t6 fun vt219 => asIV .i64 vt219 fun t219 =>
 let t220 := ltQ (Int.ofNat 0) t219
 some (vB t220))) fun t221 =>
 S119_9 D m t2 t3 t4 t5 t6 false t221 h65) (
 S119_9 D m t2 t3 t4 t5 t6 false false h))
def e119_6 (k t2 t3 t4 t5 t6 h) := kN k [(p2, t2), (p3, t3), (p4, t4), (p5, t5), (p6, t6)] h
def S119_6 (D : CallD) (m : Nat) (t2 t3 t4 t5 t6 : AV) (h : HP) : Res2 :=
 lenC t6 fun vt173 => asI .i64 vt173 fun t173 =>
 let t174 := ltQ (Int.ofNat 0) t173
 obB (brV t174 (
 faCV 5 t2 fun t176 =>
 ldIV t176 h fun t177 =>
 let t178 := eqQ t177 (Int.ofNat 0)
 some (vB t178)) (
 some (vB false))) fun t179 =>
 br t179 (
 cellsC 7 t2 h fun t182 =>
 iasC 8 t6 (kI 0) fun t184 =>
 cellsC 8 t184 h fun t185 =>
 cal D 117 [t182, t185] h fun t186 h66 =>
 extC t186 0 fun t187 =>
 extC t186 1 fun t188 =>
 stsC 7 t2 t187 h66 fun h67 =>
 iasC 8 t6 (kI 0) fun t189 =>
 stsC 8 t189 t188 h67 fun h68 =>
 iasC 8 t6 (kI 0) fun t193 =>
 cellsC 8 t193 h68 fun t194 =>
 faC 4 t3 fun t195 =>
 ldI t195 h68 fun t196 =>
 cal D 118 [t194, (vI t196)] h68 fun t197 h69 =>
 extC t197 0 fun t198 =>
 extC t197 1 fun vt199 => asB vt199 fun t199 =>
 iasC 8 t6 (kI 0) fun t200 =>
 stsC 8 t200 t198 h69 fun h70 =>
 S119_7 D m t2 t3 t4 t5 t6 t199 h70) (
 S119_7 D m t2 t3 t4 t5 t6 true h)
def e119_5 (k t2 t3 t4 t5 t6 t23 t126 h) := kN k [(p2, t2), (p3, t3), (p4, t4), (p5, t5), (p6, t6), (p23, (vI t23)), (p126, (vB t126))] h
def S119_5 (D : CallD) (m : Nat) (t2 t3 t4 t5 t6 : AV) (t23 : Int) (t126 : Bool) (h : HP) : Res2 :=
 br t126 (
 faC 4 t2 fun t129 =>
 ldI t129 h fun t130 =>
 let t131 := eqQ t130 (Int.ofNat 0)
 br t131 (
 cellsC 7 t2 h fun t132 =>
 faC 6 t3 fun t133 =>
 ldI t133 h fun t134 =>
 cal D 54 [t132, (kI 14), (vI t134)] h fun t135 h52 =>
 stsC 7 t2 t135 h52 fun h53 =>
 S119_0 D m t2 t3 t4 t5 t6 h53) (
 S119_0 D m t2 t3 t4 t5 t6 h)) (
 let t137 := eqQ t23 (Int.ofNat 7)
 br t137 (
 lenC t6 fun vt139 => asI .i64 vt139 fun t139 =>
 let t140 := ltQ (Int.ofNat 0) t139
 br t140 (
 cellsC 7 t2 h fun t143 =>
 iasC 8 t6 (kI 0) fun t145 =>
 cellsC 8 t145 h fun t146 =>
 cal D 117 [t143, t146] h fun t147 h54 =>
 extC t147 0 fun t148 =>
 extC t147 1 fun t149 =>
 stsC 7 t2 t148 h54 fun h55 =>
 iasC 8 t6 (kI 0) fun t150 =>
 stsC 8 t150 t149 h55 fun h56 =>
 S119_0 D m t2 t3 t4 t5 t6 h56) (
 S119_0 D m t2 t3 t4 t5 t6 h)) (
 let t152 := eqQ t23 (Int.ofNat 8)
 br t152 (
 cellsC 7 t2 h fun t154 =>
 faC 3 t3 fun t155 =>
 ldS t155 h fun t156 =>
 cal D 86 [t154, (vS t156)] h fun t157 h57 =>
 extC t157 0 fun t158 =>
 extC t157 1 fun vt159 => asB vt159 fun t159 =>
 let t10 := P0 h57
 let h58 := nQ h57 [(.bool false), (.bool false), (.bool false), (.str []), (kI 0), (kI 0), .nils, (.bool false), .nils, (kI 0), .nils, .nils, (.str []), (kI 0), (kI 0), (kI 0), (kI 0), (.str []), (kI 0)]
 stsC 19 t10 t158 h58 fun h59 =>
 obB (brV t159 (
 let t162 := (AV.ptr (HP.nxQ h57) (Nat.add 0 18))
 ldIV t162 h59 fun t163 =>
 faCV 1 t2 fun t164 =>
 ldIV t164 h59 fun t165 =>
 let t166 := eqQ t163 t165
 some (vB t166)) (
 some (vB false))) fun t167 =>
 br t167 (
 cellsC 7 t2 h59 fun t168 =>
 faC 6 t3 fun t169 =>
 ldI t169 h59 fun t170 =>
 cal D 54 [t168, (kI 13), (vI t170)] h59 fun t171 h71 =>
 stsC 7 t2 t171 h71 fun h72 =>
 S119_6 D m t2 t3 t4 t5 t6 h72) (
 S119_6 D m t2 t3 t4 t5 t6 h59)) (
 S119_0 D m t2 t3 t4 t5 t6 h)))
def e119_1 (k t2 t3 t4 t5 t6 t23 t37 h) := kN k [(p2, t2), (p3, t3), (p4, t4), (p5, t5), (p6, t6), (p23, (vI t23)), (p37, (vB t37))] h
def S119_1 (D : CallD) (m : Nat) (t2 t3 t4 t5 t6 : AV) (t23 : Int) (t37 : Bool) (h : HP) : Res2 :=
 br t37 (
 cellsC 7 t2 h fun t42 =>
 iasC 8 t6 (kI 0) fun t44 =>
 cellsC 8 t44 h fun t45 =>
 iasC 8 t6 (kI 0) fun t47 =>
 faC 7 t47 fun t48 =>
 ldI t48 h fun t49 =>
 cal D 88 [t42, t45, (kI 1), (vI t49)] h fun t50 h30 =>
 extC t50 0 fun t51 =>
 extC t50 1 fun t52 =>
 stsC 7 t2 t51 h30 fun h31 =>
 iasC 8 t6 (kI 0) fun t53 =>
 stsC 8 t53 t52 h31 fun h32 =>
 faC 4 t2 fun t54 =>
 ldI t54 h32 fun t55 =>
 faC 0 t3 fun t56 =>
 ldI t56 h32 fun t57 =>
 let t58 := wrQ .i64 (addQ t55 t57)
 let t59 := wrQ .i64 (t58 - (Int.ofNat 2))
 faC 4 t2 fun t60 =>
 stoC t60 (vI t59) h32 fun h33 =>
 faC 2 t3 fun t61 =>
 cellC t61 h33 fun t62 =>
 lenC t62 fun vt63 => asI .i64 vt63 fun t63 =>
 S119_3 D m t2 t3 t4 t5 t6 (.nils : AV) t63 (Int.ofNat 0) h33) (
 let t96 := eqQ t23 (Int.ofNat 4)
 br t96 (
 lenC t6 fun vt98 => asI .i64 vt98 fun t98 =>
 let t99 := eqQ t98 (Int.ofNat 0)
 obB (brV t99 (
 faCV 2 t2 fun t101 =>
 ldIV t101 h fun t102 =>
 let t103 := notQ (eqQ t102 (Int.ofNat 0))
 some (vB t103)) (
 some (vB false))) fun t104 =>
 br t104 (
 cellsC 7 t2 h fun t105 =>
 faC 6 t3 fun t106 =>
 ldI t106 h fun t107 =>
 cal D 54 [t105, (kI 14), (vI t107)] h fun t108 h50 =>
 stsC 7 t2 t108 h50 fun h51 =>
 S119_4 D m t2 t3 t4 t5 t6 h51) (
 S119_4 D m t2 t3 t4 t5 t6 h)) (
 let t127 := eqQ t23 (Int.ofNat 5)
 br t127 (
 S119_5 D m t2 t3 t4 t5 t6 t23 t127 h) (
 let t128 := eqQ t23 (Int.ofNat 6)
 S119_5 D m t2 t3 t4 t5 t6 t23 t128 h)))
def e119_12 (k t0 t1 h) := kN k [(p0, t0), (p1, t1)] h
def S119_12 (D : CallD) (m : Nat) (t0 t1 : AV) (h : HP) : Res2 :=
 let t2 := P0 h
 let h13 := HP.newQ h (.cells true (AV.cells t0))
 let t3 := P0 h13
 let h14 := HP.newQ h13 (.cells true (AV.cells t1))
 let t4 := P0 h14
 let h15 := nQ h14 [.nils, (kI 0), (kI 0), (kI 0), (kI 0), (kI 0), (kI 0)]
 let t5 := P0 h15
 let h16 := nQ h15 [(kI 0), .nils, .nils, (.str []), (kI 0), (kI 0), (kI 0)]
 let t13 := (AV.ptr (HP.nxQ h) (Nat.add 0 5))
 ldI t13 h16 fun t14 =>
 let t15 := notQ (eqQ t14 (Int.ofNat 0))
 br t15 (
 cellsC 7 t2 h16 fun t16 =>
 cellsC 7 t3 h16 fun t17 =>
 stsC 7 t4 t16 h16 fun h17 =>
 br (againE (.stores 7 q4 q16) [⟨none, .cells 7 q3, p17⟩] (mkT [(p4, t4), (p17, t17), (p3, t3)]) h17) (
 stsC 7 t5 t17 h17 fun h18 =>
 cellsC 7 t4 h18 fun t4a =>
 cellsC 7 t5 h18 fun t5a =>
 some (.ret (.tup [t4a, t5a]) h18, .no)) none) (
 let t18 := AV.slice (HP.nxQ h16) 0 0 (.exact 0)
 let h19 := nQ h16 []
 let t19 := (AV.ptr (HP.nxQ h13) (Nat.add 0 1))
 cellC t19 h19 fun t20 =>
 eff (.app 8 96 (.c t18) (.c t20)) h19 fun t21 h20 =>
 let t22 := (AV.ptr (HP.nxQ h13) (Nat.add 0 0))
 ldI t22 h20 fun t23 =>
 let t25 := eqQ t23 (Int.ofNat 1)
 br t25 (
 cellsC 7 t2 h20 fun t27 =>
 let t29 := (AV.ptr (HP.nxQ h13) (Nat.add 0 2))
 cellC t29 h20 fun t30 =>
 cal D 85 [t27] h20 fun t28 h24 =>
 br (again [⟨none, .cell q29, p30⟩] (mkT [(p30, t30), (p29, t29)]) h24) (
 cal D 89 [t28, t30] h24 fun t31 h25 =>
 extC t31 0 fun t32 =>
 extC t31 1 fun t33 =>
 stsC 7 t2 t32 h25 fun h26 =>
 let t34 := (AV.ptr (HP.nxQ h13) (Nat.add 0 2))
 stoC t34 t33 h26 fun h27 =>
 cellsC 7 t2 h27 fun t35 =>
 cal D 90 [t35] h27 fun t36 h28 =>
 stsC 7 t2 t36 h28 fun h29 =>
 S119_0 D m t2 t3 t4 t5 t21 h29) none) (
 let t38 := eqQ t23 (Int.ofNat 2)
 br t38 (
 S119_1 D m t2 t3 t4 t5 t21 t23 t38 h20) (
 let t39 := eqQ t23 (Int.ofNat 3)
 S119_1 D m t2 t3 t4 t5 t21 t23 t39 h20)))
def S119 : SFn := fun D m args h u => nou u <| popV args fun t0 args => popV args fun t1 args => endA args (S119_12 D m t0 t1 h)
theorem T119_0 (hE : FX x119 D m E) : S119_0 D m = e119_0 (E c119_0 []) := by unfold S119_0; rw [hE c119_0]; kernel_rfl
theorem T119_2 (hE : FX x119 D m E) : S119_2 D m = e119_2 (E c119_2 [.blk 0, .sj v119_0 c119_0]) := by unfold S119_2; rw [T119_0 hE, hE c119_2]; kernel_rfl
theorem T119_3b (hE : FX x119 D m E) (G3) : S119_3b D m (e119_3 G3) = e119_3 (E c119_3b [.lp v119_3 G3, .blk 1, .sj v119_2 c119_2, .blk 0, .sj v119_0 c119_0]) := by unfold S119_3b; rw [T119_2 hE, hE c119_3b]; kernel_rfl
theorem T119_3 (hE : FX x119 D m E) : S119_3 D m = e119_3 (nrec (fun _ => none) (fun _ G3 st => E c119_3b [.lp v119_3 G3, .blk 1, .sj v119_2 c119_2, .blk 0, .sj v119_0 c119_0] st) m) :=
  nrec_emb e119_3 (fun _ _ _ _ _ _ _ _ _ => none) (fun g => S119_3b D m g) (fun G3 st => E c119_3b [.lp v119_3 G3, .blk 1, .sj v119_2 c119_2, .blk 0, .sj v119_0 c119_0] st) rfl (fun g => T119_3b hE g) m
theorem T119_4 (hE : FX x119 D m E) : S119_4 D m = e119_4 (E c119_4 [.blk 0, .sj v119_0 c119_0]) := by unfold S119_4; rw [T119_0 hE, hE c119_4]; kernel_rfl
theorem T119_8 (hE : FX x119 D m E) : S119_8 D m = e119_8 (E c119_8 [.blk 0, .sj v119_0 c119_0]) := by unfold S119_8; rw [T119_0 hE, hE c119_8]; kernel_rfl
theorem T119_10 (hE : FX x119 D m E) : S119_10 D m = e119_10 (E (.opq false l119_10 c119_11) [.sj v119_8 c119_8, .blk 0, .sj v119_0 c119_0]) := by unfold S119_10; rw [T119_8 hE, hE (.opq false l119_10 c119_11)]; kernel_rfl
theorem T119_9 (hE : FX x119 D m E) : S119_9 D m = e119_9 (E (.opq false l119_9 c119_11) [.sj v119_8 c119_8, .blk 0, .sj v119_0 c119_0]) := by unfold S119_9; rw [T119_10 hE, hE (.opq false l119_9 c119_11)]; kernel_rfl
theorem T119_7 (hE : FX x119 D m E) : S119_7 D m = e119_7 (E c119_7 [.blk 0, .sj v119_0 c119_0]) := by unfold S119_7; rw [T119_10 hE, T119_9 hE, hE c119_7]; kernel_rfl
theorem T119_6 (hE : FX x119 D m E) : S119_6 D m = e119_6 (E c119_6 [.blk 0, .sj v119_0 c119_0]) := by unfold S119_6; rw [T119_7 hE, hE c119_6]; kernel_rfl
theorem T119_5 (hE : FX x119 D m E) : S119_5 D m = e119_5 (E c119_5 [.blk 0, .sj v119_0 c119_0]) := by unfold S119_5; rw [T119_0 hE, T119_6 hE, hE c119_5]; kernel_rfl
theorem T119_1 (hE : FX x119 D m E) : S119_1 D m = e119_1 (E c119_1 [.blk 0, .sj v119_0 c119_0]) := by unfold S119_1; rw [T119_3 hE, T119_4 hE, T119_5 hE, hE c119_1]; kernel_rfl
theorem T119_12 (hE : FX x119 D m E) : S119_12 D m = e119_12 (E c119_e []) := by unfold S119_12; rw [T119_0 hE, T119_1 hE, hE c119_e]; kernel_rfl
theorem X119 : XTie S119 x119 := X_of fun D m E hE args h u => by unfold S119; rw [T119_12 hE]; kernel_rfl
/- 126 -/
def c126_e : XC := (.sO [.mv p4 (.c (.int .u64 (.ofNat 0))) (.i .u64), .mv p5 (.c (.int .u64 (.ofNat 0))) (.i .u64)] (.seq (.cond (cb false) (.seq (.oX [.mv p11 q0 (.i .u64), .P p12 (.conv (.ii .u32) q11) tW, .mv p13 q1 (.i .u64), .P p14 (.conv (.ii .u32) q13) tW, .cl p15 150 [q12, q14] .v, .mv p10 q15 .v, .P p16 (.ext q10 0) tW, .P p17 (.ext q10 1) tW, .mv p6 q16 tW, .mv p7 q17 tW]) (.seq (.oX [.mv p18 q6 tW, .P p19 (.conv (.ii .u64) q18) (.i .u64), .mv p20 q7 tW, .P p21 (.conv (.ii .u64) q20) (.i .u64), .mv p4 q19 (.i .u64), .mv p5 q21 (.i .u64)]) .ret)) .skip) (.sO [.mv p23 q0 (.i .u64), .mv p24 q1 (.i .u64), .cl p25 151 [q23, q24] .v, .mv p22 q25 .v, .P p26 (.ext q22 0) (.i .u64), .P p27 (.ext q22 1) (.i .u64), .mv p8 q26 (.i .u64), .mv p9 q27 (.i .u64)] (.sO [.mv p28 q8 (.i .u64), .mv p29 q9 (.i .u64), .mv p4 q28 (.i .u64), .mv p5 q29 (.i .u64)] (.s .ret)))))
def x126 : XFn := ⟨[(.i .u64), (.i .u64)], false, [(.tmp p4), (.tmp p5)], c126_e⟩
def e126_0 (k t0 t1 h) := kN k [(p0, (AV.int .u64 t0)), (p1, (AV.int .u64 t1))] h
def S126_0 (D : CallD) (m : Nat) (t0 t1 : Int) (h : HP) : Res2 :=
 cal D 151 [(AV.int .u64 t0), (AV.int .u64 t1)] h fun t25 h1 =>
 extC t25 0 fun vt26 => asI .u64 vt26 fun t26 =>
 extC t25 1 fun vt27 => asI .u64 vt27 fun t27 =>
 some (.ret (.tup [(AV.int .u64 t26), (AV.int .u64 t27)]) h1, .no)
def S126 : SFn := fun D m args h u => nou u <| popI .u64 args fun t0 args => popI .u64 args fun t1 args => endA args (S126_0 D m t0 t1 h)
theorem T126_0 (hE : FX x126 D m E) : S126_0 D m = e126_0 (E c126_e []) := by unfold S126_0; rw [hE c126_e]; kernel_rfl
theorem X126 : XTie S126 x126 := X_of fun D m E hE args h u => by unfold S126; rw [T126_0 hE]; kernel_rfl
/- 132 -/
def c132_e : XC := (.sO [.al p4 (.box q1), .al p5 (.box q2), .al p6 (.new [(kI 0), (.int .u32 (.ofNat 0)), (.int .u64 (.ofNat 0)), (.str []), (kI 0)]), .mv p7 (ci 0) tI] (.seq (.block 0 (.seq (.oX [.fa p9 0 q4, .ld p10 q9 tI, .bn p11 .eql q10 (ci 1) .b, .mv p12 q11 .b, .ge p12 (XL.of [.G p12 true p13 (.faddr 0 q5) .v, .o ⟨(some p14), (.l (.cell q13)), (some (p12, true)), []⟩ tI, .G p12 true p15 (.bin .eql q14 (ci 1)) .b, .P p16 (.pick q12 q15 (cb false)) .b]) p16 .b, .mv p8 q16 .b]) (.cond q8 (.seq (.oX [.mv p17 q0 .s, .fa p18 1 q4, .ld p19 q18 tW, .fa p20 1 q5, .ld p21 q20 tW, .cl p22 155 [q17, q19, q21] .v, .P p23 (.ext q22 0) .v, .P p24 (.ext q22 1) tI, .ss 5 q6 q23, .mv p7 q24 tI]) .ret) (.seq (.oX [.fa p26 0 q4, .ld p27 q26 tI, .bn p28 .eql q27 (ci 2) .b, .mv p29 q28 .b, .ge p29 (XL.of [.G p29 true p30 (.faddr 0 q5) .v, .o ⟨(some p31), (.l (.cell q30)), (some (p29, true)), []⟩ tI, .G p29 true p32 (.bin .eql q31 (ci 2)) .b, .P p33 (.pick q29 q32 (cb false)) .b]) p33 .b, .mv p25 q33 .b]) (.cond q25 (.seq (.oX [.mv p34 q0 .s, .fa p35 2 q4, .ld p36 q35 (.i .u64), .fa p37 2 q5, .ld p38 q37 (.i .u64), .cl p39 158 [q34, q36, q38] .v, .P p40 (.ext q39 0) .v, .P p41 (.ext q39 1) tI, .ss 5 q6 q40, .mv p7 q41 tI]) .ret) .skip))))) (.sO [.P p42 (.build [(kI 0), (.int .u32 (.ofNat 0)), (.int .u64 (.ofNat 0)), (.str []), (kI 0)] []) .v, .ss 5 q6 q42, .mv p7 (ci 15) tI] (.s .ret))))
def x132 : XFn := ⟨[.s, .v, .v], false, [(.cells 5 p6), (.tmp p7)], c132_e⟩
def e132_0 (k t0 t1 t2 h) := kN k [(p0, (vS t0)), (p1, t1), (p2, t2)] h
def S132_0 (D : CallD) (m : Nat) (t0 : LN) (t1 t2 : AV) (h : HP) : Res2 :=
 let t4 := P0 h
 let h1 := HP.newQ h (.cells true (AV.cells t1))
 let t5 := P0 h1
 let h2 := HP.newQ h1 (.cells true (AV.cells t2))
 let t6 := P0 h2
 let h3 := nQ h2 [(kI 0), (.int .u32 (.ofNat 0)), (.int .u64 (.ofNat 0)), (.str []), (kI 0)]
 let t9 := (AV.ptr (HP.nxQ h) (Nat.add 0 0))
 ldI t9 h3 fun t10 =>
 let t11 := eqQ t10 (Int.ofNat 1)
 obB (brV t11 (
 let t13 := (AV.ptr (HP.nxQ h1) (Nat.add 0 0))
 ldIV t13 h3 fun t14 =>
 let t15 := eqQ t14 (Int.ofNat 1)
 some (vB t15)) (
 some (vB false))) fun t16 =>
 br t16 (
 let t18 := (AV.ptr (HP.nxQ h) (Nat.add 0 1))
 ldW t18 h3 fun t19 =>
 let t20 := (AV.ptr (HP.nxQ h1) (Nat.add 0 1))
 ldW t20 h3 fun t21 =>
 cal D 155 [(vS t0), (vW t19), (vW t21)] h3 fun t22 h4 =>
 extC t22 0 fun t23 =>
 extC t22 1 fun vt24 => asI .i64 vt24 fun t24 =>
 stsC 5 t6 t23 h4 fun h5 =>
 cellsC 5 t6 h5 fun t6a =>
 some (.ret (.tup [t6a, (vI t24)]) h5, .no)) (
 let t26 := (AV.ptr (HP.nxQ h) (Nat.add 0 0))
 ldI t26 h3 fun t27 =>
 let t28 := eqQ t27 (Int.ofNat 2)
 obB (brV t28 (
 let t30 := (AV.ptr (HP.nxQ h1) (Nat.add 0 0))
 ldIV t30 h3 fun t31 =>
 let t32 := eqQ t31 (Int.ofNat 2)
 some (vB t32)) (
 some (vB false))) fun t33 =>
 br t33 (
 let t35 := (AV.ptr (HP.nxQ h) (Nat.add 0 2))
 cellC t35 h3 fun vt36 => asI .u64 vt36 fun t36 =>
 let t37 := (AV.ptr (HP.nxQ h1) (Nat.add 0 2))
 cellC t37 h3 fun vt38 => asI .u64 vt38 fun t38 =>
 cal D 158 [(vS t0), (AV.int .u64 t36), (AV.int .u64 t38)] h3 fun t39 h6 =>
 extC t39 0 fun t40 =>
 extC t39 1 fun vt41 => asI .i64 vt41 fun t41 =>
 stsC 5 t6 t40 h6 fun h7 =>
 cellsC 5 t6 h7 fun t6a =>
 some (.ret (.tup [t6a, (vI t41)]) h7, .no)) (
 let t42 := (AV.agg [(kI 0), (vW (Int.ofNat 0)), (AV.int .u64 (Int.ofNat 0)), (vS ([] : LN)), (kI 0)])
 stsC 5 t6 t42 h3 fun h8 =>
 cellsC 5 t6 h8 fun t6a =>
 some (.ret (.tup [t6a, (kI 15)]) h8, .no)))
def S132 : SFn := fun D m args h u => nou u <| popS args fun t0 args => popV args fun t1 args => popV args fun t2 args => endA args (S132_0 D m t0 t1 t2 h)
theorem T132_0 (hE : FX x132 D m E) : S132_0 D m = e132_0 (E c132_e []) := by unfold S132_0; rw [hE c132_e]; kernel_rfl
theorem X132 : XTie S132 x132 := X_of fun D m E hE args h u => by unfold S132; rw [T132_0 hE]; kernel_rfl
/- 134 -/
def v134_0 : List Pos := [p0]
def c134_0 : XC := (.s (.oX [.mv p12 q0 .v, .P p13 (.nilck q12) .v, .fa p14 5 q13, .ld p15 q14 tI, .bn p16 .add q15 (ci 1) tI, .P p17 (.nilck q12) .v, .fa p18 5 q17, .st q18 q16]))
def c134_e : XC := (.sj v134_0 (.seq (.ops true (XL.of [.mv p2 q0 .v, .P p3 (.nilck q2) .v, .fa p4 5 q3, .ld p5 q4 tI, .mv p6 q0 .v, .P p7 (.nilck q6) .v, .fa p8 4 q7, .ld p9 q8 tI, .bn p10 .geq q5 q9 .b])) (.cond q10 (.s (.oX [.P p11 (.mkif 119 (ci 0)) .v, .o ⟨none, (.panic q11), none, []⟩ .v])) (.s .skip))) c134_0)
def x134 : XFn := ⟨[.v], false, [], c134_e⟩
def e134_0 (k t0 h) := kN k [(p0, t0)] h
def S134_0 (D : CallD) (m : Nat) (t0 : AV) (h : HP) : Res2 :=
 nilckC t0 fun t13 =>
 faC 5 t13 fun t14 =>
 ldI t14 h fun t15 =>
 let t16 := wrQ .i64 (addQ t15 (Int.ofNat 1))
 nilckC t0 fun t17 =>
 faC 5 t17 fun t18 =>
 stoC t18 (vI t16) h fun h2 =>
 some (.ret (.tup []) h2, .no)
def e134_1 (k t0 h) := kN k [(p0, t0)] h
def S134_1 (D : CallD) (m : Nat) (t0 : AV) (h : HP) : Res2 :=
 nilckC t0 fun t3 =>
 faC 5 t3 fun t4 =>
 ldI t4 h fun t5 =>
 nilckC t0 fun t7 =>
 faC 4 t7 fun t8 =>
 ldI t8 h fun t9 =>
 let t10 := leQ t9 t5
 br t10 (
 let t11 := (AV.iface 119 (kI 0))
 some (.pan [(.iface 119 (kI 0), false)] h, .no)) (
 S134_0 D m t0 h)
def S134 : SFn := fun D m args h u => nou u <| popV args fun t0 args => endA args (S134_1 D m t0 h)
theorem T134_0 (hE : FX x134 D m E) : S134_0 D m = e134_0 (E c134_0 []) := by unfold S134_0; rw [hE c134_0]; kernel_rfl
theorem T134_1 (hE : FX x134 D m E) : S134_1 D m = e134_1 (E c134_e []) := by unfold S134_1; rw [T134_0 hE, hE c134_e]; kernel_rfl
theorem X134 : XTie S134 x134 := X_of fun D m E hE args h u => by unfold S134; rw [T134_1 hE]; kernel_rfl
/- 135 -/
def c135_e : XC := (.sO [.al p3 (.box q1), .al p4 (.new [(kI 0), (.int .u32 (.ofNat 0)), (.int .u64 (.ofNat 0)), (.str []), (kI 0), .nilp, (kI 0)])] (.seq (.block 0 (.seq (.oX [.fa p11 0 q3, .ld p12 q11 tI, .bn p13 .eql q12 (ci 3) .b, .mv p14 q13 .b, .ge p14 (XL.of [.G p14 true p15 (.faddr 3 q3) .v, .o ⟨(some p16), (.l (.cell q15)), (some (p14, true)), []⟩ tW, .G p14 true p17 (.bin .eql q16 (.c (.int .u32 (.ofNat 1)))) .b, .P p18 (.pick q14 q17 (cb false)) .b]) p18 .b, .mv p10 q18 .b]) (.cond q10 (.seq (.oX [.mv p19 q0 .v, .P p20 (.nilck q19) .v, .fa p21 0 q20, .ld p22 q21 .v, .cl p23 134 [q22] .v]) (.seq (.ops true (XL.of [.fa p24 6 q3, .ld p25 q24 tI, .P p26 (.build [(kI 0), (.int .u32 (.ofNat 0)), (.int .u64 (.ofNat 0)), (.str []), (kI 0)] [⟨0, 1, q25⟩]) .v, .mv p27 q0 .v, .fa p28 2 q3, .ld p29 q28 .s, .o ⟨(some p30), (.call (.fn 161) [q27, q29]), none, [⟨none, .cell q24, p25⟩]⟩ .v, .P p31 (.build [(kI 0), (.int .u32 (.ofNat 0)), (.int .u64 (.ofNat 0)), (.str []), (kI 0), .nilp, (kI 0)] [⟨0, 5, q26⟩, ⟨5, 1, q30⟩]) .v, .ss 7 q4 q31])) .ret)) (.seq (.oX [.fa p33 0 q3, .ld p34 q33 tI, .bn p35 .eql q34 (ci 3) .b, .mv p36 q35 .b, .ge p36 (XL.of [.G p36 false p37 (.faddr 0 q3) .v, .o ⟨(some p38), (.l (.cell q37)), (some (p36, false)), []⟩ tI, .G p36 false p39 (.bin .eql q38 (ci 8)) .b, .P p40 (.pick q36 (cb true) q39) .b]) p40 .b, .mv p41 q40 .b, .ge p41 (XL.of [.G p41 false p42 (.faddr 0 q3) .v, .o ⟨(some p43), (.l (.cell q42)), (some (p41, false)), []⟩ tI, .G p41 false p44 (.bin .eql q43 (ci 4)) .b, .G p41 false p45 (.mov q44) .b, .ge p45 (XL.of [.G p45 true p46 (.faddr 1 q3) .v, .o ⟨(some p47), (.l (.cell q46)), (some (p45, true)), []⟩ .s, .G p45 true p48 (.bin .eql q47 (.c (.str [42]))) .b, .G p41 false p49 (.pick q45 q48 (cb false)) .b]) p49 .b, .P p50 (.pick q41 (cb true) q49) .b]) p50 .b, .mv p32 q50 .b]) (.cond q32 (.seq (.oX [.mv p51 q0 .v, .L p52 (.cells 8 q3) .v, .cl p53 163 [q51, q52] .v, .cl p54 162 [q53] .v, .P p55 (.nilck q54) .v, .L p56 (.cells 7 q55) .v, .ss 7 q4 q56]) .ret) .skip))))) (.sO [.mv p57 q0 .v, .P p58 (.nilck q57) .v, .fa p59 0 q58, .ld p60 q59 .v, .cl p61 134 [q60] .v] (.seq (.seq (.oX [.fa p62 0 q3, .ld p63 q62 tI]) (.block 1 (.seq (.oX [.bn p65 .eql q63 (ci 1) .b, .mv p64 q65 .b]) (.cond q64 (.seq (.oX [.fa p66 6 q3, .ld p67 q66 tI, .fa p68 3 q3, .ld p69 q68 tW, .P p70 (.build [(kI 0), (.int .u32 (.ofNat 0)), (.int .u64 (.ofNat 0)), (.str []), (kI 0)] [⟨0, 1, q67⟩, ⟨1, 1, q69⟩]) .v, .P p71 (.build [(kI 0), (.int .u32 (.ofNat 0)), (.int .u64 (.ofNat 0)), (.str []), (kI 0), .nilp, (kI 0)] [⟨0, 5, q70⟩]) .v, .ss 7 q4 q71]) .ret) (.seq (.oX [.bn p73 .eql q63 (ci 2) .b, .mv p72 q73 .b]) (.cond q72 (.seq (.oX [.fa p74 4 q3, .ld p75 q74 (.i .u64), .P p76 (.build [(kI 0), (.int .u32 (.ofNat 0)), (.int .u64 (.ofNat 0)), (.str []), (kI 0)] [⟨0, 1, (ci 2)⟩, ⟨2, 1, q75⟩]) .v, .P p77 (.build [(kI 0), (.int .u32 (.ofNat 0)), (.int .u64 (.ofNat 0)), (.str []), (kI 0), .nilp, (kI 0)] [⟨0, 5, q76⟩]) .v, .ss 7 q4 q77]) .ret) (.seq (.oX [.bn p79 .eql q63 (ci 4) .b, .mv p78 q79 .b]) (.cond q78 (.seq (.seq (.oX [.fa p80 1 q3, .ld p81 q80 .s, .bn p82 .eql q81 (.c (.str [38])) .b]) (.cond q82 (.seq (.oX [.mv p83 q0 .v, .fa p84 5 q3, .ld p85 q84 .v, .P p86 (.iaddr (.sl 8) q85 (ci 0)) .v, .L p87 (.cells 8 q86) .v, .cl p88 163 [q83, q87] .v, .al p5 (.new [(kI 0), (.int .u32 (.ofNat 0)), (.int .u64 (.ofNat 0)), (.str []), (kI 0), .nilp, (kI 0)]), .ss 7 q5 q88]) (.seq (.oX [.fa p89 6 q3, .ld p90 q89 tI, .P p91 (.build [(kI 0), (.int .u32 (.ofNat 0)), (.int .u64 (.ofNat 0)), (.str []), (kI 0)] [⟨0, 1, q90⟩]) .v, .fa p92 0 q5, .ss 5 q92 q91]) (.seq (.oX [.L p93 (.cells 7 q5) .v, .ss 7 q4 q93]) .ret))) .skip)) (.seq (.ops true (XL.of [.fa p95 1 q3, .ld p96 q95 .s, .mv p97 q0 .v, .fa p98 5 q3, .ld p99 q98 .v, .P p100 (.iaddr (.sl 8) q99 (ci 0)) .v, .L p101 (.cells 8 q100) .v, .al p6 (.new [(kI 0), (.int .u32 (.ofNat 0)), (.int .u64 (.ofNat 0)), (.str []), (kI 0)]), .o ⟨(some p102), (.call (.fn 135) [q97, q101]), none, [⟨none, .cell q95, p96⟩]⟩ .v, .P p103 (.field 0 5 true q102) .v, .cl p104 129 [q96, q103] .v, .mv p94 q104 .v, .P p105 (.ext q94 0) .v, .P p106 (.ext q94 1) tI, .ss 5 q6 q105, .mv p7 q106 tI])) (.seq (.oX [.L p107 (.cells 5 q6) .v, .P p108 (.build [(kI 0), (.int .u32 (.ofNat 0)), (.int .u64 (.ofNat 0)), (.str []), (kI 0), .nilp, (kI 0)] [⟨0, 5, q107⟩]) .v, .ss 7 q4 q108]) .ret))) (.seq (.oX [.bn p110 .eql q63 (ci 5) .b, .mv p109 q110 .b]) (.cond q109 (.seq (.oX [.mv p111 q0 .v, .L p112 (.cells 8 q3) .v, .cl p113 164 [q111, q112] .v, .ss 7 q4 q113]) .ret) (.seq (.oX [.bn p115 .eql q63 (ci 6) .b, .mv p114 q115 .b]) (.cond q114 (.seq (.oX [.mv p116 q0 .v, .fa p117 5 q3, .ld p118 q117 .v, .P p119 (.iaddr (.sl 8) q118 (ci 0)) .v, .L p120 (.cells 8 q119) .v, .cl p121 163 [q116, q120] .v, .al p8 (.new [(kI 0), (.int .u32 (.ofNat 0)), (.int .u64 (.ofNat 0)), (.str []), (kI 0), .nilp, (kI 0)]), .ss 7 q8 q121]) (.seq (.oX [.mv p122 q0 .v, .fa p123 5 q3, .ld p124 q123 .v, .P p125 (.iaddr (.sl 8) q124 (ci 1)) .v, .L p126 (.cells 8 q125) .v, .cl p127 135 [q122, q126] .v, .al p9 (.new [(kI 0), (.int .u32 (.ofNat 0)), (.int .u64 (.ofNat 0)), (.str []), (kI 0), .nilp, (kI 0)]), .ss 7 q9 q127]) (.seq (.ops true (XL.of [.L p128 (.cells 7 q8) .v, .L p130 (.cells 7 q9) .v, .o ⟨(some p129), (.call (.fn 162) [q128]), none, [⟨none, .cells 7 q9, p130⟩]⟩ .v, .P p131 (.nilck q129) .v, .ss 7 q131 q130])) (.seq (.oX [.L p132 (.cells 7 q9) .v, .ss 7 q4 q132]) .ret)))) (.seq (.oX [.bn p134 .eql q63 (ci 9) .b, .mv p133 q134 .b]) (.cond q133 (.seq (.ops true (XL.of [.mv p135 q0 .v, .fa p136 5 q3, .ld p137 q136 .v, .P p138 (.iaddr (.sl 8) q137 (ci 0)) .v, .L p139 (.cells 8 q138) .v, .fa p142 3 q3, .ld p143 q142 tW, .P p144 (.conv (.ii .i64) q143) tI, .o ⟨(some p140), (.call (.fn 135) [q135, q139]), none, [⟨none, .cell q142, p143⟩]⟩ .v, .P p141 (.field 0 5 true q140) .v, .cl p145 165 [q141, q144] .v, .P p146 (.build [(kI 0), (.int .u32 (.ofNat 0)), (.int .u64 (.ofNat 0)), (.str []), (kI 0), .nilp, (kI 0)] [⟨0, 5, q145⟩]) .v, .ss 7 q4 q146])) .ret) .skip)))))))))))))) (.sO [.mv p147 q0 .v, .L p148 (.cells 8 q3) .v, .cl p149 166 [q147, q148] .v, .ss 7 q4 q149] (.s .ret))))))
def x135 : XFn := ⟨[.v, .v], false, [(.cells 7 p4)], c135_e⟩
def e135_0 (k t0 t1 h) := kN k [(p0, t0), (p1, t1)] h
def S135_0 (D : CallD) (m : Nat) (t0 t1 : AV) (h : HP) : Res2 :=
 let t3 := P0 h
 let h1 := HP.newQ h (.cells true (AV.cells t1))
 let t4 := P0 h1
 let h2 := nQ h1 [(kI 0), (.int .u32 (.ofNat 0)), (.int .u64 (.ofNat 0)), (.str []), (kI 0), .nilp, (kI 0)]
 let t11 := (AV.ptr (HP.nxQ h) (Nat.add 0 0))
 ldI t11 h2 fun t12 =>
 let t13 := eqQ t12 (Int.ofNat 3)
 obB (brV t13 (
 let t15 := (AV.ptr (HP.nxQ h) (Nat.add 0 3))
 ldWV t15 h2 fun t16 =>
 binCV .eql (vW t16) (vW (Int.ofNat 1)) fun vt17 => asBV vt17 fun t17 =>
 some (vB t17)) (
 some (vB false))) fun t18 =>
 br t18 (
 nilckC t0 fun t20 =>
 faC 0 t20 fun t21 =>
 cellC t21 h2 fun t22 =>
 cal D 134 [t22] h2 fun t23 h3 =>
 let t24 := (AV.ptr (HP.nxQ h) (Nat.add 0 6))
 ldI t24 h3 fun t25 =>
 let t26 := (AV.agg [(vI t25), (vW (Int.ofNat 0)), (AV.int .u64 (Int.ofNat 0)), (vS ([] : LN)), (kI 0)])
 let t28 := (AV.ptr (HP.nxQ h) (Nat.add 0 2))
 ldS t28 h3 fun t29 =>
 cal D 161 [t0, (vS t29)] h3 fun t30 h4 =>
 br (again [⟨none, .cell q24, p25⟩] (mkT [(p25, (vI t25)), (p24, t24)]) h4) (
 obQ (evP (.build [(kI 0), (.int .u32 (.ofNat 0)), (.int .u64 (.ofNat 0)), (.str []), (kI 0), .nilp, (kI 0)] [⟨0, 5, (.c t26)⟩, ⟨5, 1, (.c t30)⟩]) .leaf) fun t31 =>
 stsC 7 t4 t31 h4 fun h5 =>
 cellsC 7 t4 h5 fun t4a =>
 some (.ret t4a h5, .no)) none) (
 let t33 := (AV.ptr (HP.nxQ h) (Nat.add 0 0))
 ldI t33 h2 fun t34 =>
 let t35 := eqQ t34 (Int.ofNat 3)
 obB (brV t35 (
 some (vB true)) (
 let t37 := (AV.ptr (HP.nxQ h) (Nat.add 0 0))
 ldIV t37 h2 fun t38 =>
 let t39 := eqQ t38 (Int.ofNat 8)
 some (vB t39))) fun t40 =>
 obB (brV t40 (
 some (vB true)) (
 let t42 := (AV.ptr (HP.nxQ h) (Nat.add 0 0))
 ldIV t42 h2 fun t43 =>
 let t44 := eqQ t43 (Int.ofNat 4)
 obBV (brV t44 (
 let t46 := (AV.ptr (HP.nxQ h) (Nat.add 0 1))
 ldSV t46 h2 fun t47 =>
 let t48 := eqL t47 ([42] : LN)
 some (vB t48)) (
 some (vB false))) fun t49 =>
 some (vB t49))) fun t50 =>
 br t50 (
 cellsC 8 t3 h2 fun t52 =>
 cal D 163 [t0, t52] h2 fun t53 h6 =>
 cal D 162 [t53] h6 fun t54 h7 =>
 nilckC t54 fun t55 =>
 cellsC 7 t55 h7 fun t56 =>
 stsC 7 t4 t56 h7 fun h8 =>
 cellsC 7 t4 h8 fun t4a =>
 some (.ret t4a h8, .no)) (
 nilckC t0 fun t58 =>
 faC 0 t58 fun t59 =>
 cellC t59 h2 fun t60 =>
 cal D 134 [t60] h2 fun t61 h9 =>
 let t62 := (AV.ptr (HP.nxQ h) (Nat.add 0 0))
 ldI t62 h9 fun t63 =>
 let t65 := eqQ t63 (Int.ofNat 1)
 br t65 (
 let t66 := (AV.ptr (HP.nxQ h) (Nat.add 0 6))
 ldI t66 h9 fun t67 =>
 let t68 := (AV.ptr (HP.nxQ h) (Nat.add 0 3))
 ldW t68 h9 fun t69 =>
 let t70 := (AV.agg [(vI t67), (vW t69), (AV.int .u64 (Int.ofNat 0)), (vS ([] : LN)), (kI 0)])
 let t71 := (AV.agg [(vI t67), (vW t69), (AV.int .u64 (Int.ofNat 0)), (vS ([] : LN)), (kI 0), (.nilp : AV), (kI 0)])
 stsC 7 t4 t71 h9 fun h10 =>
 cellsC 7 t4 h10 fun t4a =>
 some (.ret t4a h10, .no)) (
 let t73 := eqQ t63 (Int.ofNat 2)
 br t73 (
 let t74 := (AV.ptr (HP.nxQ h) (Nat.add 0 4))
 cellC t74 h9 fun vt75 => asI .u64 vt75 fun t75 =>
 let t76 := (AV.agg [(kI 2), (vW (Int.ofNat 0)), (AV.int .u64 t75), (vS ([] : LN)), (kI 0)])
 let t77 := (AV.agg [(kI 2), (vW (Int.ofNat 0)), (AV.int .u64 t75), (vS ([] : LN)), (kI 0), (.nilp : AV), (kI 0)])
 stsC 7 t4 t77 h9 fun h11 =>
 cellsC 7 t4 h11 fun t4a =>
 some (.ret t4a h11, .no)) (
 let t79 := eqQ t63 (Int.ofNat 4)
 br t79 (
 let t80 := (AV.ptr (HP.nxQ h) (Nat.add 0 1))
 ldS t80 h9 fun t81 =>
 let t82 := eqL t81 ([38] : LN)
 br t82 (
 let t84 := (AV.ptr (HP.nxQ h) (Nat.add 0 5))
 cellC t84 h9 fun t85 =>
 iasC 8 t85 (kI 0) fun t86 =>
 cellsC 8 t86 h9 fun t87 =>
 cal D 163 [t0, t87] h9 fun t88 h12 =>
 let t5 := P0 h12
 let h13 := nQ h12 [(kI 0), (.int .u32 (.ofNat 0)), (.int .u64 (.ofNat 0)), (.str []), (kI 0), .nilp, (kI 0)]
 stsC 7 t5 t88 h13 fun h14 =>
 let t89 := (AV.ptr (HP.nxQ h) (Nat.add 0 6))
 ldI t89 h14 fun t90 =>
 let t91 := (AV.agg [(vI t90), (vW (Int.ofNat 0)), (AV.int .u64 (Int.ofNat 0)), (vS ([] : LN)), (kI 0)])
 let t92 := (AV.ptr (HP.nxQ h12) (Nat.add 0 0))
 stsC 5 t92 t91 h14 fun h15 =>
 cellsC 7 t5 h15 fun t93 =>
 stsC 7 t4 t93 h15 fun h16 =>
 cellsC 7 t4 h16 fun t4a =>
 some (.ret t4a h16, .no)) (
 let t95 := (AV.ptr (HP.nxQ h) (Nat.add 0 1))
 ldS t95 h9 fun t96 =>
 let t98 := (AV.ptr (HP.nxQ h) (Nat.add 0 5))
 cellC t98 h9 fun t99 =>
 iasC 8 t99 (kI 0) fun t100 =>
 cellsC 8 t100 h9 fun t101 =>
 let t6 := P0 h9
 let h17 := nQ h9 [(kI 0), (.int .u32 (.ofNat 0)), (.int .u64 (.ofNat 0)), (.str []), (kI 0)]
 cal D 135 [t0, t101] h17 fun t102 h18 =>
 br (again [⟨none, .cell q95, p96⟩] (mkT [(p96, (vS t96)), (p95, t95)]) h18) (
 fldC 0 5 true t102 fun t103 =>
 cal D 129 [(vS t96), t103] h18 fun t104 h19 =>
 extC t104 0 fun t105 =>
 extC t104 1 fun vt106 => asI .i64 vt106 fun t106 =>
 stsC 5 t6 t105 h19 fun h20 =>
 cellsC 5 t6 h20 fun t107 =>
 obQ (evP (.build [(kI 0), (.int .u32 (.ofNat 0)), (.int .u64 (.ofNat 0)), (.str []), (kI 0), .nilp, (kI 0)] [⟨0, 5, (.c t107)⟩]) .leaf) fun t108 =>
 stsC 7 t4 t108 h20 fun h21 =>
 cellsC 7 t4 h21 fun t4a =>
 some (.ret t4a h21, .no)) none)) (
 let t110 := eqQ t63 (Int.ofNat 5)
 br t110 (
 cellsC 8 t3 h9 fun t112 =>
 cal D 164 [t0, t112] h9 fun t113 h22 =>
 stsC 7 t4 t113 h22 fun h23 =>
 cellsC 7 t4 h23 fun t4a =>
 some (.ret t4a h23, .no)) (
 let t115 := eqQ t63 (Int.ofNat 6)
 br t115 (
 let t117 := (AV.ptr (HP.nxQ h) (Nat.add 0 5))
 cellC t117 h9 fun t118 =>
 iasC 8 t118 (kI 0) fun t119 =>
 cellsC 8 t119 h9 fun t120 =>
 cal D 163 [t0, t120] h9 fun t121 h24 =>
 let t8 := P0 h24
 let h25 := nQ h24 [(kI 0), (.int .u32 (.ofNat 0)), (.int .u64 (.ofNat 0)), (.str []), (kI 0), .nilp, (kI 0)]
 stsC 7 t8 t121 h25 fun h26 =>
 let t123 := (AV.ptr (HP.nxQ h) (Nat.add 0 5))
 cellC t123 h26 fun t124 =>
 iasC 8 t124 (kI 1) fun t125 =>
 cellsC 8 t125 h26 fun t126 =>
 cal D 135 [t0, t126] h26 fun t127 h27 =>
 let t9 := P0 h27
 let h28 := nQ h27 [(kI 0), (.int .u32 (.ofNat 0)), (.int .u64 (.ofNat 0)), (.str []), (kI 0), .nilp, (kI 0)]
 stsC 7 t9 t127 h28 fun h29 =>
 cellsC 7 t8 h29 fun t128 =>
 cellsC 7 t9 h29 fun t130 =>
 cal D 162 [t128] h29 fun t129 h30 =>
 br (again [⟨none, .cells 7 q9, p130⟩] (mkT [(p130, t130), (p9, t9)]) h30) (
 nilckC t129 fun t131 =>
 stsC 7 t131 t130 h30 fun h31 =>
 cellsC 7 t9 h31 fun t132 =>
 stsC 7 t4 t132 h31 fun h32 =>
 cellsC 7 t4 h32 fun t4a =>
 some (.ret t4a h32, .no)) none) (
 let t134 := eqQ t63 (Int.ofNat 9)
 br t134 (
 let t136 := (AV.ptr (HP.nxQ h) (Nat.add 0 5))
 cellC t136 h9 fun t137 =>
 iasC 8 t137 (kI 0) fun t138 =>
 cellsC 8 t138 h9 fun t139 =>
 let t142 := (AV.ptr (HP.nxQ h) (Nat.add 0 3))
 ldW t142 h9 fun t143 =>
 obI .i64 (convV (.ii .i64) (vW t143)) fun t144 =>
 cal D 135 [t0, t139] h9 fun t140 h33 =>
 br (again [⟨none, .cell q142, p143⟩] (mkT [(p143, (vW t143)), (p142, t142)]) h33) (
 fldC 0 5 true t140 fun t141 =>
 cal D 165 [t141, (vI t144)] h33 fun t145 h34 =>
 obQ (evP (.build [(kI 0), (.int .u32 (.ofNat 0)), (.int .u64 (.ofNat 0)), (.str []), (kI 0), .nilp, (kI 0)] [⟨0, 5, (.c t145)⟩]) .leaf) fun t146 =>
 stsC 7 t4 t146 h34 fun h35 =>
 cellsC 7 t4 h35 fun t4a =>
 some (.ret t4a h35, .no)) none) (
 cellsC 8 t3 h9 fun t148 =>
 cal D 166 [t0, t148] h9 fun t149 h36 =>
 stsC 7 t4 t149 h36 fun h37 =>
 cellsC 7 t4 h37 fun t4a =>
 some (.ret t4a h37, .no)))))))))
def S135 : SFn := fun D m args h u => nou u <| popV args fun t0 args => popV args fun t1 args => endA args (S135_0 D m t0 t1 h)
theorem T135_0 (hE : FX x135 D m E) : S135_0 D m = e135_0 (E c135_e []) := by unfold S135_0; rw [hE c135_e]; kernel_rfl
theorem X135 : XTie S135 x135 := X_of fun D m E hE args h u => by unfold S135; rw [T135_0 hE]; kernel_rfl
/- 136 -/
def v136_0 : List Pos := [p1]
def c136_0 : XC := (.sO [.mv p17 q1 tI, .mv p4 q17 tI] (.s .ret))
def v136_2 : List Pos := [p0, p1]
def c136_2 : XC := (.block 1 (.s (.oX [.mv p15 q1 tI, .bn p16 .add q15 (ci 1) tI, .mv p1 q16 tI])))
def c136_4 : XC := (.cond q14 (.s .skip) (.s (.exit 0)))
def l136_3 : XL := (XL.of [])
def v136_1 : List Pos := [p0, p1]
def c136_1b : XC := (.sj v136_2 (.opq false (XL.pre [.mv p5 q1 tI, .mv p6 q0 .s, .P p7 (.lens q6) tI, .bn p8 .lss q5 q7 .b, .mv p9 q8 .b, .sp p9, .G p9 true p10 (.mov q0) .s, .G p9 true p11 (.mov q1) tI, .G p9 true p12 (.idxs q10 q11) tC, .o ⟨(some p13), (.call (.fn 108) [q12]), (some (p9, true)), []⟩ .b, .P p14 (.pick q9 q13 (cb false)) .b, .jn p9 [p0, p1, p14]] l136_3) c136_4) c136_2)
def c136_e : XC := (.sO [.mv p4 (ci 0) tI] (.sj v136_0 (.block 0 (.loop v136_1 c136_1b)) c136_0))
def x136 : XFn := ⟨[.s, tI], false, [(.tmp p4)], c136_e⟩
def e136_0 (k t1 h) := kN k [(p1, (vI t1))] h
def S136_0 (D : CallD) (m : Nat) (t1 : Int) (h : HP) : Res2 :=
 some (.ret (vI t1) h, .no)
def e136_2 (k t0 t1 h) := kN k [(p0, (vS t0)), (p1, (vI t1))] h
def S136_2 (D : CallD) (m : Nat) (g1 : LN → Int → HP → Res2) (t0 : LN) (t1 : Int) (h : HP) : Res2 :=
 let t16 := wrQ .i64 (addQ t1 (Int.ofNat 1))
 g1 t0 t16 h
def e136_3 (k t0 t1 t14 h) := kN k [(p0, (vS t0)), (p1, (vI t1)), (p14, (vB t14))] h
def S136_3 (D : CallD) (m : Nat) (g1 : LN → Int → HP → Res2) (t0 : LN) (t1 : Int) (t14 : Bool) (h : HP) : Res2 :=
 br t14 (
 S136_2 D m g1 t0 t1 h) (
 S136_0 D m t1 h)
def e136_1 (k t0 t1 h) := kN k [(p0, (vS t0)), (p1, (vI t1))] h
def S136_1b (D : CallD) (m : Nat) (g1 : LN → Int → HP → Res2) (t0 : LN) (t1 : Int) (h : HP) : Res2 :=
 let t7 := Int.ofNat (lenL t0)
 let t8 := ltQ t1 t7
 br t8 (
 ixC (vS t0) (vI t1) fun vt12 => asI .u8 vt12 fun t12 =>
 cal D 108 [(vC t12)] h fun t13 h6 =>
 asB t13 fun t13a =>
 S136_3 D m g1 t0 t1 t13a h6) (
 S136_3 D m g1 t0 t1 false h)
def S136_1 (D : CallD) (m : Nat) : LN → Int → HP → Res2 := nrec (fun _ _ _ => none) (fun _ g => S136_1b D m g) m
def e136_5 (k t0 t1 h) := kN k [(p0, (vS t0)), (p1, (vI t1))] h
def S136_5 (D : CallD) (m : Nat) (t0 : LN) (t1 : Int) (h : HP) : Res2 :=
 S136_1 D m t0 t1 h
def S136 : SFn := fun D m args h u => nou u <| popS args fun t0 args => popI .i64 args fun t1 args => endA args (S136_5 D m t0 t1 h)
theorem T136_0 (hE : FX x136 D m E) : S136_0 D m = e136_0 (E c136_0 []) := by unfold S136_0; rw [hE c136_0]; kernel_rfl
theorem T136_2 (hE : FX x136 D m E) (G1) : S136_2 D m (e136_1 G1) = e136_2 (E c136_2 [.lp v136_1 G1, .blk 0, .sj v136_0 c136_0]) := by unfold S136_2; rw [hE c136_2]; kernel_rfl
theorem T136_3 (hE : FX x136 D m E) (G1) : S136_3 D m (e136_1 G1) = e136_3 (E (.opq false l136_3 c136_4) [.sj v136_2 c136_2, .lp v136_1 G1, .blk 0, .sj v136_0 c136_0]) := by unfold S136_3; rw [T136_2 hE G1, T136_0 hE, hE (.opq false l136_3 c136_4)]; kernel_rfl
theorem T136_1b (hE : FX x136 D m E) (G1) : S136_1b D m (e136_1 G1) = e136_1 (E c136_1b [.lp v136_1 G1, .blk 0, .sj v136_0 c136_0]) := by unfold S136_1b; rw [T136_3 hE G1, hE c136_1b]; kernel_rfl
theorem T136_1 (hE : FX x136 D m E) : S136_1 D m = e136_1 (nrec (fun _ => none) (fun _ G1 st => E c136_1b [.lp v136_1 G1, .blk 0, .sj v136_0 c136_0] st) m) :=
  nrec_emb e136_1 (fun _ _ _ => none) (fun g => S136_1b D m g) (fun G1 st => E c136_1b [.lp v136_1 G1, .blk 0, .sj v136_0 c136_0] st) rfl (fun g => T136_1b hE g) m
theorem T136_5 (hE : FX x136 D m E) : S136_5 D m = e136_5 (E c136_e []) := by unfold S136_5; rw [T136_1 hE, hE c136_e]; kernel_rfl
theorem X136 : XTie S136 x136 := X_of fun D m E hE args h u => by unfold S136; rw [T136_5 hE]; kernel_rfl
/- 138 -/
def v138_4 : List Pos := [p1, p2, p3, p4]
def c138_4 : XC := (.seq (.ops true (XL.of [.L p151 (.cells 5 q1) .v, .L p153 (.cells 7 q4) .v, .o ⟨(some p152), (.call (.fn 79) [q151, (.c (.str [59]))]), none, [⟨none, .cells 7 q4, p153⟩]⟩ .v, .o ⟨none, (.e (.stores 5 q2 q152)), none, [⟨none, .cells 7 q4, p153⟩]⟩ .v, .ss 7 q3 q153])) (.s .ret))
def v138_3 : List Pos := [p1, p2, p3, p4, p5]
def c138_3 : XC := (.sj v138_4 (.sO [.L p140 (.cells 5 q1) .v, .cl p141 73 [q140, (.c (.str [59]))] .b, .P p142 (.un .not q141) .b] (.cond q142 (.sO [.L p144 (.cells 5 q1) .v, .cl p145 81 [q144] .v, .mv p143 q145 .v, .P p146 (.ext q143 0) .v, .P p147 (.ext q143 1) .v, .ss 5 q1 q146, .ss 8 q5 q147] (.s (.oX [.L p148 (.cells 8 q5) .v, .al p149 (.bsl [(kI 0), (.str []), (.str []), (.int .u32 (.ofNat 0)), (.int .u64 (.ofNat 0)), .nils, (kI 0), (kI 0)] 1 [⟨0, 8, q148⟩]), .fa p150 1 q4, .st q150 q149]))) (.s .skip))) c138_4)
def v138_2 : List Pos := [p1, p2, p3, p4, p5]
def c138_2 : XC := (.sO [.fa p134 0 q4, .st q134 (ci 7)] (.sj v138_3 (.sO [.L p135 (.cells 5 q1) .v, .cl p136 73 [q135, (.c (.str [114, 101, 116, 117, 114, 110]))] .b] (.cond q136 (.sO [.fa p137 0 q4, .st q137 (ci 4)] (.s (.oX [.L p138 (.cells 5 q1) .v, .cl p139 74 [q138] .v, .ss 5 q1 q139]))) (.s .skip))) c138_3))
def v138_6 : List Pos := [p1, p2, p3, p4]
def c138_6 : XC := (.seq (.ops true (XL.of [.L p130 (.cells 5 q1) .v, .L p133 (.cells 7 q4) .v, .o ⟨(some p131), (.call (.fn 74) [q130]), none, [⟨none, .cells 7 q4, p133⟩]⟩ .v, .o ⟨(some p132), (.call (.fn 79) [q131, (.c (.str [59]))]), none, [⟨none, .cells 7 q4, p133⟩]⟩ .v, .o ⟨none, (.e (.stores 5 q2 q132)), none, [⟨none, .cells 7 q4, p133⟩]⟩ .v, .ss 7 q3 q133])) (.s .ret))
def c138_7 : XC := (.cond q125 (.sO [.fa p126 0 q4, .st q126 (ci 5)] (.sj v138_6 (.sO [.L p127 (.cells 5 q1) .v, .cl p128 73 [q127, (.c (.str [99, 111, 110, 116, 105, 110, 117, 101]))] .b] (.cond q128 (.s (.oX [.fa p129 0 q4, .st q129 (ci 6)])) (.s .skip))) c138_6)) (.s .skip))
def l138_5 : XL := (XL.of [])
def v138_1 : List Pos := [p1, p2, p3, p4, p5]
def c138_1 : XC := (.sj v138_2 (.opq false (XL.pre [.L p120 (.cells 5 q1) .v, .cl p121 73 [q120, (.c (.str [98, 114, 101, 97, 107]))] .b, .mv p122 q121 .b, .sp p122, .o ⟨(some p123), (.l (.cells 5 q1)), (some (p122, false)), []⟩ .v, .o ⟨(some p124), (.call (.fn 73) [q123, (.c (.str [99, 111, 110, 116, 105, 110, 117, 101]))]), (some (p122, false)), []⟩ .b, .P p125 (.pick q122 (cb true) q124) .b, .jn p122 [p1, p2, p3, p4, p5, p125]] l138_5) c138_7) c138_2)
def v138_10 : List Pos := [p1, p2, p3, p4]
def c138_10 : XC := (.seq (.ops true (XL.of [.L p117 (.cells 5 q1) .v, .L p119 (.cells 7 q4) .v, .o ⟨(some p118), (.call (.fn 79) [q117, (.c (.str [59]))]), none, [⟨none, .cells 7 q4, p119⟩]⟩ .v, .o ⟨none, (.e (.stores 5 q2 q118)), none, [⟨none, .cells 7 q4, p119⟩]⟩ .v, .ss 7 q3 q119])) (.s .ret))
def c138_11 : XC := (.cond q86 (.sO [.fa p87 0 q4, .st q87 (ci 8)] (.sO [.L p89 (.cells 5 q1) .v, .cl p90 75 [q89] .v, .mv p88 q90 .v, .P p91 (.ext q88 0) .v, .P p92 (.ext q88 1) tI, .ss 5 q1 q91, .fa p93 4 q4, .st q93 q92] (.sO [.L p95 (.cells 5 q1) .v, .cl p96 76 [q95, (ci 1)] .v, .mv p94 q96 .v, .P p97 (.ext q94 0) .v, .P p98 (.ext q94 1) .s, .ss 5 q1 q97, .fa p99 3 q4, .st q99 q98] (.sO [.L p101 (.cells 5 q1) .v, .cl p102 80 [q101] .v, .mv p100 q102 .v, .P p103 (.ext q100 0) .v, .P p104 (.ext q100 1) tI, .ss 5 q1 q103, .fa p105 5 q4, .st q105 q104] (.sj v138_10 (.sO [.L p106 (.cells 5 q1) .v, .cl p107 73 [q106, (.c (.str [61]))] .b] (.cond q107 (.sO [.L p109 (.cells 5 q1) .v, .cl p110 74 [q109] .v, .cl p111 81 [q110] .v, .mv p108 q111 .v, .P p112 (.ext q108 0) .v, .P p113 (.ext q108 1) .v, .ss 5 q1 q112, .ss 8 q5 q113] (.s (.oX [.L p114 (.cells 8 q5) .v, .al p115 (.bsl [(kI 0), (.str []), (.str []), (.int .u32 (.ofNat 0)), (.int .u64 (.ofNat 0)), .nils, (kI 0), (kI 0)] 1 [⟨0, 8, q114⟩]), .fa p116 1 q4, .st q116 q115]))) (.s .skip))) c138_10))))) (.s .skip))
def l138_9 : XL := (XL.of [])
def l138_8 : XL := (XL.pre [.mv p83 q82 .b, .sp p83, .o ⟨(some p84), (.l (.cells 5 q1)), (some (p83, false)), []⟩ .v, .o ⟨(some p85), (.call (.fn 73) [q84, (.c (.str [118, 111, 105, 100]))]), (some (p83, false)), []⟩ .b, .P p86 (.pick q83 (cb true) q85) .b, .jn p83 [p1, p2, p3, p4, p5, p86]] l138_9)
def v138_0 : List Pos := [p1, p2, p3, p4, p5]
def c138_0 : XC := (.sj v138_1 (.opq false (XL.pre [.L p77 (.cells 5 q1) .v, .cl p78 73 [q77, (.c (.str [105, 110, 116]))] .b, .mv p79 q78 .b, .sp p79, .o ⟨(some p80), (.l (.cells 5 q1)), (some (p79, false)), []⟩ .v, .o ⟨(some p81), (.call (.fn 73) [q80, (.c (.str [100, 111, 117, 98, 108, 101]))]), (some (p79, false)), []⟩ .b, .P p82 (.pick q79 (cb true) q81) .b, .jn p79 [p1, p2, p3, p4, p5, p82]] l138_8) c138_11) c138_1)
def v138_14 : List Pos := [p1, p2, p3, p4]
def c138_14 : XC := (.seq (.ops true (XL.of [.L p75 (.cells 5 q1) .v, .L p76 (.cells 7 q4) .v, .o ⟨none, (.e (.stores 5 q2 q75)), none, [⟨none, .cells 7 q4, p76⟩]⟩ .v, .ss 7 q3 q76])) (.s .ret))
def c138_16 : XC := (.cond q62 (.sO [.L p64 (.cells 5 q1) .v, .cl p65 74 [q64] .v, .cl p66 112 [q65] .v, .mv p63 q66 .v, .P p67 (.ext q63 0) .v, .P p68 (.ext q63 1) .v, .ss 5 q1 q67, .ss 7 q6 q68] (.s (.oX [.fa p69 2 q4, .ld p70 q69 .v, .L p71 (.cells 7 q6) .v, .al p72 (.bsl [(kI 0), .nils, .nils, (.str []), (kI 0), (kI 0), (kI 0)] 1 [⟨0, 7, q71⟩]), .o ⟨(some p73), (.e (.app 7 96 q70 q72)), none, []⟩ .v, .fa p74 2 q4, .st q74 q73]))) (.s .skip))
def l138_15 : XL := (XL.of [])
def v138_13 : List Pos := [p1, p2, p3, p4, p5, p6]
def c138_13 : XC := (.sO [.L p35 (.cells 5 q1) .v, .cl p36 74 [q35] .v, .cl p37 79 [q36, (.c (.str [40]))] .v, .cl p38 81 [q37] .v, .mv p34 q38 .v, .P p39 (.ext q34 0) .v, .P p40 (.ext q34 1) .v, .ss 5 q1 q39, .ss 8 q5 q40] (.sO [.L p41 (.cells 8 q5) .v, .al p42 (.bsl [(kI 0), (.str []), (.str []), (.int .u32 (.ofNat 0)), (.int .u64 (.ofNat 0)), .nils, (kI 0), (kI 0)] 1 [⟨0, 8, q41⟩]), .fa p43 1 q4, .st q43 q42] (.sO [.L p45 (.cells 5 q1) .v, .cl p46 79 [q45, (.c (.str [41]))] .v, .cl p47 112 [q46] .v, .mv p44 q47 .v, .P p48 (.ext q44 0) .v, .P p49 (.ext q44 1) .v, .ss 5 q1 q48, .ss 7 q6 q49] (.sO [.fa p50 2 q4, .ld p51 q50 .v, .L p52 (.cells 7 q6) .v, .al p53 (.bsl [(kI 0), .nils, .nils, (.str []), (kI 0), (kI 0), (kI 0)] 1 [⟨0, 7, q52⟩]), .o ⟨(some p54), (.e (.app 7 96 q51 q53)), none, []⟩ .v, .fa p55 2 q4, .st q55 q54] (.sj v138_14 (.opq false (XL.pre [.fa p56 0 q4, .ld p57 q56 tI, .bn p58 .eql q57 (ci 2) .b, .mv p59 q58 .b, .sp p59, .o ⟨(some p60), (.l (.cells 5 q1)), (some (p59, true)), []⟩ .v, .o ⟨(some p61), (.call (.fn 73) [q60, (.c (.str [101, 108, 115, 101]))]), (some (p59, true)), []⟩ .b, .P p62 (.pick q59 q61 (cb false)) .b, .jn p59 [p1, p2, p3, p4, p6, p62]] l138_15) c138_16) c138_14)))))
def c138_17 : XC := (.cond q29 (.sO [.fa p30 0 q4, .st q30 (ci 2)] (.sj v138_13 (.sO [.L p31 (.cells 5 q1) .v, .cl p32 73 [q31, (.c (.str [119, 104, 105, 108, 101]))] .b] (.cond q32 (.s (.oX [.fa p33 0 q4, .st q33 (ci 3)])) (.s .skip))) c138_13)) (.s .skip))
def l138_12 : XL := (XL.of [])
def c138_e : XC := (.sO [.al p1 (.box q0), .al p2 (.new [.nils, (kI 0), (kI 0), (kI 0), (kI 0)]), .al p3 (.new [(kI 0), .nils, .nils, (.str []), (kI 0), (kI 0), (kI 0)])] (.sO [.L p7 (.cells 5 q1) .v, .cl p8 50 [q7] .v, .P p9 (.field 2 1 false q8) tI, .P p10 (.build [(kI 0), .nils, .nils, (.str []), (kI 0), (kI 0), (kI 0)] [⟨6, 1, q9⟩]) .v, .al p4 (.new [(kI 0), .nils, .nils, (.str []), (kI 0), (kI 0), (kI 0)]), .ss 7 q4 q10] (.sO [.P p11 (.build [(kI 0), (.str []), (.str []), (.int .u32 (.ofNat 0)), (.int .u64 (.ofNat 0)), .nils, (kI 0), (kI 0)] []) .v, .al p5 (.new [(kI 0), (.str []), (.str []), (.int .u32 (.ofNat 0)), (.int .u64 (.ofNat 0)), .nils, (kI 0), (kI 0)]), .ss 8 q5 q11] (.sO [.P p12 (.build [(kI 0), .nils, .nils, (.str []), (kI 0), (kI 0), (kI 0)] []) .v, .al p6 (.new [(kI 0), .nils, .nils, (.str []), (kI 0), (kI 0), (kI 0)]), .ss 7 q6 q12] (.seq (.seq (.oX [.fa p13 3 q1, .ld p14 q13 tI, .bn p15 .neq q14 (ci 0) .b]) (.cond q15 (.seq (.ops true (XL.of [.L p16 (.cells 5 q1) .v, .L p17 (.cells 7 q4) .v, .o ⟨none, (.e (.stores 5 q2 q16)), none, [⟨none, .cells 7 q4, p17⟩]⟩ .v, .ss 7 q3 q17])) .ret) .skip)) (.seq (.seq (.oX [.L p18 (.cells 5 q1) .v, .cl p19 73 [q18, (.c (.str [123]))] .b]) (.cond q19 (.seq (.oX [.L p20 (.cells 5 q1) .v, .cl p21 78 [q20] .v, .P p22 (.ext q21 0) .v, .P p23 (.ext q21 1) .v, .ss 5 q2 q22, .ss 7 q3 q23]) .ret) .skip)) (.sj v138_0 (.opq false (XL.pre [.L p24 (.cells 5 q1) .v, .cl p25 73 [q24, (.c (.str [105, 102]))] .b, .mv p26 q25 .b, .sp p26, .o ⟨(some p27), (.l (.cells 5 q1)), (some (p26, false)), []⟩ .v, .o ⟨(some p28), (.call (.fn 73) [q27, (.c (.str [119, 104, 105, 108, 101]))]), (some (p26, false)), []⟩ .b, .P p29 (.pick q26 (cb true) q28) .b, .jn p26 [p1, p2, p3, p4, p5, p6, p29]] l138_12) c138_17) c138_0)))))))
def x138 : XFn := ⟨[.v], false, [(.cells 5 p2), (.cells 7 p3)], c138_e⟩
def e138_4 (k t1 t2 t3 t4 h) := kN k [(p1, t1), (p2, t2), (p3, t3), (p4, t4)] h
def S138_4 (D : CallD) (m : Nat) (t1 t2 t3 t4 : AV) (h : HP) : Res2 :=
 cellsC 5 t1 h fun t151 =>
 cellsC 7 t4 h fun t153 =>
 cal D 79 [t151, (vS ([59] : LN))] h fun t152 h36 =>
 br (again [⟨none, .cells 7 q4, p153⟩] (mkT [(p153, t153), (p4, t4)]) h36) (
 stsC 5 t2 t152 h36 fun h37 =>
 br (againE (.stores 5 q2 q152) [⟨none, .cells 7 q4, p153⟩] (mkT [(p2, t2), (p153, t153), (p4, t4)]) h37) (
 stsC 7 t3 t153 h37 fun h38 =>
 cellsC 5 t2 h38 fun t2a =>
 cellsC 7 t3 h38 fun t3a =>
 some (.ret (.tup [t2a, t3a]) h38, .no)) none) none
def e138_3 (k t1 t2 t3 t4 t5 h) := kN k [(p1, t1), (p2, t2), (p3, t3), (p4, t4), (p5, t5)] h
def S138_3 (D : CallD) (m : Nat) (t1 t2 t3 t4 t5 : AV) (h : HP) : Res2 :=
 cellsC 5 t1 h fun t140 =>
 cal D 73 [t140, (vS ([59] : LN))] h fun t141 h39 =>
 asB t141 fun t141a =>
 let t142 := !t141a
 br t142 (
 cellsC 5 t1 h39 fun t144 =>
 cal D 81 [t144] h39 fun t145 h40 =>
 extC t145 0 fun t146 =>
 extC t145 1 fun t147 =>
 stsC 5 t1 t146 h40 fun h41 =>
 stsC 8 t5 t147 h41 fun h42 =>
 cellsC 8 t5 h42 fun t148 =>
 obQ (evA (.bsl [(kI 0), (.str []), (.str []), (.int .u32 (.ofNat 0)), (.int .u64 (.ofNat 0)), .nils, (kI 0), (kI 0)] 1 [⟨0, 8, (.c t148)⟩]) .leaf) fun r43 =>
 let t149 := vkV r43.2 (HP.nxQ h42)
 let h44 := HP.newQ h42 r43.1
 faC 1 t4 fun t150 =>
 stoC t150 t149 h44 fun h45 =>
 S138_4 D m t1 t2 t3 t4 h45) (
 S138_4 D m t1 t2 t3 t4 h39)
def e138_2 (k t1 t2 t3 t4 t5 h) := kN k [(p1, t1), (p2, t2), (p3, t3), (p4, t4), (p5, t5)] h
def S138_2 (D : CallD) (m : Nat) (t1 t2 t3 t4 t5 : AV) (h : HP) : Res2 :=
 faC 0 t4 fun t134 =>
 stoC t134 (kI 7) h fun h35 =>
 cellsC 5 t1 h35 fun t135 =>
 cal D 73 [t135, (vS ([114, 101, 116, 117, 114, 110] : LN))] h35 fun t136 h46 =>
 asB t136 fun t136a =>
 br t136a (
 faC 0 t4 fun t137 =>
 stoC t137 (kI 4) h46 fun h47 =>
 cellsC 5 t1 h47 fun t138 =>
 cal D 74 [t138] h47 fun t139 h48 =>
 stsC 5 t1 t139 h48 fun h49 =>
 S138_3 D m t1 t2 t3 t4 t5 h49) (
 S138_3 D m t1 t2 t3 t4 t5 h46)
def e138_6 (k t1 t2 t3 t4 h) := kN k [(p1, t1), (p2, t2), (p3, t3), (p4, t4)] h
def S138_6 (D : CallD) (m : Nat) (t1 t2 t3 t4 : AV) (h : HP) : Res2 :=
 cellsC 5 t1 h fun t130 =>
 cellsC 7 t4 h fun t133 =>
 cal D 74 [t130] h fun t131 h52 =>
 br (again [⟨none, .cells 7 q4, p133⟩] (mkT [(p133, t133), (p4, t4)]) h52) (
 cal D 79 [t131, (vS ([59] : LN))] h52 fun t132 h53 =>
 br (again [⟨none, .cells 7 q4, p133⟩] (mkT [(p133, t133), (p4, t4)]) h53) (
 stsC 5 t2 t132 h53 fun h54 =>
 br (againE (.stores 5 q2 q132) [⟨none, .cells 7 q4, p133⟩] (mkT [(p2, t2), (p133, t133), (p4, t4)]) h54) (
 stsC 7 t3 t133 h54 fun h55 =>
 cellsC 5 t2 h55 fun t2a =>
 cellsC 7 t3 h55 fun t3a =>
 some (.ret (.tup [t2a, t3a]) h55, .no)) none) none) none
def e138_5 (k t1 t2 t3 t4 t5 t125 h) := kN k [(p1, t1), (p2, t2), (p3, t3), (p4, t4), (p5, t5), (p125, (vB t125))] h
def S138_5 (D : CallD) (m : Nat) (t1 t2 t3 t4 t5 : AV) (t125 : Bool) (h : HP) : Res2 :=
 br t125 (
 faC 0 t4 fun t126 =>
 stoC t126 (kI 5) h fun h51 =>
 cellsC 5 t1 h51 fun t127 =>
 cal D 73 [t127, (vS ([99, 111, 110, 116, 105, 110, 117, 101] : LN))] h51 fun t128 h56 =>
 asB t128 fun t128a =>
 br t128a (
 faC 0 t4 fun t129 =>
 stoC t129 (kI 6) h56 fun h57 =>
 S138_6 D m t1 t2 t3 t4 h57) (
 S138_6 D m t1 t2 t3 t4 h56)) (
 S138_2 D m t1 t2 t3 t4 t5 h)
def e138_1 (k t1 t2 t3 t4 t5 h) := kN k [(p1, t1), (p2, t2), (p3, t3), (p4, t4), (p5, t5)] h
def S138_1 (D : CallD) (m : Nat) (t1 t2 t3 t4 t5 : AV) (h : HP) : Res2 :=
 cellsC 5 t1 h fun t120 =>
 cal D 73 [t120, (vS ([98, 114, 101, 97, 107] : LN))] h fun t121 h50 =>
 asB t121 fun t121a =>
 br t121a (
 S138_5 D m t1 t2 t3 t4 t5 true h50) (
 cellsC 5 t1 h50 fun t123 =>
 cal D 73 [t123, (vS ([99, 111, 110, 116, 105, 110, 117, 101] : LN))] h50 fun t124 h58 =>
 asB t124 fun t124a =>
 S138_5 D m t1 t2 t3 t4 t5 t124a h58)
def e138_10 (k t1 t2 t3 t4 h) := kN k [(p1, t1), (p2, t2), (p3, t3), (p4, t4)] h
def S138_10 (D : CallD) (m : Nat) (t1 t2 t3 t4 : AV) (h : HP) : Res2 :=
 cellsC 5 t1 h fun t117 =>
 cellsC 7 t4 h fun t119 =>
 cal D 79 [t117, (vS ([59] : LN))] h fun t118 h70 =>
 br (again [⟨none, .cells 7 q4, p119⟩] (mkT [(p119, t119), (p4, t4)]) h70) (
 stsC 5 t2 t118 h70 fun h71 =>
 br (againE (.stores 5 q2 q118) [⟨none, .cells 7 q4, p119⟩] (mkT [(p2, t2), (p119, t119), (p4, t4)]) h71) (
 stsC 7 t3 t119 h71 fun h72 =>
 cellsC 5 t2 h72 fun t2a =>
 cellsC 7 t3 h72 fun t3a =>
 some (.ret (.tup [t2a, t3a]) h72, .no)) none) none
def e138_9 (k t1 t2 t3 t4 t5 t86 h) := kN k [(p1, t1), (p2, t2), (p3, t3), (p4, t4), (p5, t5), (p86, (vB t86))] h
def S138_9 (D : CallD) (m : Nat) (t1 t2 t3 t4 t5 : AV) (t86 : Bool) (h : HP) : Res2 :=
 br t86 (
 faC 0 t4 fun t87 =>
 stoC t87 (kI 8) h fun h60 =>
 cellsC 5 t1 h60 fun t89 =>
 cal D 75 [t89] h60 fun t90 h61 =>
 extC t90 0 fun t91 =>
 extC t90 1 fun vt92 => asI .i64 vt92 fun t92 =>
 stsC 5 t1 t91 h61 fun h62 =>
 faC 4 t4 fun t93 =>
 stoC t93 (vI t92) h62 fun h63 =>
 cellsC 5 t1 h63 fun t95 =>
 cal D 76 [t95, (kI 1)] h63 fun t96 h64 =>
 extC t96 0 fun t97 =>
 extC t96 1 fun vt98 => asS vt98 fun t98 =>
 stsC 5 t1 t97 h64 fun h65 =>
 faC 3 t4 fun t99 =>
 stoC t99 (vS t98) h65 fun h66 =>
 cellsC 5 t1 h66 fun t101 =>
 cal D 80 [t101] h66 fun t102 h67 =>
 extC t102 0 fun t103 =>
 extC t102 1 fun vt104 => asI .i64 vt104 fun t104 =>
 stsC 5 t1 t103 h67 fun h68 =>
 faC 5 t4 fun t105 =>
 stoC t105 (vI t104) h68 fun h69 =>
 cellsC 5 t1 h69 fun t106 =>
 cal D 73 [t106, (vS ([61] : LN))] h69 fun t107 h73 =>
 asB t107 fun t107a =>
 br t107a (
 cellsC 5 t1 h73 fun t109 =>
 cal D 74 [t109] h73 fun t110 h74 =>
 cal D 81 [t110] h74 fun t111 h75 =>
 extC t111 0 fun t112 =>
 extC t111 1 fun t113 =>
 stsC 5 t1 t112 h75 fun h76 =>
 stsC 8 t5 t113 h76 fun h77 =>
 cellsC 8 t5 h77 fun t114 =>
 obQ (evA (.bsl [(kI 0), (.str []), (.str []), (.int .u32 (.ofNat 0)), (.int .u64 (.ofNat 0)), .nils, (kI 0), (kI 0)] 1 [⟨0, 8, (.c t114)⟩]) .leaf) fun r78 =>
 let t115 := vkV r78.2 (HP.nxQ h77)
 let h79 := HP.newQ h77 r78.1
 faC 1 t4 fun t116 =>
 stoC t116 t115 h79 fun h80 =>
 S138_10 D m t1 t2 t3 t4 h80) (
 S138_10 D m t1 t2 t3 t4 h73)) (
 S138_1 D m t1 t2 t3 t4 t5 h)
def e138_8 (k t1 t2 t3 t4 t5 t82 h) := kN k [(p1, t1), (p2, t2), (p3, t3), (p4, t4), (p5, t5), (p82, (vB t82))] h
def S138_8 (D : CallD) (m : Nat) (t1 t2 t3 t4 t5 : AV) (t82 : Bool) (h : HP) : Res2 :=
 br t82 (
 S138_9 D m t1 t2 t3 t4 t5 true h) (
 cellsC 5 t1 h fun t84 =>
 cal D 73 [t84, (vS ([118, 111, 105, 100] : LN))] h fun t85 h81 =>
 asB t85 fun t85a =>
 S138_9 D m t1 t2 t3 t4 t5 t85a h81)
def e138_0 (k t1 t2 t3 t4 t5 h) := kN k [(p1, t1), (p2, t2), (p3, t3), (p4, t4), (p5, t5)] h
def S138_0 (D : CallD) (m : Nat) (t1 t2 t3 t4 t5 : AV) (h : HP) : Res2 :=
 cellsC 5 t1 h fun t77 =>
 cal D 73 [t77, (vS ([105, 110, 116] : LN))] h fun t78 h59 =>
 asB t78 fun t78a =>
 br t78a (
 S138_8 D m t1 t2 t3 t4 t5 true h59) (
 cellsC 5 t1 h59 fun t80 =>
 cal D 73 [t80, (vS ([100, 111, 117, 98, 108, 101] : LN))] h59 fun t81 h82 =>
 asB t81 fun t81a =>
 S138_8 D m t1 t2 t3 t4 t5 t81a h82)
def e138_14 (k t1 t2 t3 t4 h) := kN k [(p1, t1), (p2, t2), (p3, t3), (p4, t4)] h
def S138_14 (D : CallD) (m : Nat) (t1 t2 t3 t4 : AV) (h : HP) : Res2 :=
 cellsC 5 t1 h fun t75 =>
 cellsC 7 t4 h fun t76 =>
 stsC 5 t2 t75 h fun h101 =>
 br (againE (.stores 5 q2 q75) [⟨none, .cells 7 q4, p76⟩] (mkT [(p2, t2), (p76, t76), (p4, t4)]) h101) (
 stsC 7 t3 t76 h101 fun h102 =>
 cellsC 5 t2 h102 fun t2a =>
 cellsC 7 t3 h102 fun t3a =>
 some (.ret (.tup [t2a, t3a]) h102, .no)) none
def e138_15 (k t1 t2 t3 t4 t6 t62 h) := kN k [(p1, t1), (p2, t2), (p3, t3), (p4, t4), (p6, t6), (p62, (vB t62))] h
def S138_15 (D : CallD) (m : Nat) (t1 t2 t3 t4 t6 : AV) (t62 : Bool) (h : HP) : Res2 :=
 br t62 (
 cellsC 5 t1 h fun t64 =>
 cal D 74 [t64] h fun t65 h104 =>
 cal D 112 [t65] h104 fun t66 h105 =>
 extC t66 0 fun t67 =>
 extC t66 1 fun t68 =>
 stsC 5 t1 t67 h105 fun h106 =>
 stsC 7 t6 t68 h106 fun h107 =>
 faC 2 t4 fun t69 =>
 cellC t69 h107 fun t70 =>
 cellsC 7 t6 h107 fun t71 =>
 obQ (evA (.bsl [(kI 0), .nils, .nils, (.str []), (kI 0), (kI 0), (kI 0)] 1 [⟨0, 7, (.c t71)⟩]) .leaf) fun r108 =>
 let t72 := vkV r108.2 (HP.nxQ h107)
 let h109 := HP.newQ h107 r108.1
 eff (.app 7 96 (.c t70) (.c t72)) h109 fun t73 h110 =>
 faC 2 t4 fun t74 =>
 stoC t74 t73 h110 fun h111 =>
 S138_14 D m t1 t2 t3 t4 h111) (
 S138_14 D m t1 t2 t3 t4 h)
def e138_13 (k t1 t2 t3 t4 t5 t6 h) := kN k [(p1, t1), (p2, t2), (p3, t3), (p4, t4), (p5, t5), (p6, t6)] h
def S138_13 (D : CallD) (m : Nat) (t1 t2 t3 t4 t5 t6 : AV) (h : HP) : Res2 :=
 cellsC 5 t1 h fun t35 =>
 cal D 74 [t35] h fun t36 h85 =>
 cal D 79 [t36, (vS ([40] : LN))] h85 fun t37 h86 =>
 cal D 81 [t37] h86 fun t38 h87 =>
 extC t38 0 fun t39 =>
 extC t38 1 fun t40 =>
 stsC 5 t1 t39 h87 fun h88 =>
 stsC 8 t5 t40 h88 fun h89 =>
 cellsC 8 t5 h89 fun t41 =>
 obQ (evA (.bsl [(kI 0), (.str []), (.str []), (.int .u32 (.ofNat 0)), (.int .u64 (.ofNat 0)), .nils, (kI 0), (kI 0)] 1 [⟨0, 8, (.c t41)⟩]) .leaf) fun r90 =>
 let t42 := vkV r90.2 (HP.nxQ h89)
 let h91 := HP.newQ h89 r90.1
 faC 1 t4 fun t43 =>
 stoC t43 t42 h91 fun h92 =>
 cellsC 5 t1 h92 fun t45 =>
 cal D 79 [t45, (vS ([41] : LN))] h92 fun t46 h93 =>
 cal D 112 [t46] h93 fun t47 h94 =>
 extC t47 0 fun t48 =>
 extC t47 1 fun t49 =>
 stsC 5 t1 t48 h94 fun h95 =>
 stsC 7 t6 t49 h95 fun h96 =>
 faC 2 t4 fun t50 =>
 cellC t50 h96 fun t51 =>
 cellsC 7 t6 h96 fun t52 =>
 obQ (evA (.bsl [(kI 0), .nils, .nils, (.str []), (kI 0), (kI 0), (kI 0)] 1 [⟨0, 7, (.c t52)⟩]) .leaf) fun r97 =>
 let t53 := vkV r97.2 (HP.nxQ h96)
 let h98 := HP.newQ h96 r97.1
 eff (.app 7 96 (.c t51) (.c t53)) h98 fun t54 h99 =>
 faC 2 t4 fun t55 =>
 stoC t55 t54 h99 fun h100 =>
 faC 0 t4 fun t56 =>
 ldI t56 h100 fun t57 =>
 let t58 := eqQ t57 (Int.ofNat 2)
 br t58 (
 cellsC 5 t1 h100 fun t60 =>
 cal D 73 [t60, (vS ([101, 108, 115, 101] : LN))] h100 fun t61 h103 =>
 asB t61 fun t61a =>
 S138_15 D m t1 t2 t3 t4 t6 t61a h103) (
 S138_15 D m t1 t2 t3 t4 t6 false h100)
def e138_12 (k t1 t2 t3 t4 t5 t6 t29 h) := kN k [(p1, t1), (p2, t2), (p3, t3), (p4, t4), (p5, t5), (p6, t6), (p29, (vB t29))] h
def S138_12 (D : CallD) (m : Nat) (t1 t2 t3 t4 t5 t6 : AV) (t29 : Bool) (h : HP) : Res2 :=
 br t29 (
 faC 0 t4 fun t30 =>
 stoC t30 (kI 2) h fun h84 =>
 cellsC 5 t1 h84 fun t31 =>
 cal D 73 [t31, (vS ([119, 104, 105, 108, 101] : LN))] h84 fun t32 h112 =>
 asB t32 fun t32a =>
 br t32a (
 faC 0 t4 fun t33 =>
 stoC t33 (kI 3) h112 fun h113 =>
 S138_13 D m t1 t2 t3 t4 t5 t6 h113) (
 S138_13 D m t1 t2 t3 t4 t5 t6 h112)) (
 S138_0 D m t1 t2 t3 t4 t5 h)
def e138_18 (k t0 h) := kN k [(p0, t0)] h
def S138_18 (D : CallD) (m : Nat) (t0 : AV) (h : HP) : Res2 :=
 let t1 := P0 h
 let h19 := HP.newQ h (.cells true (AV.cells t0))
 let t2 := P0 h19
 let h20 := nQ h19 [.nils, (kI 0), (kI 0), (kI 0), (kI 0)]
 let t3 := P0 h20
 let h21 := nQ h20 [(kI 0), .nils, .nils, (.str []), (kI 0), (kI 0), (kI 0)]
 cellsC 5 t1 h21 fun t7 =>
 cal D 50 [t7] h21 fun t8 h22 =>
 fldC 2 1 false t8 fun vt9 => asI .i64 vt9 fun t9 =>
 let t10 := (AV.agg [(kI 0), (.nils : AV), (.nils : AV), (vS ([] : LN)), (kI 0), (kI 0), (vI t9)])
 let t4 := P0 h22
 let h23 := nQ h22 [(kI 0), .nils, .nils, (.str []), (kI 0), (kI 0), (kI 0)]
 stsC 7 t4 t10 h23 fun h24 =>
 let t11 := (AV.agg [(kI 0), (vS ([] : LN)), (vS ([] : LN)), (vW (Int.ofNat 0)), (AV.int .u64 (Int.ofNat 0)), (.nils : AV), (kI 0), (kI 0)])
 let t5 := P0 h24
 let h25 := nQ h24 [(kI 0), (.str []), (.str []), (.int .u32 (.ofNat 0)), (.int .u64 (.ofNat 0)), .nils, (kI 0), (kI 0)]
 stsC 8 t5 t11 h25 fun h26 =>
 let t12 := (AV.agg [(kI 0), (.nils : AV), (.nils : AV), (vS ([] : LN)), (kI 0), (kI 0), (kI 0)])
 let t6 := P0 h26
 let h27 := nQ h26 [(kI 0), .nils, .nils, (.str []), (kI 0), (kI 0), (kI 0)]
 stsC 7 t6 t12 h27 fun h28 =>
 let t13 := (AV.ptr (HP.nxQ h) (Nat.add 0 3))
 ldI t13 h28 fun t14 =>
 let t15 := notQ (eqQ t14 (Int.ofNat 0))
 br t15 (
 cellsC 5 t1 h28 fun t16 =>
 cellsC 7 t4 h28 fun t17 =>
 stsC 5 t2 t16 h28 fun h29 =>
 br (againE (.stores 5 q2 q16) [⟨none, .cells 7 q4, p17⟩] (mkT [(p2, t2), (p17, t17), (p4, t4)]) h29) (
 stsC 7 t3 t17 h29 fun h30 =>
 cellsC 5 t2 h30 fun t2a =>
 cellsC 7 t3 h30 fun t3a =>
 some (.ret (.tup [t2a, t3a]) h30, .no)) none) (
 cellsC 5 t1 h28 fun t18 =>
 cal D 73 [t18, (vS ([123] : LN))] h28 fun t19 h31 =>
 asB t19 fun t19a =>
 br t19a (
 cellsC 5 t1 h31 fun t20 =>
 cal D 78 [t20] h31 fun t21 h32 =>
 extC t21 0 fun t22 =>
 extC t21 1 fun t23 =>
 stsC 5 t2 t22 h32 fun h33 =>
 stsC 7 t3 t23 h33 fun h34 =>
 cellsC 5 t2 h34 fun t2a =>
 cellsC 7 t3 h34 fun t3a =>
 some (.ret (.tup [t2a, t3a]) h34, .no)) (
 cellsC 5 t1 h31 fun t24 =>
 cal D 73 [t24, (vS ([105, 102] : LN))] h31 fun t25 h83 =>
 asB t25 fun t25a =>
 br t25a (
 S138_12 D m t1 t2 t3 t4 t5 t6 true h83) (
 cellsC 5 t1 h83 fun t27 =>
 cal D 73 [t27, (vS ([119, 104, 105, 108, 101] : LN))] h83 fun t28 h114 =>
 asB t28 fun t28a =>
 S138_12 D m t1 t2 t3 t4 t5 t6 t28a h114)))
def S138 : SFn := fun D m args h u => nou u <| popV args fun t0 args => endA args (S138_18 D m t0 h)
theorem T138_4 (hE : FX x138 D m E) : S138_4 D m = e138_4 (E c138_4 []) := by unfold S138_4; rw [hE c138_4]; kernel_rfl
theorem T138_3 (hE : FX x138 D m E) : S138_3 D m = e138_3 (E c138_3 []) := by unfold S138_3; rw [T138_4 hE, hE c138_3]; kernel_rfl
theorem T138_2 (hE : FX x138 D m E) : S138_2 D m = e138_2 (E c138_2 []) := by unfold S138_2; rw [T138_3 hE, hE c138_2]; kernel_rfl
theorem T138_6 (hE : FX x138 D m E) : S138_6 D m = e138_6 (E c138_6 [.sj v138_2 c138_2]) := by unfold S138_6; rw [hE c138_6]; kernel_rfl
theorem T138_5 (hE : FX x138 D m E) : S138_5 D m = e138_5 (E (.opq false l138_5 c138_7) [.sj v138_2 c138_2]) := by unfold S138_5; rw [T138_6 hE, T138_2 hE, hE (.opq false l138_5 c138_7)]; kernel_rfl
theorem T138_1 (hE : FX x138 D m E) : S138_1 D m = e138_1 (E c138_1 []) := by unfold S138_1; rw [T138_5 hE, hE c138_1]; kernel_rfl
theorem T138_10 (hE : FX x138 D m E) : S138_10 D m = e138_10 (E c138_10 [.sj v138_1 c138_1]) := by unfold S138_10; rw [hE c138_10]; kernel_rfl
theorem T138_9 (hE : FX x138 D m E) : S138_9 D m = e138_9 (E (.opq false l138_9 c138_11) [.sj v138_1 c138_1]) := by unfold S138_9; rw [T138_10 hE, T138_1 hE, hE (.opq false l138_9 c138_11)]; kernel_rfl
theorem T138_8 (hE : FX x138 D m E) : S138_8 D m = e138_8 (E (.opq false l138_8 c138_11) [.sj v138_1 c138_1]) := by unfold S138_8; rw [T138_9 hE, hE (.opq false l138_8 c138_11)]; kernel_rfl
theorem T138_0 (hE : FX x138 D m E) : S138_0 D m = e138_0 (E c138_0 []) := by unfold S138_0; rw [T138_8 hE, hE c138_0]; kernel_rfl
theorem T138_14 (hE : FX x138 D m E) : S138_14 D m = e138_14 (E c138_14 [.sj v138_0 c138_0]) := by unfold S138_14; rw [hE c138_14]; kernel_rfl
theorem T138_15 (hE : FX x138 D m E) : S138_15 D m = e138_15 (E (.opq false l138_15 c138_16) [.sj v138_14 c138_14, .sj v138_0 c138_0]) := by unfold S138_15; rw [T138_14 hE, hE (.opq false l138_15 c138_16)]; kernel_rfl
theorem T138_13 (hE : FX x138 D m E) : S138_13 D m = e138_13 (E c138_13 [.sj v138_0 c138_0]) := by unfold S138_13; rw [T138_15 hE, hE c138_13]; kernel_rfl
theorem T138_12 (hE : FX x138 D m E) : S138_12 D m = e138_12 (E (.opq false l138_12 c138_17) [.sj v138_0 c138_0]) := by unfold S138_12; rw [T138_13 hE, T138_0 hE, hE (.opq false l138_12 c138_17)]; kernel_rfl
theorem T138_18 (hE : FX x138 D m E) : S138_18 D m = e138_18 (E c138_e []) := by unfold S138_18; rw [T138_12 hE, hE c138_e]; kernel_rfl
theorem X138 : XTie S138 x138 := X_of fun D m E hE args h u => by unfold S138; rw [T138_18 hE]; kernel_rfl
/- 139 -/
def c139_e : XC := (.sO [.al p1 (.box q0), .al p2 (.new [.nils, (kI 0), (kI 0), (kI 0), (kI 0)]), .al p3 (.new [(kI 0), (.str []), (.str []), (.int .u32 (.ofNat 0)), (.int .u64 (.ofNat 0)), .nils, (kI 0), (kI 0)])] (.sO [.L p6 (.cells 5 q1) .v, .cl p7 115 [q6] .v, .cl p8 168 [q7] .v, .mv p5 q8 .v, .P p9 (.ext q5 0) .v, .P p10 (.ext q5 1) .v, .al p4 (.new [(kI 0), (.str []), (.str []), (.int .u32 (.ofNat 0)), (.int .u64 (.ofNat 0)), .nils, (kI 0), (kI 0)]), .ss 5 q1 q9, .ss 8 q4 q10] (.seq (.ops true (XL.of [.L p11 (.cells 5 q1) .v, .L p13 (.cells 8 q4) .v, .o ⟨(some p12), (.call (.fn 116) [q11]), none, [⟨none, .cells 8 q4, p13⟩]⟩ .v, .o ⟨none, (.e (.stores 5 q2 q12)), none, [⟨none, .cells 8 q4, p13⟩]⟩ .v, .ss 8 q3 q13])) (.s .ret))))
def x139 : XFn := ⟨[.v], false, [(.cells 5 p2), (.cells 8 p3)], c139_e⟩
def e139_0 (k t0 h) := kN k [(p0, t0)] h
def S139_0 (D : CallD) (m : Nat) (t0 : AV) (h : HP) : Res2 :=
 let t1 := P0 h
 let h1 := HP.newQ h (.cells true (AV.cells t0))
 let t2 := P0 h1
 let h2 := nQ h1 [.nils, (kI 0), (kI 0), (kI 0), (kI 0)]
 let t3 := P0 h2
 let h3 := nQ h2 [(kI 0), (.str []), (.str []), (.int .u32 (.ofNat 0)), (.int .u64 (.ofNat 0)), .nils, (kI 0), (kI 0)]
 cellsC 5 t1 h3 fun t6 =>
 cal D 115 [t6] h3 fun t7 h4 =>
 cal D 168 [t7] h4 fun t8 h5 =>
 extC t8 0 fun t9 =>
 extC t8 1 fun t10 =>
 let t4 := P0 h5
 let h6 := nQ h5 [(kI 0), (.str []), (.str []), (.int .u32 (.ofNat 0)), (.int .u64 (.ofNat 0)), .nils, (kI 0), (kI 0)]
 stsC 5 t1 t9 h6 fun h7 =>
 stsC 8 t4 t10 h7 fun h8 =>
 cellsC 5 t1 h8 fun t11 =>
 cellsC 8 t4 h8 fun t13 =>
 cal D 116 [t11] h8 fun t12 h9 =>
 br (again [⟨none, .cells 8 q4, p13⟩] (mkT [(p13, t13), (p4, t4)]) h9) (
 stsC 5 t2 t12 h9 fun h10 =>
 br (againE (.stores 5 q2 q12) [⟨none, .cells 8 q4, p13⟩] (mkT [(p2, t2), (p13, t13), (p4, t4)]) h10) (
 stsC 8 t3 t13 h10 fun h11 =>
 cellsC 5 t2 h11 fun t2a =>
 cellsC 8 t3 h11 fun t3a =>
 some (.ret (.tup [t2a, t3a]) h11, .no)) none) none
def S139 : SFn := fun D m args h u => nou u <| popV args fun t0 args => endA args (S139_0 D m t0 h)
theorem T139_0 (hE : FX x139 D m E) : S139_0 D m = e139_0 (E c139_e []) := by unfold S139_0; rw [hE c139_e]; kernel_rfl
theorem X139 : XTie S139 x139 := X_of fun D m E hE args h u => by unfold S139; rw [T139_0 hE]; kernel_rfl
/- 140 -/
def v140_0 : List Pos := []
def c140_0 : XC := (.sO [.mv p2 (.c (.int .i64 (.negSucc 0))) tI] (.s .ret))
def v140_5 : List Pos := [p28]
def c140_5 : XC := (.cond q28 (.sO [.mv p2 (ci 9) tI] (.s .ret)) (.s .skip))
def v140_4 : List Pos := [p3, p25]
def c140_4 : XC := (.cond q25 (.sO [.mv p2 (ci 8) tI] (.s .ret)) (.sj v140_5 (.sO [.bn p29 .eql q3 (.c (.str [42])) .b, .mv p28 q29 .b] (.cond q28 (.s .skip) (.sO [.bn p30 .eql q3 (.c (.str [47])) .b, .mv p28 q30 .b] (.cond q28 (.s .skip) (.s (.oX [.bn p31 .eql q3 (.c (.str [37])) .b, .mv p28 q31 .b])))))) c140_5))
def v140_3 : List Pos := [p3, p22]
def c140_3 : XC := (.cond q22 (.sO [.mv p2 (ci 7) tI] (.s .ret)) (.sj v140_4 (.sO [.bn p26 .eql q3 (.c (.str [43])) .b, .mv p25 q26 .b] (.cond q25 (.s .skip) (.s (.oX [.bn p27 .eql q3 (.c (.str [45])) .b, .mv p25 q27 .b])))) c140_4))
def v140_2 : List Pos := [p3, p17]
def c140_2 : XC := (.cond q17 (.sO [.mv p2 (ci 6) tI] (.s .ret)) (.sj v140_3 (.sO [.bn p23 .eql q3 (.c (.str [60, 60])) .b, .mv p22 q23 .b] (.cond q22 (.s .skip) (.s (.oX [.bn p24 .eql q3 (.c (.str [62, 62])) .b, .mv p22 q24 .b])))) c140_3))
def v140_1 : List Pos := [p3, p14]
def c140_1 : XC := (.cond q14 (.sO [.mv p2 (ci 5) tI] (.s .ret)) (.sj v140_2 (.sO [.bn p18 .eql q3 (.c (.str [60])) .b, .mv p17 q18 .b] (.cond q17 (.s .skip) (.sO [.bn p19 .eql q3 (.c (.str [60, 61])) .b, .mv p17 q19 .b] (.cond q17 (.s .skip) (.sO [.bn p20 .eql q3 (.c (.str [62])) .b, .mv p17 q20 .b] (.cond q17 (.s .skip) (.s (.oX [.bn p21 .eql q3 (.c (.str [62, 61])) .b, .mv p17 q21 .b])))))))) c140_2))
def c140_e : XC := (.sO [.mv p2 (ci 0) tI] (.sj v140_0 (.sO [.mv p3 q0 .s] (.block 0 (.sO [.bn p5 .eql q3 (.c (.str [124, 124])) .b, .mv p4 q5 .b] (.cond q4 (.sO [.mv p2 (ci 0) tI] (.s .ret)) (.sO [.bn p7 .eql q3 (.c (.str [38, 38])) .b, .mv p6 q7 .b] (.cond q6 (.sO [.mv p2 (ci 1) tI] (.s .ret)) (.sO [.bn p9 .eql q3 (.c (.str [124])) .b, .mv p8 q9 .b] (.cond q8 (.sO [.mv p2 (ci 2) tI] (.s .ret)) (.sO [.bn p11 .eql q3 (.c (.str [94])) .b, .mv p10 q11 .b] (.cond q10 (.sO [.mv p2 (ci 3) tI] (.s .ret)) (.sO [.bn p13 .eql q3 (.c (.str [38])) .b, .mv p12 q13 .b] (.cond q12 (.sO [.mv p2 (ci 4) tI] (.s .ret)) (.sj v140_1 (.sO [.bn p15 .eql q3 (.c (.str [61, 61])) .b, .mv p14 q15 .b] (.cond q14 (.s .skip) (.s (.oX [.bn p16 .eql q3 (.c (.str [33, 61])) .b, .mv p14 q16 .b])))) c140_1))))))))))))) c140_0))
def x140 : XFn := ⟨[.s], false, [(.tmp p2)], c140_e⟩
def e140_0 (k h) := kN k [] h
def S140_0 (D : CallD) (m : Nat) (h : HP) : Res2 :=
 some (.ret (vI (Int.negSucc 0)) h, .no)
def e140_5 (k t28 h) := kN k [(p28, (vB t28))] h
def S140_5 (D : CallD) (m : Nat) (t28 : Bool) (h : HP) : Res2 :=
 br t28 (
 some (.ret (kI 9) h, .no)) (
 S140_0 D m h)
def e140_4 (k t3 t25 h) := kN k [(p3, (vS t3)), (p25, (vB t25))] h
def S140_4 (D : CallD) (m : Nat) (t3 : LN) (t25 : Bool) (h : HP) : Res2 :=
 br t25 (
 some (.ret (kI 8) h, .no)) (
 let t29 := eqL t3 ([42] : LN)
 br t29 (
 S140_5 D m t29 h) (
 let t30 := eqL t3 ([47] : LN)
 br t30 (
 S140_5 D m t30 h) (
 let t31 := eqL t3 ([37] : LN)
 S140_5 D m t31 h)))
def e140_3 (k t3 t22 h) := kN k [(p3, (vS t3)), (p22, (vB t22))] h
def S140_3 (D : CallD) (m : Nat) (t3 : LN) (t22 : Bool) (h : HP) : Res2 :=
 br t22 (
 some (.ret (kI 7) h, .no)) (
 let t26 := eqL t3 ([43] : LN)
 br t26 (
 S140_4 D m t3 t26 h) (
 let t27 := eqL t3 ([45] : LN)
 S140_4 D m t3 t27 h))
def e140_2 (k t3 t17 h) := kN k [(p3, (vS t3)), (p17, (vB t17))] h
def S140_2 (D : CallD) (m : Nat) (t3 : LN) (t17 : Bool) (h : HP) : Res2 :=
 br t17 (
 some (.ret (kI 6) h, .no)) (
 let t23 := eqL t3 ([60, 60] : LN)
 br t23 (
 S140_3 D m t3 t23 h) (
 let t24 := eqL t3 ([62, 62] : LN)
 S140_3 D m t3 t24 h))
def e140_1 (k t3 t14 h) := kN k [(p3, (vS t3)), (p14, (vB t14))] h
def S140_1 (D : CallD) (m : Nat) (t3 : LN) (t14 : Bool) (h : HP) : Res2 :=
 br t14 (
 some (.ret (kI 5) h, .no)) (
 let t18 := eqL t3 ([60] : LN)
 br t18 (
 S140_2 D m t3 t18 h) (
 let t19 := eqL t3 ([60, 61] : LN)
 br t19 (
 S140_2 D m t3 t19 h) (
 let t20 := eqL t3 ([62] : LN)
 br t20 (
 S140_2 D m t3 t20 h) (
 let t21 := eqL t3 ([62, 61] : LN)
 S140_2 D m t3 t21 h))))
def e140_6 (k t0 h) := kN k [(p0, (vS t0))] h
def S140_6 (D : CallD) (m : Nat) (t0 : LN) (h : HP) : Res2 :=
 let t5 := eqL t0 ([124, 124] : LN)
 br t5 (
 some (.ret (kI 0) h, .no)) (
 let t7 := eqL t0 ([38, 38] : LN)
 br t7 (
 some (.ret (kI 1) h, .no)) (
 let t9 := eqL t0 ([124] : LN)
 br t9 (
 some (.ret (kI 2) h, .no)) (
 let t11 := eqL t0 ([94] : LN)
 br t11 (
 some (.ret (kI 3) h, .no)) (
 let t13 := eqL t0 ([38] : LN)
 br t13 (
 some (.ret (kI 4) h, .no)) (
 let t15 := eqL t0 ([61, 61] : LN)
 br t15 (
 S140_1 D m t0 t15 h) (
 let t16 := eqL t0 ([33, 61] : LN)
 S140_1 D m t0 t16 h))))))
def S140 : SFn := fun D m args h u => nou u <| popS args fun t0 args => endA args (S140_6 D m t0 h)
theorem T140_0 (hE : FX x140 D m E) : S140_0 D m = e140_0 (E c140_0 []) := by unfold S140_0; rw [hE c140_0]; kernel_rfl
theorem T140_5 (hE : FX x140 D m E) : S140_5 D m = e140_5 (E c140_5 [.blk 0, .sj v140_0 c140_0]) := by unfold S140_5; rw [T140_0 hE, hE c140_5]; kernel_rfl
theorem T140_4 (hE : FX x140 D m E) : S140_4 D m = e140_4 (E c140_4 [.blk 0, .sj v140_0 c140_0]) := by unfold S140_4; rw [T140_5 hE, hE c140_4]; kernel_rfl
theorem T140_3 (hE : FX x140 D m E) : S140_3 D m = e140_3 (E c140_3 [.blk 0, .sj v140_0 c140_0]) := by unfold S140_3; rw [T140_4 hE, hE c140_3]; kernel_rfl
theorem T140_2 (hE : FX x140 D m E) : S140_2 D m = e140_2 (E c140_2 [.blk 0, .sj v140_0 c140_0]) := by unfold S140_2; rw [T140_3 hE, hE c140_2]; kernel_rfl
theorem T140_1 (hE : FX x140 D m E) : S140_1 D m = e140_1 (E c140_1 [.blk 0, .sj v140_0 c140_0]) := by unfold S140_1; rw [T140_2 hE, hE c140_1]; kernel_rfl
theorem T140_6 (hE : FX x140 D m E) : S140_6 D m = e140_6 (E c140_e []) := by unfold S140_6; rw [T140_1 hE, hE c140_e]; kernel_rfl
theorem X140 : XTie S140 x140 := X_of fun D m E hE args h u => by unfold S140; rw [T140_6 hE]; kernel_rfl
/- 142 -/
def v142_3 : List Pos := [p1, p2]
def c142_3 : XC := (.sO [.L p207 (.cells 8 q1) .v, .ss 8 q2 q207, .mv p3 (ci 0) tI] (.s .ret))
def v142_6 : List Pos := [p1, p2, p6]
def c142_6 : XC := (.sO [.al p150 (.bsl [(.str []), (.str []), (.str []), (.str []), (.str []), (.str []), (.str []), (.str [])] 8 [⟨0, 1, (.c (.str [37]))⟩, ⟨1, 1, (.c (.str [60, 60]))⟩, ⟨2, 1, (.c (.str [62, 62]))⟩, ⟨3, 1, (.c (.str [38]))⟩, ⟨4, 1, (.c (.str [94]))⟩, ⟨5, 1, (.c (.str [124]))⟩, ⟨6, 1, (.c (.str [38, 38]))⟩, ⟨7, 1, (.c (.str [124, 124]))⟩]), .fa p151 1 q1, .ld p152 q151 .s, .cl p153 170 [q150, q152] .b, .mv p154 q153 .b, .ge p154 (XL.of [.G p154 true p155 (.mov q6) .b, .P p156 (.pick q154 q155 (cb false)) .b]) p156 .b] (.cond q156 (.sO [.L p157 (.cells 8 q1) .v, .ss 8 q2 q157, .mv p3 (ci 1) tI] (.s .ret)) (.s .skip)))
def v142_7 : List Pos := [p1, p2, p6, p8]
def c142_7 : XC := (.sO [.mv p148 q8 .b] (.cond q148 (.sO [.L p149 (.cells 8 q1) .v, .ss 8 q2 q149, .mv p3 (ci 1) tI] (.s .ret)) (.s .skip)))
def v142_5 : List Pos := [p1, p2, p4, p5, p6, p7]
def c142_5 : XC := (.seq (.seq (.oX [.al p105 (.bsl [(.str []), (.str []), (.str []), (.str [])] 4 [⟨0, 1, (.c (.str [60]))⟩, ⟨1, 1, (.c (.str [60, 61]))⟩, ⟨2, 1, (.c (.str [62]))⟩, ⟨3, 1, (.c (.str [62, 61]))⟩]), .fa p106 1 q1, .ld p107 q106 .s, .cl p108 170 [q105, q107] .b, .mv p109 q108 .b, .ge p109 (XL.of [.G p109 true p110 (.mov q7) .b, .P p111 (.pick q109 q110 (cb false)) .b]) p111 .b]) (.cond q111 (.seq (.oX [.L p112 (.cells 8 q1) .v, .ss 8 q2 q112, .mv p3 (ci 1) tI]) .ret) .skip)) (.sj v142_6 (.sO [.al p113 (.bsl [(.str []), (.str [])] 2 [⟨0, 1, (.c (.str [61, 61]))⟩, ⟨1, 1, (.c (.str [33, 61]))⟩]), .fa p114 1 q1, .ld p115 q114 .s, .cl p116 170 [q113, q115] .b] (.cond q116 (.sO [.mv p117 q7 .b, .mv p8 q117 .b] (.sj v142_7 (.sO [.mv p118 q4 tI, .cl p119 143 [q118] tI, .bn p120 .neq q119 (ci 0) .b] (.cond q120 (.s (.ops true (XL.of [.fa p122 5 q1, .ld p123 q122 .v, .fa p124 5 q1, .ld p125 q124 .v, .P p126 (.iaddr (.sl 8) q125 (ci 1)) .v, .L p127 (.cells 8 q126) .v, .mv p128 q4 tI, .o ⟨(some p129), (.call (.fn 118) [q127, q128]), none, [⟨none, .cell q122, p123⟩]⟩ .v, .mv p121 q129 .v, .P p130 (.ext q121 0) .v, .P p131 (.ext q121 1) .b, .P p132 (.iaddr (.sl 8) q123 (ci 1)) .v, .ss 8 q132 q130, .mv p8 q131 .b]))) (.sO [.mv p133 q5 tI, .cl p134 143 [q133] tI, .bn p135 .neq q134 (ci 0) .b] (.cond q135 (.s (.ops true (XL.of [.fa p137 5 q1, .ld p138 q137 .v, .fa p139 5 q1, .ld p140 q139 .v, .P p141 (.iaddr (.sl 8) q140 (ci 0)) .v, .L p142 (.cells 8 q141) .v, .mv p143 q5 tI, .o ⟨(some p144), (.call (.fn 118) [q142, q143]), none, [⟨none, .cell q137, p138⟩]⟩ .v, .mv p136 q144 .v, .P p145 (.ext q136 0) .v, .P p146 (.ext q136 1) .b, .P p147 (.iaddr (.sl 8) q138 (ci 0)) .v, .ss 8 q147 q145, .mv p8 q146 .b]))) (.s .skip))))) c142_7)) (.s .skip))) c142_6))
def c142_11 : XC := (.cond q102 (.sO [.L p103 (.cells 8 q1) .v, .mv p104 q4 tI, .ss 8 q2 q103, .mv p3 q104 tI] (.s .ret)) (.s .skip))
def l142_10 : XL := (XL.of [])
def l142_9 : XL := (XL.pre [.mv p94 q93 .b, .sp p94, .o ⟨(some p95), (.a (.bsl [(.str []), (.str [])] 2 [⟨0, 1, (.c (.str [42]))⟩, ⟨1, 1, (.c (.str [47]))⟩])), (some (p94, false)), []⟩ .v, .G p94 false p96 (.faddr 1 q1) .v, .o ⟨(some p97), (.l (.cell q96)), (some (p94, false)), []⟩ .s, .o ⟨(some p98), (.call (.fn 170) [q95, q97]), (some (p94, false)), []⟩ .b, .G p94 false p99 (.mov q98) .b, .ge p99 (XL.of [.G p99 true p100 (.mov q7) .b, .G p94 false p101 (.pick q99 q100 (cb false)) .b]) p101 .b, .P p102 (.pick q94 (cb true) q101) .b, .jn p94 [p1, p2, p4, p5, p6, p7, p102]] l142_10)
def l142_8 : XL := (XL.pre [.P p93 (.pick q82 q92 (cb false)) .b, .jn p82 [p1, p2, p4, p5, p6, p7, p93]] l142_9)
def c142_13 : XC := (.cond q179 (.sO [.L p180 (.cells 8 q1) .v, .mv p181 q4 tI, .ss 8 q2 q180, .mv p3 q181 tI] (.s .ret)) (.s .skip))
def l142_12 : XL := (XL.of [])
def v142_4 : List Pos := [p1, p2, p4, p5, p6, p7, p41, p42]
def c142_4 : XC := (.cond q42 (.seq (.ops true (XL.of [.L p45 (.cells 8 q1) .v, .fa p46 0 q1, .ld p47 q46 tI, .o ⟨none, (.e (.stores 8 q2 q45)), none, [⟨none, .cell q46, p47⟩]⟩ .v, .mv p3 q47 tI])) (.s .ret)) (.sO [.bn p49 .eql q41 (ci 4) .b, .mv p48 q49 .b] (.cond q48 (.sO [.fa p50 1 q1, .ld p51 q50 .s] (.block 1 (.sO [.bn p56 .eql q51 (.c (.str [45])) .b, .mv p55 q56 .b] (.cond q55 (.sO [.mv p57 q4 tI, .cl p58 84 [q57] .b] (.cond q58 (.sO [.L p59 (.cells 8 q1) .v, .mv p60 q4 tI, .ss 8 q2 q59, .mv p3 q60 tI] (.s .ret)) (.s .skip))) (.sO [.bn p62 .eql q51 (.c (.str [42])) .b, .mv p61 q62 .b] (.cond q61 (.seq (.ops true (XL.of [.L p63 (.cells 8 q1) .v, .mv p64 q4 tI, .o ⟨(some p65), (.call (.fn 143) [q64]), none, [⟨none, .cells 8 q1, p63⟩]⟩ tI, .ss 8 q2 q63, .mv p3 q65 tI])) (.s .ret)) (.sO [.bn p67 .eql q51 (.c (.str [38])) .b, .mv p66 q67 .b] (.cond q66 (.sO [.fa p68 5 q1, .ld p69 q68 .v, .P p70 (.iaddr (.sl 8) q69 (ci 0)) .v, .L p71 (.cells 8 q70) .v, .cl p72 169 [q71] .b] (.cond q72 (.seq (.ops true (XL.of [.L p73 (.cells 8 q1) .v, .mv p74 q4 tI, .o ⟨(some p75), (.call (.fn 141) [q74]), none, [⟨none, .cells 8 q1, p73⟩]⟩ tI, .ss 8 q2 q73, .mv p3 q75 tI])) (.s .ret)) (.s .skip))) (.sO [.mv p52 q4 tI, .bn p53 .eql q52 (ci 1) .b] (.cond q53 (.sO [.L p54 (.cells 8 q1) .v, .ss 8 q2 q54, .mv p3 (ci 1) tI] (.s .ret)) (.s .skip))))))))))) (.sO [.bn p77 .eql q41 (ci 5) .b, .mv p76 q77 .b] (.cond q76 (.sj v142_5 (.opq false (XL.pre [.al p78 (.bsl [(.str []), (.str [])] 2 [⟨0, 1, (.c (.str [43]))⟩, ⟨1, 1, (.c (.str [45]))⟩]), .fa p79 1 q1, .ld p80 q79 .s, .cl p81 170 [q78, q80] .b, .mv p82 q81 .b, .sp p82, .G p82 true p83 (.mov q7) .b, .G p82 true p84 (.mov q83) .b, .sp p84, .G p84 false p85 (.mov q4) tI, .o ⟨(some p86), (.call (.fn 143) [q85]), (some (p84, false)), []⟩ tI, .G p84 false p87 (.bin .neq q86 (ci 0)) .b, .G p84 false p88 (.mov q87) .b, .ge p88 (XL.of [.G p88 true p89 (.mov q5) tI, .G p88 true p90 (.bin .eql q89 (ci 1)) .b, .G p84 false p91 (.pick q88 q90 (cb false)) .b]) p91 .b, .G p82 true p92 (.pick q84 (cb true) q91) .b, .jn p84 [p1, p2, p4, p5, p6, p7, p82, p92]] l142_8) c142_11) c142_5) (.sO [.bn p159 .eql q41 (ci 6) .b, .mv p158 q159 .b] (.cond q158 (.seq (.ops true (XL.of [.fa p161 5 q1, .ld p162 q161 .v, .fa p163 5 q1, .ld p164 q163 .v, .P p165 (.iaddr (.sl 8) q164 (ci 1)) .v, .L p166 (.cells 8 q165) .v, .mv p167 q4 tI, .o ⟨(some p168), (.call (.fn 118) [q166, q167]), none, [⟨none, .cell q161, p162⟩]⟩ .v, .mv p160 q168 .v, .P p169 (.ext q160 0) .v, .P p170 (.ext q160 1) .b, .P p171 (.iaddr (.sl 8) q162 (ci 1)) .v, .ss 8 q171 q169, .mv p8 q170 .b])) (.opq false (XL.pre [.mv p172 q8 .b, .mv p173 q172 .b, .sp p173, .G p173 true p174 (.faddr 5 q1) .v, .o ⟨(some p175), (.l (.cell q174)), (some (p173, true)), []⟩ .v, .G p173 true p176 (.iaddr (.sl 8) q175 (ci 0)) .v, .o ⟨(some p177), (.l (.cells 8 q176)), (some (p173, true)), []⟩ .v, .o ⟨(some p178), (.call (.fn 169) [q177]), (some (p173, true)), []⟩ .b, .P p179 (.pick q173 q178 (cb false)) .b, .jn p173 [p1, p2, p4, p179]] l142_12) c142_13)) (.sO [.bn p183 .eql q41 (ci 8) .b, .mv p182 q183 .b] (.cond q182 (.sO [.mv p184 q5 tI, .bn p185 .eql q184 (ci 1) .b] (.cond q185 (.seq (.ops true (XL.of [.L p186 (.cells 8 q1) .v, .mv p187 q4 tI, .o ⟨(some p188), (.call (.fn 143) [q187]), none, [⟨none, .cells 8 q1, p186⟩]⟩ tI, .ss 8 q2 q186, .mv p3 q188 tI])) (.s .ret)) (.s .skip))) (.sO [.bn p190 .eql q41 (ci 9) .b, .mv p189 q190 .b] (.cond q189 (.sO [.mv p191 q4 tI, .cl p192 84 [q191] .b, .mv p193 q192 .b, .ge p193 (XL.of [.G p193 true p194 (.faddr 3 q1) .v, .o ⟨(some p195), (.l (.cell q194)), (some (p193, true)), []⟩ tW, .G p193 true p196 (.bin .eql q195 (.c (.int .u32 (.ofNat 1)))) .b, .G p193 true p197 (.mov q196) .b, .ge p197 (XL.of [.G p197 false p198 (.faddr 3 q1) .v, .o ⟨(some p199), (.l (.cell q198)), (some (p197, false)), []⟩ tW, .G p197 false p200 (.bin .eql q199 (.c (.int .u32 (.ofNat 2)))) .b, .G p193 true p201 (.pick q197 (cb true) q200) .b]) p201 .b, .P p202 (.pick q193 q201 (cb false)) .b]) p202 .b] (.cond q202 (.seq (.ops true (XL.of [.L p203 (.cells 8 q1) .v, .fa p204 3 q1, .ld p205 q204 tW, .P p206 (.conv (.ii .i64) q205) tI, .o ⟨none, (.e (.stores 8 q2 q203)), none, [⟨none, .cell q204, p205⟩]⟩ .v, .mv p3 q206 tI])) (.s .ret)) (.s .skip))) (.s .skip))))))))))))
def c142_14 : XC := (.sO [.mv p8 (cb false) .b] (.sj v142_3 (.sO [.fa p40 0 q1, .ld p41 q40 tI] (.block 0 (.sj v142_4 (.sO [.bn p43 .eql q41 (ci 1) .b, .mv p42 q43 .b] (.cond q42 (.s .skip) (.s (.oX [.bn p44 .eql q41 (ci 2) .b, .mv p42 q44 .b])))) c142_4))) c142_3))
def l142_2 : XL := (XL.of [.mv p6 q32 .b, .mv p7 q39 .b])
def v142_1 : List Pos := [p1, p2, p4, p5]
def c142_1 : XC := (.opq false (XL.pre [.mv p27 q4 tI, .bn p28 .eql q27 (ci 1) .b, .mv p29 q28 .b, .ge p29 (XL.of [.G p29 true p30 (.mov q5) tI, .G p29 true p31 (.bin .eql q30 (ci 1)) .b, .P p32 (.pick q29 q31 (cb false)) .b]) p32 .b, .mv p33 q4 tI, .mv p34 q5 tI, .bn p35 .eql q33 q34 .b, .mv p36 q35 .b, .sp p36, .G p36 true p37 (.mov q4) tI, .o ⟨(some p38), (.call (.fn 84) [q37]), (some (p36, true)), []⟩ .b, .P p39 (.pick q36 q38 (cb false)) .b, .jn p36 [p1, p2, p4, p5, p32, p39]] l142_2) c142_14)
def v142_0 : List Pos := [p1, p2, p4, p5]
def c142_0 : XC := (.sj v142_1 (.sO [.fa p18 5 q1, .ld p19 q18 .v, .P p20 (.lenl q19) tI, .bn p21 .gtr q20 (ci 1) .b] (.cond q21 (.s (.oX [.fa p22 5 q1, .ld p23 q22 .v, .P p24 (.iaddr (.sl 8) q23 (ci 1)) .v, .fa p25 6 q24, .ld p26 q25 tI, .mv p5 q26 tI])) (.s .skip))) c142_1)
def c142_e : XC := (.sO [.al p1 (.box q0), .al p2 (.new [(kI 0), (.str []), (.str []), (.int .u32 (.ofNat 0)), (.int .u64 (.ofNat 0)), .nils, (kI 0), (kI 0)]), .mv p3 (ci 0) tI] (.sO [.mv p4 (ci 0) tI, .mv p5 (ci 0) tI] (.sj v142_0 (.sO [.fa p9 5 q1, .ld p10 q9 .v, .P p11 (.lenl q10) tI, .bn p12 .gtr q11 (ci 0) .b] (.cond q12 (.s (.oX [.fa p13 5 q1, .ld p14 q13 .v, .P p15 (.iaddr (.sl 8) q14 (ci 0)) .v, .fa p16 6 q15, .ld p17 q16 tI, .mv p4 q17 tI])) (.s .skip))) c142_0)))
def x142 : XFn := ⟨[.v], false, [(.cells 8 p2), (.tmp p3)], c142_e⟩
def e142_3 (k t1 t2 h) := kN k [(p1, t1), (p2, t2)] h
def S142_3 (D : CallD) (m : Nat) (t1 t2 : AV) (h : HP) : Res2 :=
 cellsC 8 t1 h fun t207 =>
 stsC 8 t2 t207 h fun h19 =>
 cellsC 8 t2 h19 fun t2a =>
 some (.ret (.tup [t2a, (kI 0)]) h19, .no)
def e142_6 (k t1 t2 t6 h) := kN k [(p1, t1), (p2, t2), (p6, (vB t6))] h
def S142_6 (D : CallD) (m : Nat) (t1 t2 : AV) (t6 : Bool) (h : HP) : Res2 :=
 let t150 := AV.slice (HP.nxQ h) 0 8 (.exact 8)
 let h32 := nQ h [(vS ([37] : LN)), (vS ([60, 60] : LN)), (vS ([62, 62] : LN)), (vS ([38] : LN)), (vS ([94] : LN)), (vS ([124] : LN)), (vS ([38, 38] : LN)), (vS ([124, 124] : LN))]
 faC 1 t1 fun t151 =>
 ldS t151 h32 fun t152 =>
 cal D 170 [t150, (vS t152)] h32 fun t153 h33 =>
 asB t153 fun t153a =>
 obB (brV t153a (
 some (vB t6)) (
 some (vB false))) fun t156 =>
 br t156 (
 cellsC 8 t1 h33 fun t157 =>
 stsC 8 t2 t157 h33 fun h34 =>
 cellsC 8 t2 h34 fun t2a =>
 some (.ret (.tup [t2a, (kI 1)]) h34, .no)) (
 S142_3 D m t1 t2 h33)
def e142_7 (k t1 t2 t6 t8 h) := kN k [(p1, t1), (p2, t2), (p6, (vB t6)), (p8, (vB t8))] h
def S142_7 (D : CallD) (m : Nat) (t1 t2 : AV) (t6 t8 : Bool) (h : HP) : Res2 :=
 br t8 (
 cellsC 8 t1 h fun t149 =>
 stsC 8 t2 t149 h fun h37 =>
 cellsC 8 t2 h37 fun t2a =>
 some (.ret (.tup [t2a, (kI 1)]) h37, .no)) (
 S142_6 D m t1 t2 t6 h)
def e142_5 (k t1 t2 t4 t5 t6 t7 h) := kN k [(p1, t1), (p2, t2), (p4, (vI t4)), (p5, (vI t5)), (p6, (vB t6)), (p7, (vB t7))] h
def S142_5 (D : CallD) (m : Nat) (t1 t2 : AV) (t4 t5 : Int) (t6 t7 : Bool) (h : HP) : Res2 :=
 let t105 := AV.slice (HP.nxQ h) 0 4 (.exact 4)
 let h29 := nQ h [(vS ([60] : LN)), (vS ([60, 61] : LN)), (vS ([62] : LN)), (vS ([62, 61] : LN))]
 faC 1 t1 fun t106 =>
 ldS t106 h29 fun t107 =>
 cal D 170 [t105, (vS t107)] h29 fun t108 h30 =>
 asB t108 fun t108a =>
 obB (brV t108a (
 some (vB t7)) (
 some (vB false))) fun t111 =>
 br t111 (
 cellsC 8 t1 h30 fun t112 =>
 stsC 8 t2 t112 h30 fun h31 =>
 cellsC 8 t2 h31 fun t2a =>
 some (.ret (.tup [t2a, (kI 1)]) h31, .no)) (
 let t113 := AV.slice (HP.nxQ h30) 0 2 (.exact 2)
 let h35 := nQ h30 [(vS ([61, 61] : LN)), (vS ([33, 61] : LN))]
 faC 1 t1 fun t114 =>
 ldS t114 h35 fun t115 =>
 cal D 170 [t113, (vS t115)] h35 fun t116 h36 =>
 asB t116 fun t116a =>
 br t116a (
 cal D 143 [(vI t4)] h36 fun t119 h38 =>
 asI .i64 t119 fun t119a =>
 let t120 := notQ (eqQ t119a (Int.ofNat 0))
 br t120 (
 faC 5 t1 fun t122 =>
 cellC t122 h38 fun t123 =>
 faC 5 t1 fun t124 =>
 cellC t124 h38 fun t125 =>
 iasC 8 t125 (kI 1) fun t126 =>
 cellsC 8 t126 h38 fun t127 =>
 cal D 118 [t127, (vI t4)] h38 fun t129 h39 =>
 br (again [⟨none, .cell q122, p123⟩] (mkT [(p123, t123), (p122, t122)]) h39) (
 extC t129 0 fun t130 =>
 extC t129 1 fun vt131 => asB vt131 fun t131 =>
 iasC 8 t123 (kI 1) fun t132 =>
 stsC 8 t132 t130 h39 fun h40 =>
 S142_7 D m t1 t2 t6 t131 h40) none) (
 cal D 143 [(vI t5)] h38 fun t134 h41 =>
 asI .i64 t134 fun t134a =>
 let t135 := notQ (eqQ t134a (Int.ofNat 0))
 br t135 (
 faC 5 t1 fun t137 =>
 cellC t137 h41 fun t138 =>
 faC 5 t1 fun t139 =>
 cellC t139 h41 fun t140 =>
 iasC 8 t140 (kI 0) fun t141 =>
 cellsC 8 t141 h41 fun t142 =>
 cal D 118 [t142, (vI t5)] h41 fun t144 h42 =>
 br (again [⟨none, .cell q137, p138⟩] (mkT [(p138, t138), (p137, t137)]) h42) (
 extC t144 0 fun t145 =>
 extC t144 1 fun vt146 => asB vt146 fun t146 =>
 iasC 8 t138 (kI 0) fun t147 =>
 stsC 8 t147 t145 h42 fun h43 =>
 S142_7 D m t1 t2 t6 t146 h43) none) (
 S142_7 D m t1 t2 t6 t7 h41))) (
 S142_6 D m t1 t2 t6 h36))
def e142_10 (k t1 t2 t4 t5 t6 t7 t102 h) := kN k [(p1, t1), (p2, t2), (p4, (vI t4)), (p5, (vI t5)), (p6, (vB t6)), (p7, (vB t7)), (p102, (vB t102))] h
def S142_10 (D : CallD) (m : Nat) (t1 t2 : AV) (t4 t5 : Int) (t6 t7 t102 : Bool) (h : HP) : Res2 :=
 br t102 (
 cellsC 8 t1 h fun t103 =>
 stsC 8 t2 t103 h fun h46 =>
 cellsC 8 t2 h46 fun t2a =>
 some (.ret (.tup [t2a, (vI t4)]) h46, .no)) (
 S142_5 D m t1 t2 t4 t5 t6 t7 h)
def e142_9 (k t1 t2 t4 t5 t6 t7 t93 h) := kN k [(p1, t1), (p2, t2), (p4, (vI t4)), (p5, (vI t5)), (p6, (vB t6)), (p7, (vB t7)), (p93, (vB t93))] h
def S142_9 (D : CallD) (m : Nat) (t1 t2 : AV) (t4 t5 : Int) (t6 t7 t93 : Bool) (h : HP) : Res2 :=
 br t93 (
 S142_10 D m t1 t2 t4 t5 t6 t7 true h) (
 let t95 := AV.slice (HP.nxQ h) 0 2 (.exact 2)
 let h47 := nQ h [(vS ([42] : LN)), (vS ([47] : LN))]
 faC 1 t1 fun t96 =>
 ldS t96 h47 fun t97 =>
 cal D 170 [t95, (vS t97)] h47 fun t98 h48 =>
 asB t98 fun t98a =>
 obB (brV t98a (
 some (vB t7)) (
 some (vB false))) fun t101 =>
 S142_10 D m t1 t2 t4 t5 t6 t7 t101 h48)
def e142_8 (k t1 t2 t4 t5 t6 t7 t82 t92 h) := kN k [(p1, t1), (p2, t2), (p4, (vI t4)), (p5, (vI t5)), (p6, (vB t6)), (p7, (vB t7)), (p82, (vB t82)), (p92, (vB t92))] h
def S142_8 (D : CallD) (m : Nat) (t1 t2 : AV) (t4 t5 : Int) (t6 t7 t82 t92 : Bool) (h : HP) : Res2 :=
 obB (brV t82 (some (vB t92)) (some (vB false))) fun t93 =>
 S142_9 D m t1 t2 t4 t5 t6 t7 t93 h
def e142_12 (k t1 t2 t4 t179 h) := kN k [(p1, t1), (p2, t2), (p4, (vI t4)), (p179, (vB t179))] h
def S142_12 (D : CallD) (m : Nat) (t1 t2 : AV) (t4 : Int) (t179 : Bool) (h : HP) : Res2 :=
 br t179 (
 cellsC 8 t1 h fun t180 =>
 stsC 8 t2 t180 h fun h53 =>
 cellsC 8 t2 h53 fun t2a =>
 some (.ret (.tup [t2a, (vI t4)]) h53, .no)) (
 S142_3 D m t1 t2 h)
def e142_4 (k t1 t2 t4 t5 t6 t7 t41 t42 h) := kN k [(p1, t1), (p2, t2), (p4, (vI t4)), (p5, (vI t5)), (p6, (vB t6)), (p7, (vB t7)), (p41, (vI t41)), (p42, (vB t42))] h
def S142_4 (D : CallD) (m : Nat) (t1 t2 : AV) (t4 t5 : Int) (t6 t7 : Bool) (t41 : Int) (t42 : Bool) (h : HP) : Res2 :=
 br t42 (
 cellsC 8 t1 h fun t45 =>
 faC 0 t1 fun t46 =>
 ldI t46 h fun t47 =>
 stsC 8 t2 t45 h fun h20 =>
 br (againE (.stores 8 q2 q45) [⟨none, .cell q46, p47⟩] (mkT [(p2, t2), (p47, (vI t47)), (p46, t46)]) h20) (
 cellsC 8 t2 h20 fun t2a =>
 some (.ret (.tup [t2a, (vI t47)]) h20, .no)) none) (
 let t49 := eqQ t41 (Int.ofNat 4)
 br t49 (
 faC 1 t1 fun t50 =>
 ldS t50 h fun t51 =>
 let t56 := eqL t51 ([45] : LN)
 br t56 (
 cal D 84 [(vI t4)] h fun t58 h21 =>
 asB t58 fun t58a =>
 br t58a (
 cellsC 8 t1 h21 fun t59 =>
 stsC 8 t2 t59 h21 fun h22 =>
 cellsC 8 t2 h22 fun t2a =>
 some (.ret (.tup [t2a, (vI t4)]) h22, .no)) (
 S142_3 D m t1 t2 h21)) (
 let t62 := eqL t51 ([42] : LN)
 br t62 (
 cellsC 8 t1 h fun t63 =>
 cal D 143 [(vI t4)] h fun t65 h23 =>
 br (again [⟨none, .cells 8 q1, p63⟩] (mkT [(p63, t63), (p1, t1)]) h23) (
 asI .i64 t65 fun t65a =>
 stsC 8 t2 t63 h23 fun h24 =>
 cellsC 8 t2 h24 fun t2a =>
 some (.ret (.tup [t2a, (vI t65a)]) h24, .no)) none) (
 let t67 := eqL t51 ([38] : LN)
 br t67 (
 faC 5 t1 fun t68 =>
 cellC t68 h fun t69 =>
 iasC 8 t69 (kI 0) fun t70 =>
 cellsC 8 t70 h fun t71 =>
 cal D 169 [t71] h fun t72 h25 =>
 asB t72 fun t72a =>
 br t72a (
 cellsC 8 t1 h25 fun t73 =>
 cal D 141 [(vI t4)] h25 fun t75 h26 =>
 br (again [⟨none, .cells 8 q1, p73⟩] (mkT [(p73, t73), (p1, t1)]) h26) (
 asI .i64 t75 fun t75a =>
 stsC 8 t2 t73 h26 fun h27 =>
 cellsC 8 t2 h27 fun t2a =>
 some (.ret (.tup [t2a, (vI t75a)]) h27, .no)) none) (
 S142_3 D m t1 t2 h25)) (
 let t53 := eqQ t4 (Int.ofNat 1)
 br t53 (
 cellsC 8 t1 h fun t54 =>
 stsC 8 t2 t54 h fun h28 =>
 cellsC 8 t2 h28 fun t2a =>
 some (.ret (.tup [t2a, (kI 1)]) h28, .no)) (
 S142_3 D m t1 t2 h))))) (
 let t77 := eqQ t41 (Int.ofNat 5)
 br t77 (
 let t78 := AV.slice (HP.nxQ h) 0 2 (.exact 2)
 let h44 := nQ h [(vS ([43] : LN)), (vS ([45] : LN))]
 faC 1 t1 fun t79 =>
 ldS t79 h44 fun t80 =>
 cal D 170 [t78, (vS t80)] h44 fun t81 h45 =>
 asB t81 fun t81a =>
 br t81a (
 br t7 (
 S142_8 D m t1 t2 t4 t5 t6 t7 true true h45) (
 cal D 143 [(vI t4)] h45 fun t86 h49 =>
 asI .i64 t86 fun t86a =>
 let t87 := notQ (eqQ t86a (Int.ofNat 0))
 obB (brV t87 (
 let t90 := eqQ t5 (Int.ofNat 1)
 some (vB t90)) (
 some (vB false))) fun t91 =>
 S142_8 D m t1 t2 t4 t5 t6 t7 true t91 h49)) (
 S142_9 D m t1 t2 t4 t5 t6 t7 false h45)) (
 let t159 := eqQ t41 (Int.ofNat 6)
 br t159 (
 faC 5 t1 fun t161 =>
 cellC t161 h fun t162 =>
 faC 5 t1 fun t163 =>
 cellC t163 h fun t164 =>
 iasC 8 t164 (kI 1) fun t165 =>
 cellsC 8 t165 h fun t166 =>
 cal D 118 [t166, (vI t4)] h fun t168 h50 =>
 br (again [⟨none, .cell q161, p162⟩] (mkT [(p162, t162), (p161, t161)]) h50) (
 extC t168 0 fun t169 =>
 extC t168 1 fun vt170 => asB vt170 fun t170 =>
 iasC 8 t162 (kI 1) fun t171 =>
 stsC 8 t171 t169 h50 fun h51 =>
 br t170 (
 faC 5 t1 fun t174 =>
 cellC t174 h51 fun t175 =>
 iasC 8 t175 (kI 0) fun t176 =>
 cellsC 8 t176 h51 fun t177 =>
 cal D 169 [t177] h51 fun t178 h52 =>
 asB t178 fun t178a =>
 S142_12 D m t1 t2 t4 t178a h52) (
 S142_12 D m t1 t2 t4 false h51)) none) (
 let t183 := eqQ t41 (Int.ofNat 8)
 br t183 (
 let t185 := eqQ t5 (Int.ofNat 1)
 br t185 (
 cellsC 8 t1 h fun t186 =>
 cal D 143 [(vI t4)] h fun t188 h54 =>
 br (again [⟨none, .cells 8 q1, p186⟩] (mkT [(p186, t186), (p1, t1)]) h54) (
 asI .i64 t188 fun t188a =>
 stsC 8 t2 t186 h54 fun h55 =>
 cellsC 8 t2 h55 fun t2a =>
 some (.ret (.tup [t2a, (vI t188a)]) h55, .no)) none) (
 S142_3 D m t1 t2 h)) (
 let t190 := eqQ t41 (Int.ofNat 9)
 br t190 (
 cal D 84 [(vI t4)] h fun t192 h56 =>
 asB t192 fun t192a =>
 obB (brV t192a (
 faCV 3 t1 fun t194 =>
 ldWV t194 h56 fun t195 =>
 binCV .eql (vW t195) (vW (Int.ofNat 1)) fun vt196 => asBV vt196 fun t196 =>
 obBV (brV t196 (
 some (vB true)) (
 faCV 3 t1 fun t198 =>
 ldWV t198 h56 fun t199 =>
 binCV .eql (vW t199) (vW (Int.ofNat 2)) fun vt200 => asBV vt200 fun t200 =>
 some (vB t200))) fun t201 =>
 some (vB t201)) (
 some (vB false))) fun t202 =>
 br t202 (
 cellsC 8 t1 h56 fun t203 =>
 faC 3 t1 fun t204 =>
 ldW t204 h56 fun t205 =>
 obI .i64 (convV (.ii .i64) (vW t205)) fun t206 =>
 stsC 8 t2 t203 h56 fun h57 =>
 br (againE (.stores 8 q2 q203) [⟨none, .cell q204, p205⟩] (mkT [(p2, t2), (p205, (vW t205)), (p204, t204)]) h57) (
 cellsC 8 t2 h57 fun t2a =>
 some (.ret (.tup [t2a, (vI t206)]) h57, .no)) none) (
 S142_3 D m t1 t2 h56)) (
 S142_3 D m t1 t2 h))))))
def e142_2 (k t1 t2 t4 t5 t32 t39 h) := kN k [(p1, t1), (p2, t2), (p4, (vI t4)), (p5, (vI t5)), (p32, (vB t32)), (p39, (vB t39))] h
def S142_2 (D : CallD) (m : Nat) (t1 t2 : AV) (t4 t5 : Int) (t32 t39 : Bool) (h : HP) : Res2 :=
 faC 0 t1 fun t40 =>
 ldI t40 h fun t41 =>
 let t43 := eqQ t41 (Int.ofNat 1)
 br t43 (
 S142_4 D m t1 t2 t4 t5 t32 t39 t41 t43 h) (
 let t44 := eqQ t41 (Int.ofNat 2)
 S142_4 D m t1 t2 t4 t5 t32 t39 t41 t44 h)
def e142_1 (k t1 t2 t4 t5 h) := kN k [(p1, t1), (p2, t2), (p4, (vI t4)), (p5, (vI t5))] h
def S142_1 (D : CallD) (m : Nat) (t1 t2 : AV) (t4 t5 : Int) (h : HP) : Res2 :=
 let t28 := eqQ t4 (Int.ofNat 1)
 obB (brV t28 (
 let t31 := eqQ t5 (Int.ofNat 1)
 some (vB t31)) (
 some (vB false))) fun t32 =>
 let t35 := eqQ t4 t5
 br t35 (
 cal D 84 [(vI t4)] h fun t38 h18 =>
 asB t38 fun t38a =>
 S142_2 D m t1 t2 t4 t5 t32 t38a h18) (
 S142_2 D m t1 t2 t4 t5 t32 false h)
def e142_0 (k t1 t2 t4 t5 h) := kN k [(p1, t1), (p2, t2), (p4, (vI t4)), (p5, (vI t5))] h
def S142_0 (D : CallD) (m : Nat) (t1 t2 : AV) (t4 t5 : Int) (h : HP) : Res2 :=
 faC 5 t1 fun t18 =>
 cellC t18 h fun t19 =>
 lenC t19 fun vt20 => asI .i64 vt20 fun t20 =>
 let t21 := ltQ (Int.ofNat 1) t20
 br t21 (
 faC 5 t1 fun t22 =>
 cellC t22 h fun t23 =>
 iasC 8 t23 (kI 1) fun t24 =>
 faC 6 t24 fun t25 =>
 ldI t25 h fun t26 =>
 S142_1 D m t1 t2 t4 t26 h) (
 S142_1 D m t1 t2 t4 t5 h)
def e142_15 (k t0 h) := kN k [(p0, t0)] h
def S142_15 (D : CallD) (m : Nat) (t0 : AV) (h : HP) : Res2 :=
 let t1 := P0 h
 let h16 := HP.newQ h (.cells true (AV.cells t0))
 let t2 := P0 h16
 let h17 := nQ h16 [(kI 0), (.str []), (.str []), (.int .u32 (.ofNat 0)), (.int .u64 (.ofNat 0)), .nils, (kI 0), (kI 0)]
 let t9 := (AV.ptr (HP.nxQ h) (Nat.add 0 5))
 cellC t9 h17 fun t10 =>
 lenC t10 fun vt11 => asI .i64 vt11 fun t11 =>
 let t12 := ltQ (Int.ofNat 0) t11
 br t12 (
 let t13 := (AV.ptr (HP.nxQ h) (Nat.add 0 5))
 cellC t13 h17 fun t14 =>
 iasC 8 t14 (kI 0) fun t15 =>
 faC 6 t15 fun t16 =>
 ldI t16 h17 fun t17 =>
 S142_0 D m t1 t2 t17 (Int.ofNat 0) h17) (
 S142_0 D m t1 t2 (Int.ofNat 0) (Int.ofNat 0) h17)
def S142 : SFn := fun D m args h u => nou u <| popV args fun t0 args => endA args (S142_15 D m t0 h)
theorem T142_3 (hE : FX x142 D m E) : S142_3 D m = e142_3 (E c142_3 []) := by unfold S142_3; rw [hE c142_3]; kernel_rfl
theorem T142_6 (hE : FX x142 D m E) : S142_6 D m = e142_6 (E c142_6 [.blk 0, .sj v142_3 c142_3]) := by unfold S142_6; rw [T142_3 hE, hE c142_6]; kernel_rfl
theorem T142_7 (hE : FX x142 D m E) : S142_7 D m = e142_7 (E c142_7 [.sj v142_6 c142_6, .blk 0, .sj v142_3 c142_3]) := by unfold S142_7; rw [T142_6 hE, hE c142_7]; kernel_rfl
theorem T142_5 (hE : FX x142 D m E) : S142_5 D m = e142_5 (E c142_5 [.blk 0, .sj v142_3 c142_3]) := by unfold S142_5; rw [T142_7 hE, T142_6 hE, hE c142_5]; kernel_rfl
theorem T142_10 (hE : FX x142 D m E) : S142_10 D m = e142_10 (E (.opq false l142_10 c142_11) [.sj v142_5 c142_5, .blk 0, .sj v142_3 c142_3]) := by unfold S142_10; rw [T142_5 hE, hE (.opq false l142_10 c142_11)]; kernel_rfl
theorem T142_9 (hE : FX x142 D m E) : S142_9 D m = e142_9 (E (.opq false l142_9 c142_11) [.sj v142_5 c142_5, .blk 0, .sj v142_3 c142_3]) := by unfold S142_9; rw [T142_10 hE, hE (.opq false l142_9 c142_11)]; kernel_rfl
theorem T142_8 (hE : FX x142 D m E) : S142_8 D m = e142_8 (E (.opq false l142_8 c142_11) [.sj v142_5 c142_5, .blk 0, .sj v142_3 c142_3]) := by unfold S142_8; rw [T142_9 hE, hE (.opq false l142_8 c142_11)]; kernel_rfl
theorem T142_12 (hE : FX x142 D m E) : S142_12 D m = e142_12 (E (.opq false l142_12 c142_13) [.blk 0, .sj v142_3 c142_3]) := by unfold S142_12; rw [T142_3 hE, hE (.opq false l142_12 c142_13)]; kernel_rfl
theorem T142_4 (hE : FX x142 D m E) : S142_4 D m = e142_4 (E c142_4 [.blk 0, .sj v142_3 c142_3]) := by unfold S142_4; rw [T142_3 hE, T142_8 hE, T142_9 hE, T142_12 hE, hE c142_4]; kernel_rfl
theorem T142_2 (hE : FX x142 D m E) : S142_2 D m = e142_2 (E (.opq false l142_2 c142_14) []) := by unfold S142_2; rw [T142_4 hE, hE (.opq false l142_2 c142_14)]; kernel_rfl
theorem T142_1 (hE : FX x142 D m E) : S142_1 D m = e142_1 (E c142_1 []) := by unfold S142_1; rw [T142_2 hE, hE c142_1]; kernel_rfl
theorem T142_0 (hE : FX x142 D m E) : S142_0 D m = e142_0 (E c142_0 []) := by unfold S142_0; rw [T142_1 hE, hE c142_0]; kernel_rfl
theorem T142_15 (hE : FX x142 D m E) : S142_15 D m = e142_15 (E c142_e []) := by unfold S142_15; rw [T142_0 hE, hE c142_e]; kernel_rfl
theorem X142 : XTie S142 x142 := X_of fun D m E hE args h u => by unfold S142; rw [T142_15 hE]; kernel_rfl
/- 143 -/
def c143_e : XC := (.sO [.mv p2 (ci 0) tI] (.seq (.seq (.oX [.mv p3 q0 tI, .bn p4 .eql q3 (ci 3) .b, .mv p5 q4 .b, .ge p5 (XL.of [.G p5 false p6 (.mov q0) tI, .G p5 false p7 (.bin .eql q6 (ci 4)) .b, .P p8 (.pick q5 (cb true) q7) .b]) p8 .b]) (.cond q8 (.seq (.oX [.mv p9 q0 tI, .bn p10 .sub q9 (ci 2) tI, .mv p2 q10 tI]) .ret) .skip)) (.sO [.mv p2 (ci 0) tI] (.s .ret))))
def x143 : XFn := ⟨[tI], false, [(.tmp p2)], c143_e⟩
def e143_0 (k t0 h) := kN k [(p0, (vI t0))] h
def S143_0 (D : CallD) (m : Nat) (t0 : Int) (h : HP) : Res2 :=
 let t4 := eqQ t0 (Int.ofNat 3)
 obB (brV t4 (
 some (vB true)) (
 let t7 := eqQ t0 (Int.ofNat 4)
 some (vB t7))) fun t8 =>
 br t8 (
 let t10 := wrQ .i64 (t0 - (Int.ofNat 2))
 some (.ret (vI t10) h, .no)) (
 some (.ret (kI 0) h, .no))
def S143 : SFn := fun D m args h u => nou u <| popI .i64 args fun t0 args => endA args (S143_0 D m t0 h)
theorem T143_0 (hE : FX x143 D m E) : S143_0 D m = e143_0 (E c143_e []) := by unfold S143_0; rw [hE c143_e]; kernel_rfl
theorem X143 : XTie S143 x143 := X_of fun D m E hE args h u => by unfold S143; rw [T143_0 hE]; kernel_rfl
/- 151 -/
def c151_e : XC := (.sO [.mv p4 (.c (.int .u64 (.ofNat 0))) (.i .u64), .mv p5 (.c (.int .u64 (.ofNat 0))) (.i .u64)] (.sO [.mv p14 q0 (.i .u64), .bn p15 .and q14 (.c (.int .u64 (.ofNat 4294967295))) (.i .u64), .mv p6 q15 (.i .u64)] (.sO [.mv p16 q0 (.i .u64), .bn p17 .shr q16 (.c (.int .u64 (.ofNat 32))) (.i .u64), .mv p7 q17 (.i .u64)] (.sO [.mv p18 q1 (.i .u64), .bn p19 .and q18 (.c (.int .u64 (.ofNat 4294967295))) (.i .u64), .mv p8 q19 (.i .u64)] (.sO [.mv p20 q1 (.i .u64), .bn p21 .shr q20 (.c (.int .u64 (.ofNat 32))) (.i .u64), .mv p9 q21 (.i .u64)] (.sO [.mv p22 q6 (.i .u64), .mv p23 q8 (.i .u64), .bn p24 .mul q22 q23 (.i .u64), .mv p10 q24 (.i .u64)] (.sO [.mv p25 q7 (.i .u64), .mv p26 q8 (.i .u64), .bn p27 .mul q25 q26 (.i .u64), .mv p28 q10 (.i .u64), .bn p29 .shr q28 (.c (.int .u64 (.ofNat 32))) (.i .u64), .bn p30 .add q27 q29 (.i .u64), .mv p11 q30 (.i .u64)] (.sO [.mv p31 q11 (.i .u64), .bn p32 .and q31 (.c (.int .u64 (.ofNat 4294967295))) (.i .u64), .mv p12 q32 (.i .u64)] (.sO [.mv p33 q11 (.i .u64), .bn p34 .shr q33 (.c (.int .u64 (.ofNat 32))) (.i .u64), .mv p13 q34 (.i .u64)] (.sO [.mv p35 q12 (.i .u64), .mv p36 q6 (.i .u64), .mv p37 q9 (.i .u64), .bn p38 .mul q36 q37 (.i .u64), .bn p39 .add q35 q38 (.i .u64), .mv p12 q39 (.i .u64)] (.sO [.mv p40 q7 (.i .u64), .mv p41 q9 (.i .u64), .bn p42 .mul q40 q41 (.i .u64), .mv p43 q13 (.i .u64), .bn p44 .add q42 q43 (.i .u64), .mv p45 q12 (.i .u64), .bn p46 .shr q45 (.c (.int .u64 (.ofNat 32))) (.i .u64), .bn p47 .add q44 q46 (.i .u64), .mv p4 q47 (.i .u64)] (.sO [.mv p48 q0 (.i .u64), .mv p49 q1 (.i .u64), .bn p50 .mul q48 q49 (.i .u64), .mv p5 q50 (.i .u64)] (.s .ret)))))))))))))
def x151 : XFn := ⟨[(.i .u64), (.i .u64)], false, [(.tmp p4), (.tmp p5)], c151_e⟩
def e151_0 (k t0 t1 h) := kN k [(p0, (AV.int .u64 t0)), (p1, (AV.int .u64 t1))] h
def S151_0 (D : CallD) (m : Nat) (t0 t1 : Int) (h : HP) : Res2 :=
 obI .u64 (intBin .and .u64 t0 (Int.ofNat 4294967295)) fun t15 =>
 let t17 := shrF .u64 t0 32
 obI .u64 (intBin .and .u64 t1 (Int.ofNat 4294967295)) fun t19 =>
 let t21 := shrF .u64 t1 32
 let t24 := wrQ .u64 (t15 * t19)
 let t27 := wrQ .u64 (t17 * t19)
 let t29 := shrF .u64 t24 32
 let t30 := wrQ .u64 (addQ t27 t29)
 obI .u64 (intBin .and .u64 t30 (Int.ofNat 4294967295)) fun t32 =>
 let t34 := shrF .u64 t30 32
 let t38 := wrQ .u64 (t15 * t21)
 let t39 := wrQ .u64 (addQ t32 t38)
 let t42 := wrQ .u64 (t17 * t21)
 let t44 := wrQ .u64 (addQ t42 t34)
 let t46 := shrF .u64 t39 32
 let t47 := wrQ .u64 (addQ t44 t46)
 let t50 := wrQ .u64 (t0 * t1)
 some (.ret (.tup [(AV.int .u64 t47), (AV.int .u64 t50)]) h, .no)
def S151 : SFn := fun D m args h u => nou u <| popI .u64 args fun t0 args => popI .u64 args fun t1 args => endA args (S151_0 D m t0 t1 h)
theorem T151_0 (hE : FX x151 D m E) : S151_0 D m = e151_0 (E c151_e []) := by unfold S151_0; rw [hE c151_e]; kernel_rfl
theorem X151 : XTie S151 x151 := X_of fun D m E hE args h u => by unfold S151; rw [T151_0 hE]; kernel_rfl
/- 155 -/
def c155_e : XC := (.sO [.al p6 (.new [(kI 0), (.int .u32 (.ofNat 0)), (.int .u64 (.ofNat 0)), (.str []), (kI 0)]), .mv p7 (ci 0) tI] (.seq (.seq (.oX [.mv p13 q0 .s, .cl p14 178 [q13] tI, .mv p8 q14 tI]) (.seq (.oX [.mv p15 q8 tI, .bn p16 .neq q15 (ci 0) .b]) (.cond q16 (.seq (.oX [.mv p18 q8 tI, .mv p19 q1 tW, .mv p20 q2 tW, .cl p21 179 [q18, q19, q20] .v, .mv p17 q21 .v, .P p22 (.ext q17 0) tW, .P p23 (.ext q17 1) tI, .mv p9 q22 tW, .mv p10 q23 tI]) (.seq (.oX [.mv p24 q9 tW, .P p25 (.build [(kI 0), (.int .u32 (.ofNat 0)), (.int .u64 (.ofNat 0)), (.str []), (kI 0)] [⟨0, 1, (ci 1)⟩, ⟨1, 1, q24⟩]) .v, .mv p26 q10 tI, .ss 5 q6 q25, .mv p7 q26 tI]) .ret)) .skip))) (.sO [.mv p27 q1 tW, .cl p28 157 [q27] tI, .mv p29 q2 tW, .cl p30 157 [q29] tI, .mv p11 q28 tI, .mv p12 q30 tI] (.seq (.seq (.oX [.mv p31 q0 .s]) (.block 0 (.seq (.oX [.bn p33 .eql q31 (.c (.str [61, 61])) .b, .mv p32 q33 .b]) (.cond q32 (.seq (.oX [.mv p34 q11 tI, .mv p35 q12 tI, .bn p36 .eql q34 q35 .b, .cl p37 156 [q36] .v, .ss 5 q6 q37, .mv p7 (ci 0) tI]) .ret) (.seq (.oX [.bn p39 .eql q31 (.c (.str [33, 61])) .b, .mv p38 q39 .b]) (.cond q38 (.seq (.oX [.mv p40 q11 tI, .mv p41 q12 tI, .bn p42 .neq q40 q41 .b, .cl p43 156 [q42] .v, .ss 5 q6 q43, .mv p7 (ci 0) tI]) .ret) (.seq (.oX [.bn p45 .eql q31 (.c (.str [60])) .b, .mv p44 q45 .b]) (.cond q44 (.seq (.oX [.mv p46 q11 tI, .mv p47 q12 tI, .bn p48 .lss q46 q47 .b, .cl p49 156 [q48] .v, .ss 5 q6 q49, .mv p7 (ci 0) tI]) .ret) (.seq (.oX [.bn p51 .eql q31 (.c (.str [60, 61])) .b, .mv p50 q51 .b]) (.cond q50 (.seq (.oX [.mv p52 q11 tI, .mv p53 q12 tI, .bn p54 .leq q52 q53 .b, .cl p55 156 [q54] .v, .ss 5 q6 q55, .mv p7 (ci 0) tI]) .ret) (.seq (.oX [.bn p57 .eql q31 (.c (.str [62])) .b, .mv p56 q57 .b]) (.cond q56 (.seq (.oX [.mv p58 q11 tI, .mv p59 q12 tI, .bn p60 .gtr q58 q59 .b, .cl p61 156 [q60] .v, .ss 5 q6 q61, .mv p7 (ci 0) tI]) .ret) (.seq (.oX [.bn p63 .eql q31 (.c (.str [62, 61])) .b, .mv p62 q63 .b]) (.cond q62 (.seq (.oX [.mv p64 q11 tI, .mv p65 q12 tI, .bn p66 .geq q64 q65 .b, .cl p67 156 [q66] .v, .ss 5 q6 q67, .mv p7 (ci 0) tI]) .ret) (.seq (.oX [.bn p69 .eql q31 (.c (.str [38, 38])) .b, .mv p68 q69 .b]) (.cond q68 (.seq (.oX [.mv p70 q11 tI, .bn p71 .neq q70 (ci 0) .b, .mv p72 q71 .b, .ge p72 (XL.of [.G p72 true p73 (.mov q12) tI, .G p72 true p74 (.bin .neq q73 (ci 0)) .b, .P p75 (.pick q72 q74 (cb false)) .b]) p75 .b, .cl p76 156 [q75] .v, .ss 5 q6 q76, .mv p7 (ci 0) tI]) .ret) (.seq (.oX [.bn p78 .eql q31 (.c (.str [124, 124])) .b, .mv p77 q78 .b]) (.cond q77 (.seq (.oX [.mv p79 q11 tI, .bn p80 .neq q79 (ci 0) .b, .mv p81 q80 .b, .ge p81 (XL.of [.G p81 false p82 (.mov q12) tI, .G p81 false p83 (.bin .neq q82 (ci 0)) .b, .P p84 (.pick q81 (cb true) q83) .b]) p84 .b, .cl p85 156 [q84] .v, .ss 5 q6 q85, .mv p7 (ci 0) tI]) .ret) .skip)))))))))))))))))) (.sO [.P p86 (.build [(kI 0), (.int .u32 (.ofNat 0)), (.int .u64 (.ofNat 0)), (.str []), (kI 0)] []) .v, .ss 5 q6 q86, .mv p7 (ci 15) tI] (.s .ret))))))
def x155 : XFn := ⟨[.s, tW, tW], false, [(.cells 5 p6), (.tmp p7)], c155_e⟩
def e155_0 (k t0 t1 t2 h) := kN k [(p0, (vS t0)), (p1, (vW t1)), (p2, (vW t2))] h
def S155_0 (D : CallD) (m : Nat) (t0 : LN) (t1 t2 : Int) (h : HP) : Res2 :=
 let t6 := P0 h
 let h1 := nQ h [(kI 0), (.int .u32 (.ofNat 0)), (.int .u64 (.ofNat 0)), (.str []), (kI 0)]
 cal D 178 [(vS t0)] h1 fun t14 h2 =>
 asI .i64 t14 fun t14a =>
 let t16 := notQ (eqQ t14a (Int.ofNat 0))
 br t16 (
 cal D 179 [(vI t14a), (vW t1), (vW t2)] h2 fun t21 h3 =>
 extC t21 0 fun vt22 => asI .u32 vt22 fun t22 =>
 extC t21 1 fun vt23 => asI .i64 vt23 fun t23 =>
 let t25 := (AV.agg [(kI 1), (vW t22), (AV.int .u64 (Int.ofNat 0)), (vS ([] : LN)), (kI 0)])
 stsC 5 t6 t25 h3 fun h4 =>
 cellsC 5 t6 h4 fun t6a =>
 some (.ret (.tup [t6a, (vI t23)]) h4, .no)) (
 cal D 157 [(vW t1)] h2 fun t28 h5 =>
 asI .i64 t28 fun t28a =>
 cal D 157 [(vW t2)] h5 fun t30 h6 =>
 asI .i64 t30 fun t30a =>
 let t33 := eqL t0 ([61, 61] : LN)
 br t33 (
 let t36 := eqQ t28a t30a
 cal D 156 [(vB t36)] h6 fun t37 h7 =>
 stsC 5 t6 t37 h7 fun h8 =>
 cellsC 5 t6 h8 fun t6a =>
 some (.ret (.tup [t6a, (kI 0)]) h8, .no)) (
 let t39 := eqL t0 ([33, 61] : LN)
 br t39 (
 let t42 := notQ (eqQ t28a t30a)
 cal D 156 [(vB t42)] h6 fun t43 h9 =>
 stsC 5 t6 t43 h9 fun h10 =>
 cellsC 5 t6 h10 fun t6a =>
 some (.ret (.tup [t6a, (kI 0)]) h10, .no)) (
 let t45 := eqL t0 ([60] : LN)
 br t45 (
 let t48 := ltQ t28a t30a
 cal D 156 [(vB t48)] h6 fun t49 h11 =>
 stsC 5 t6 t49 h11 fun h12 =>
 cellsC 5 t6 h12 fun t6a =>
 some (.ret (.tup [t6a, (kI 0)]) h12, .no)) (
 let t51 := eqL t0 ([60, 61] : LN)
 br t51 (
 let t54 := leQ t28a t30a
 cal D 156 [(vB t54)] h6 fun t55 h13 =>
 stsC 5 t6 t55 h13 fun h14 =>
 cellsC 5 t6 h14 fun t6a =>
 some (.ret (.tup [t6a, (kI 0)]) h14, .no)) (
 let t57 := eqL t0 ([62] : LN)
 br t57 (
 let t60 := ltQ t30a t28a
 cal D 156 [(vB t60)] h6 fun t61 h15 =>
 stsC 5 t6 t61 h15 fun h16 =>
 cellsC 5 t6 h16 fun t6a =>
 some (.ret (.tup [t6a, (kI 0)]) h16, .no)) (
 let t63 := eqL t0 ([62, 61] : LN)
 br t63 (
 let t66 := leQ t30a t28a
 cal D 156 [(vB t66)] h6 fun t67 h17 =>
 stsC 5 t6 t67 h17 fun h18 =>
 cellsC 5 t6 h18 fun t6a =>
 some (.ret (.tup [t6a, (kI 0)]) h18, .no)) (
 let t69 := eqL t0 ([38, 38] : LN)
 br t69 (
 let t71 := notQ (eqQ t28a (Int.ofNat 0))
 obB (brV t71 (
 let t74 := notQ (eqQ t30a (Int.ofNat 0))
 some (vB t74)) (
 some (vB false))) fun t75 =>
 cal D 156 [(vB t75)] h6 fun t76 h19 =>
 stsC 5 t6 t76 h19 fun h20 =>
 cellsC 5 t6 h20 fun t6a =>
 some (.ret (.tup [t6a, (kI 0)]) h20, .no)) (
 let t78 := eqL t0 ([124, 124] : LN)
 br t78 (
 let t80 := notQ (eqQ t28a (Int.ofNat 0))
 obB (brV t80 (
 some (vB true)) (
 let t83 := notQ (eqQ t30a (Int.ofNat 0))
 some (vB t83))) fun t84 =>
 cal D 156 [(vB t84)] h6 fun t85 h21 =>
 stsC 5 t6 t85 h21 fun h22 =>
 cellsC 5 t6 h22 fun t6a =>
 some (.ret (.tup [t6a, (kI 0)]) h22, .no)) (
 let t86 := (AV.agg [(kI 0), (vW (Int.ofNat 0)), (AV.int .u64 (Int.ofNat 0)), (vS ([] : LN)), (kI 0)])
 stsC 5 t6 t86 h6 fun h23 =>
 cellsC 5 t6 h23 fun t6a =>
 some (.ret (.tup [t6a, (kI 15)]) h23, .no))))))))))
def S155 : SFn := fun D m args h u => nou u <| popS args fun t0 args => popI .u32 args fun t1 args => popI .u32 args fun t2 args => endA args (S155_0 D m t0 t1 t2 h)
theorem T155_0 (hE : FX x155 D m E) : S155_0 D m = e155_0 (E c155_e []) := by unfold S155_0; rw [hE c155_e]; kernel_rfl
theorem X155 : XTie S155 x155 := X_of fun D m E hE args h u => by unfold S155; rw [T155_0 hE]; kernel_rfl
/- 156 -/
def c156_e : XC := (.sO [.al p2 (.new [(kI 0), (.int .u32 (.ofNat 0)), (.int .u64 (.ofNat 0)), (.str []), (kI 0)])] (.seq (.seq (.oX [.mv p3 q0 .b]) (.cond q3 (.seq (.oX [.P p4 (.build [(kI 0), (.int .u32 (.ofNat 0)), (.int .u64 (.ofNat 0)), (.str []), (kI 0)] [⟨0, 1, (ci 1)⟩, ⟨1, 1, (.c (.int .u32 (.ofNat 1)))⟩]) .v, .ss 5 q2 q4]) .ret) .skip)) (.sO [.P p5 (.build [(kI 0), (.int .u32 (.ofNat 0)), (.int .u64 (.ofNat 0)), (.str []), (kI 0)] [⟨0, 1, (ci 1)⟩]) .v, .ss 5 q2 q5] (.s .ret))))
def x156 : XFn := ⟨[.b], false, [(.cells 5 p2)], c156_e⟩
def e156_0 (k t0 h) := kN k [(p0, (vB t0))] h
def S156_0 (D : CallD) (m : Nat) (t0 : Bool) (h : HP) : Res2 :=
 let t2 := P0 h
 let h1 := nQ h [(kI 0), (.int .u32 (.ofNat 0)), (.int .u64 (.ofNat 0)), (.str []), (kI 0)]
 br t0 (
 let t4 := (AV.agg [(kI 1), (vW (Int.ofNat 1)), (AV.int .u64 (Int.ofNat 0)), (vS ([] : LN)), (kI 0)])
 stsC 5 t2 t4 h1 fun h2 =>
 cellsC 5 t2 h2 fun t2a =>
 some (.ret t2a h2, .no)) (
 let t5 := (AV.agg [(kI 1), (vW (Int.ofNat 0)), (AV.int .u64 (Int.ofNat 0)), (vS ([] : LN)), (kI 0)])
 stsC 5 t2 t5 h1 fun h3 =>
 cellsC 5 t2 h3 fun t2a =>
 some (.ret t2a h3, .no))
def S156 : SFn := fun D m args h u => nou u <| popB args fun t0 args => endA args (S156_0 D m t0 h)
theorem T156_0 (hE : FX x156 D m E) : S156_0 D m = e156_0 (E c156_e []) := by unfold S156_0; rw [hE c156_e]; kernel_rfl
theorem X156 : XTie S156 x156 := X_of fun D m E hE args h u => by unfold S156; rw [T156_0 hE]; kernel_rfl
/- 157 -/
def c157_e : XC := (.sO [.mv p2 (ci 0) tI] (.sO [.mv p3 q0 tW, .P p4 (.conv (.ii .i32) q3) (.i .i32), .P p5 (.conv (.ii .i64) q4) tI, .mv p2 q5 tI] (.s .ret)))
def x157 : XFn := ⟨[tW], false, [(.tmp p2)], c157_e⟩
def e157_0 (k t0 h) := kN k [(p0, (vW t0))] h
def S157_0 (D : CallD) (m : Nat) (t0 : Int) (h : HP) : Res2 :=
 obI .i32 (convV (.ii .i32) (vW t0)) fun t4 =>
 let t5 := wrapF .i64 t4
 some (.ret (vI t5) h, .no)
def S157 : SFn := fun D m args h u => nou u <| popI .u32 args fun t0 args => endA args (S157_0 D m t0 h)
theorem T157_0 (hE : FX x157 D m E) : S157_0 D m = e157_0 (E c157_e []) := by unfold S157_0; rw [hE c157_e]; kernel_rfl
theorem X157 : XTie S157 x157 := X_of fun D m E hE args h u => by unfold S157; rw [T157_0 hE]; kernel_rfl
/- 161 -/
def c161_e : XC := (.sO [.mv p4 (.c .nilp) .v] (.seq (.seq (.oX [.mv p7 q0 .v, .P p8 (.nilck q7) .v, .fa p9 1 q8, .ld p10 q9 .v, .mv p11 q1 .s, .L p12 (.look .str .nilp false q10 q11) .v, .mv p5 q12 .v]) (.seq (.oX [.mv p13 q5 .v, .L p14 (.eqp true q13 (.c .nilp)) .b]) (.cond q14 (.seq (.oX [.mv p15 q5 .v, .mv p4 q15 .v]) .ret) .skip))) (.sO [.mv p16 q0 .v, .P p17 (.nilck q16) .v, .fa p18 0 q17, .ld p19 q18 .v, .P p20 (.nilck q19) .v, .fa p21 1 q20, .ld p22 q21 .v, .mv p23 q1 .s, .L p24 (.look .str .nilp false q22 q23) .v, .mv p6 q24 .v] (.sO [.mv p25 q6 .v, .L p26 (.eqp true q25 (.c .nilp)) .b, .cl p27 46 [q26] .v] (.sO [.mv p28 q6 .v, .mv p4 q28 .v] (.s .ret))))))
def x161 : XFn := ⟨[.v, .s], false, [(.tmp p4)], c161_e⟩
def e161_0 (k t0 t1 h) := kN k [(p0, t0), (p1, (vS t1))] h
def S161_0 (D : CallD) (m : Nat) (t0 : AV) (t1 : LN) (h : HP) : Res2 :=
 nilckC t0 fun t8 =>
 faC 1 t8 fun t9 =>
 cellC t9 h fun t10 =>
 obQ (evL (.look .str .nilp false (.c t10) (.c (vS t1))) .leaf h) fun t12 =>
 obB (eqPtr true t12 (.nilp : AV) h) fun t14 =>
 br t14 (
 some (.ret t12 h, .no)) (
 nilckC t0 fun t17 =>
 faC 0 t17 fun t18 =>
 cellC t18 h fun t19 =>
 nilckC t19 fun t20 =>
 faC 1 t20 fun t21 =>
 cellC t21 h fun t22 =>
 obQ (evL (.look .str .nilp false (.c t22) (.c (vS t1))) .leaf h) fun t24 =>
 obB (eqPtr true t24 (.nilp : AV) h) fun t26 =>
 cal D 46 [(vB t26)] h fun t27 h1 =>
 some (.ret t24 h1, .no))
def S161 : SFn := fun D m args h u => nou u <| popV args fun t0 args => popS args fun t1 args => endA args (S161_0 D m t0 t1 h)
theorem T161_0 (hE : FX x161 D m E) : S161_0 D m = e161_0 (E c161_e []) := by unfold S161_0; rw [hE c161_e]; kernel_rfl
theorem X161 : XTie S161 x161 := X_of fun D m E hE args h u => by unfold S161; rw [T161_0 hE]; kernel_rfl
/- 162 -/
def c162_e : XC := (.sO [.al p1 (.box q0), .mv p2 (.c .nilp) .v] (.seq (.ops true (XL.of [.fa p3 5 q1, .ld p4 q3 .v, .L p5 (.eqp true q4 (.c .nilp)) .b, .mv p6 q5 .b, .ge p6 (XL.of [.G p6 true p7 (.faddr 5 q1) .v, .o ⟨(some p8), (.l (.cell q7)), (some (p6, true)), []⟩ .v, .G p6 true p9 (.nilck q8) .v, .G p6 true p10 (.faddr 1 q9) .v, .o ⟨(some p11), (.l (.cell q10)), (some (p6, true)), []⟩ .b, .G p6 true p12 (.un .not q11) .b, .P p13 (.pick q6 q12 (cb false)) .b]) p13 .b, .mv p14 q13 .b, .ge p14 (XL.of [.G p14 true p15 (.faddr 6 q1) .v, .o ⟨(some p16), (.l (.cell q15)), (some (p14, true)), []⟩ tI, .G p14 true p17 (.faddr 5 q1) .v, .o ⟨(some p18), (.l (.cell q17)), (some (p14, true)), []⟩ .v, .G p14 true p19 (.nilck q18) .v, .G p14 true p20 (.faddr 0 q19) .v, .o ⟨(some p21), (.l (.cell q20)), (some (p14, true)), []⟩ .v, .G p14 true p22 (.lenl q21) tI, .G p14 true p23 (.bin .lss q16 q22) .b, .P p24 (.pick q14 q23 (cb false)) .b]) p24 .b, .cl p25 46 [q24] .v])) (.seq (.ops true (XL.of [.fa p26 5 q1, .ld p27 q26 .v, .P p28 (.nilck q27) .v, .fa p29 0 q28, .ld p30 q29 .v, .fa p31 6 q1, .ld p32 q31 tI, .P p33 (.iaddr (.sl 7) q30 q32) .v, .mv p2 q33 .v])) (.s .ret))))
def x162 : XFn := ⟨[.v], false, [(.tmp p2)], c162_e⟩
def e162_0 (k t0 h) := kN k [(p0, t0)] h
def S162_0 (D : CallD) (m : Nat) (t0 : AV) (h : HP) : Res2 :=
 let t1 := P0 h
 let h1 := HP.newQ h (.cells true (AV.cells t0))
 let t3 := (AV.ptr (HP.nxQ h) (Nat.add 0 5))
 cellC t3 h1 fun t4 =>
 obB (eqPtr true t4 (.nilp : AV) h1) fun t5 =>
 obB (brV t5 (
 let t7 := (AV.ptr (HP.nxQ h) (Nat.add 0 5))
 cellCV t7 h1 fun t8 =>
 nilckCV t8 fun t9 =>
 faCV 1 t9 fun t10 =>
 ldBV t10 h1 fun t11 =>
 let t12 := !t11
 some (vB t12)) (
 some (vB false))) fun t13 =>
 obB (brV t13 (
 let t15 := (AV.ptr (HP.nxQ h) (Nat.add 0 6))
 ldIV t15 h1 fun t16 =>
 let t17 := (AV.ptr (HP.nxQ h) (Nat.add 0 5))
 cellCV t17 h1 fun t18 =>
 nilckCV t18 fun t19 =>
 faCV 0 t19 fun t20 =>
 cellCV t20 h1 fun t21 =>
 lenCV t21 fun vt22 => asIV .i64 vt22 fun t22 =>
 let t23 := ltQ t16 t22
 some (vB t23)) (
 some (vB false))) fun t24 =>
 cal D 46 [(vB t24)] h1 fun t25 h2 =>
 let t26 := (AV.ptr (HP.nxQ h) (Nat.add 0 5))
 cellC t26 h2 fun t27 =>
 nilckC t27 fun t28 =>
 faC 0 t28 fun t29 =>
 cellC t29 h2 fun t30 =>
 let t31 := (AV.ptr (HP.nxQ h) (Nat.add 0 6))
 ldI t31 h2 fun t32 =>
 iasC 7 t30 (vI t32) fun t33 =>
 some (.ret t33 h2, .no)
def S162 : SFn := fun D m args h u => nou u <| popV args fun t0 args => endA args (S162_0 D m t0 h)
theorem T162_0 (hE : FX x162 D m E) : S162_0 D m = e162_0 (E c162_e []) := by unfold S162_0; rw [hE c162_e]; kernel_rfl
theorem X162 : XTie S162 x162 := X_of fun D m E hE args h u => by unfold S162; rw [T162_0 hE]; kernel_rfl
/- 163 -/
def c163_e : XC := (.sO [.al p3 (.box q1), .al p4 (.new [(kI 0), (.int .u32 (.ofNat 0)), (.int .u64 (.ofNat 0)), (.str []), (kI 0), .nilp, (kI 0)])] (.sO [.mv p6 q0 .v, .P p7 (.nilck q6) .v, .fa p8 0 q7, .ld p9 q8 .v, .cl p10 134 [q9] .v] (.seq (.seq (.oX [.fa p11 0 q3, .ld p12 q11 tI]) (.block 0 (.seq (.oX [.bn p14 .eql q12 (ci 3) .b, .mv p13 q14 .b]) (.cond q13 (.seq (.oX [.mv p15 q0 .v, .fa p16 2 q3, .ld p17 q16 .s, .cl p18 161 [q15, q17] .v, .P p19 (.build [(kI 0), (.int .u32 (.ofNat 0)), (.int .u64 (.ofNat 0)), (.str []), (kI 0), .nilp, (kI 0)] [⟨5, 1, q18⟩]) .v, .ss 7 q4 q19]) .ret) (.seq (.oX [.bn p21 .eql q12 (ci 8) .b, .mv p20 q21 .b]) (.cond q20 (.seq (.oX [.mv p22 q0 .v, .fa p23 5 q3, .ld p24 q23 .v, .P p25 (.iaddr (.sl 8) q24 (ci 0)) .v, .L p26 (.cells 8 q25) .v, .cl p27 135 [q22, q26] .v, .al p5 (.new [(kI 0), (.int .u32 (.ofNat 0)), (.int .u64 (.ofNat 0)), (.str []), (kI 0), .nilp, (kI 0)]), .ss 7 q5 q27]) (.seq (.ops true (XL.of [.L p28 (.cells 7 q5) .v, .mv p29 q0 .v, .fa p30 5 q3, .ld p31 q30 .v, .P p32 (.iaddr (.sl 8) q31 (ci 1)) .v, .L p33 (.cells 8 q32) .v, .o ⟨(some p34), (.call (.fn 135) [q29, q33]), none, [⟨none, .cells 7 q5, p28⟩]⟩ .v, .P p35 (.field 0 5 true q34) .v, .P p36 (.field 1 1 false q35) tW, .o ⟨(some p37), (.call (.fn 157) [q36]), none, [⟨none, .cells 7 q5, p28⟩]⟩ tI, .cl p38 184 [q28, q37] .v, .ss 7 q4 q38])) .ret)) .skip)))))) (.sO [.mv p39 q0 .v, .fa p40 5 q3, .ld p41 q40 .v, .P p42 (.iaddr (.sl 8) q41 (ci 0)) .v, .L p43 (.cells 8 q42) .v, .cl p44 135 [q39, q43] .v, .ss 7 q4 q44] (.s .ret)))))
def x163 : XFn := ⟨[.v, .v], false, [(.cells 7 p4)], c163_e⟩
def e163_0 (k t0 t1 h) := kN k [(p0, t0), (p1, t1)] h
def S163_0 (D : CallD) (m : Nat) (t0 t1 : AV) (h : HP) : Res2 :=
 let t3 := P0 h
 let h1 := HP.newQ h (.cells true (AV.cells t1))
 let t4 := P0 h1
 let h2 := nQ h1 [(kI 0), (.int .u32 (.ofNat 0)), (.int .u64 (.ofNat 0)), (.str []), (kI 0), .nilp, (kI 0)]
 nilckC t0 fun t7 =>
 faC 0 t7 fun t8 =>
 cellC t8 h2 fun t9 =>
 cal D 134 [t9] h2 fun t10 h3 =>
 let t11 := (AV.ptr (HP.nxQ h) (Nat.add 0 0))
 ldI t11 h3 fun t12 =>
 let t14 := eqQ t12 (Int.ofNat 3)
 br t14 (
 let t16 := (AV.ptr (HP.nxQ h) (Nat.add 0 2))
 ldS t16 h3 fun t17 =>
 cal D 161 [t0, (vS t17)] h3 fun t18 h4 =>
 obQ (evP (.build [(kI 0), (.int .u32 (.ofNat 0)), (.int .u64 (.ofNat 0)), (.str []), (kI 0), .nilp, (kI 0)] [⟨5, 1, (.c t18)⟩]) .leaf) fun t19 =>
 stsC 7 t4 t19 h4 fun h5 =>
 cellsC 7 t4 h5 fun t4a =>
 some (.ret t4a h5, .no)) (
 let t21 := eqQ t12 (Int.ofNat 8)
 br t21 (
 let t23 := (AV.ptr (HP.nxQ h) (Nat.add 0 5))
 cellC t23 h3 fun t24 =>
 iasC 8 t24 (kI 0) fun t25 =>
 cellsC 8 t25 h3 fun t26 =>
 cal D 135 [t0, t26] h3 fun t27 h6 =>
 let t5 := P0 h6
 let h7 := nQ h6 [(kI 0), (.int .u32 (.ofNat 0)), (.int .u64 (.ofNat 0)), (.str []), (kI 0), .nilp, (kI 0)]
 stsC 7 t5 t27 h7 fun h8 =>
 cellsC 7 t5 h8 fun t28 =>
 let t30 := (AV.ptr (HP.nxQ h) (Nat.add 0 5))
 cellC t30 h8 fun t31 =>
 iasC 8 t31 (kI 1) fun t32 =>
 cellsC 8 t32 h8 fun t33 =>
 cal D 135 [t0, t33] h8 fun t34 h9 =>
 br (again [⟨none, .cells 7 q5, p28⟩] (mkT [(p28, t28), (p5, t5)]) h9) (
 fldC 0 5 true t34 fun t35 =>
 fldC 1 1 false t35 fun vt36 => asI .u32 vt36 fun t36 =>
 cal D 157 [(vW t36)] h9 fun t37 h10 =>
 br (again [⟨none, .cells 7 q5, p28⟩] (mkT [(p28, t28), (p5, t5)]) h10) (
 asI .i64 t37 fun t37a =>
 cal D 184 [t28, (vI t37a)] h10 fun t38 h11 =>
 stsC 7 t4 t38 h11 fun h12 =>
 cellsC 7 t4 h12 fun t4a =>
 some (.ret t4a h12, .no)) none) none) (
 let t40 := (AV.ptr (HP.nxQ h) (Nat.add 0 5))
 cellC t40 h3 fun t41 =>
 iasC 8 t41 (kI 0) fun t42 =>
 cellsC 8 t42 h3 fun t43 =>
 cal D 135 [t0, t43] h3 fun t44 h13 =>
 stsC 7 t4 t44 h13 fun h14 =>
 cellsC 7 t4 h14 fun t4a =>
 some (.ret t4a h14, .no)))
def S163 : SFn := fun D m args h u => nou u <| popV args fun t0 args => popV args fun t1 args => endA args (S163_0 D m t0 t1 h)
theorem T163_0 (hE : FX x163 D m E) : S163_0 D m = e163_0 (E c163_e []) := by unfold S163_0; rw [hE c163_e]; kernel_rfl
theorem X163 : XTie S163 x163 := X_of fun D m E hE args h u => by unfold S163; rw [T163_0 hE]; kernel_rfl
/- 164 -/
def v164_0 : List Pos := [p3, p4, p5, p6]
def c164_0 : XC := (.seq (.seq (.oX [.fa p97 1 q3, .ld p98 q97 .s, .bn p99 .eql q98 (.c (.str [38, 38])) .b, .mv p100 q99 .b, .ge p100 (XL.of [.G p100 false p101 (.faddr 1 q3) .v, .o ⟨(some p102), (.l (.cell q101)), (some (p100, false)), []⟩ .s, .G p100 false p103 (.bin .eql q102 (.c (.str [124, 124]))) .b, .P p104 (.pick q100 (cb true) q103) .b]) p104 .b]) (.cond q104 (.seq (.oX [.fa p105 0 q6, .fa p106 1 q105, .ld p107 q106 tW, .P p108 (.mm false [q107, (.c (.int .u32 (.ofNat 1)))]) tW, .P p109 (.build [(kI 0), (.int .u32 (.ofNat 0)), (.int .u64 (.ofNat 0)), (.str []), (kI 0)] [⟨0, 1, (ci 1)⟩, ⟨1, 1, q108⟩]) .v, .P p110 (.build [(kI 0), (.int .u32 (.ofNat 0)), (.int .u64 (.ofNat 0)), (.str []), (kI 0), .nilp, (kI 0)] [⟨0, 5, q109⟩]) .v, .ss 7 q4 q110]) .ret) .skip)) (.sO [.fa p112 1 q3, .ld p113 q112 .s, .fa p114 0 q5, .L p115 (.cells 5 q114) .v, .fa p116 0 q6, .L p117 (.cells 5 q116) .v, .cl p118 132 [q113, q115, q117] .v, .mv p111 q118 .v, .P p119 (.ext q111 0) .v, .P p120 (.ext q111 1) tI, .al p8 (.new [(kI 0), (.int .u32 (.ofNat 0)), (.int .u64 (.ofNat 0)), (.str []), (kI 0)]), .ss 5 q8 q119, .mv p9 q120 tI] (.sO [.L p121 (.cells 5 q8) .v, .P p122 (.build [(kI 0), (.int .u32 (.ofNat 0)), (.int .u64 (.ofNat 0)), (.str []), (kI 0), .nilp, (kI 0)] [⟨0, 5, q121⟩]) .v, .ss 7 q4 q122] (.s .ret))))
def v164_1 : List Pos := [p4, p7]
def c164_1 : XC := (.sO [.L p95 (.cells 5 q7) .v, .P p96 (.build [(kI 0), (.int .u32 (.ofNat 0)), (.int .u64 (.ofNat 0)), (.str []), (kI 0), .nilp, (kI 0)] [⟨0, 5, q95⟩]) .v, .ss 7 q4 q96] (.s .ret))
def c164_e : XC := (.sO [.al p3 (.box q1), .al p4 (.new [(kI 0), (.int .u32 (.ofNat 0)), (.int .u64 (.ofNat 0)), (.str []), (kI 0), .nilp, (kI 0)])] (.sO [.mv p10 q0 .v, .fa p11 5 q3, .ld p12 q11 .v, .P p13 (.iaddr (.sl 8) q12 (ci 0)) .v, .L p14 (.cells 8 q13) .v, .cl p15 135 [q10, q14] .v, .al p5 (.new [(kI 0), (.int .u32 (.ofNat 0)), (.int .u64 (.ofNat 0)), (.str []), (kI 0), .nilp, (kI 0)]), .ss 7 q5 q15] (.seq (.seq (.oX [.fa p16 1 q3, .ld p17 q16 .s, .bn p18 .eql q17 (.c (.str [38, 38])) .b, .mv p19 q18 .b, .ge p19 (XL.of [.G p19 true p20 (.faddr 0 q5) .v, .G p19 true p21 (.faddr 1 q20) .v, .o ⟨(some p22), (.l (.cell q21)), (some (p19, true)), []⟩ tW, .G p19 true p23 (.bin .eql q22 (.c (.int .u32 (.ofNat 0)))) .b, .P p24 (.pick q19 q23 (cb false)) .b]) p24 .b, .mv p25 q24 .b, .ge p25 (XL.of [.G p25 false p26 (.faddr 1 q3) .v, .o ⟨(some p27), (.l (.cell q26)), (some (p25, false)), []⟩ .s, .G p25 false p28 (.bin .eql q27 (.c (.str [124, 124]))) .b, .G p25 false p29 (.mov q28) .b, .ge p29 (XL.of [.G p29 true p30 (.faddr 0 q5) .v, .G p29 true p31 (.faddr 1 q30) .v, .o ⟨(some p32), (.l (.cell q31)), (some (p29, true)), []⟩ tW, .G p29 true p33 (.bin .neq q32 (.c (.int .u32 (.ofNat 0)))) .b, .G p25 false p34 (.pick q29 q33 (cb false)) .b]) p34 .b, .P p35 (.pick q25 (cb true) q34) .b]) p35 .b]) (.cond q35 (.seq (.oX [.fa p36 0 q5, .fa p37 1 q36, .ld p38 q37 tW, .P p39 (.mm false [q38, (.c (.int .u32 (.ofNat 1)))]) tW, .P p40 (.build [(kI 0), (.int .u32 (.ofNat 0)), (.int .u64 (.ofNat 0)), (.str []), (kI 0)] [⟨0, 1, (ci 1)⟩, ⟨1, 1, q39⟩]) .v, .P p41 (.build [(kI 0), (.int .u32 (.ofNat 0)), (.int .u64 (.ofNat 0)), (.str []), (kI 0), .nilp, (kI 0)] [⟨0, 5, q40⟩]) .v, .ss 7 q4 q41]) .ret) .skip)) (.sO [.mv p42 q0 .v, .fa p43 5 q3, .ld p44 q43 .v, .P p45 (.iaddr (.sl 8) q44 (ci 1)) .v, .L p46 (.cells 8 q45) .v, .cl p47 135 [q42, q46] .v, .al p6 (.new [(kI 0), (.int .u32 (.ofNat 0)), (.int .u64 (.ofNat 0)), (.str []), (kI 0), .nilp, (kI 0)]), .ss 7 q6 q47] (.sj v164_0 (.block 0 (.sO [.fa p49 0 q5, .fa p50 0 q49, .ld p51 q50 tI, .cl p52 185 [q51] .b, .mv p53 q52 .b, .ge p53 (XL.of [.G p53 true p54 (.faddr 1 q3) .v, .o ⟨(some p55), (.l (.cell q54)), (some (p53, true)), []⟩ .s, .G p53 true p56 (.bin .eql q55 (.c (.str [43]))) .b, .P p57 (.pick q53 q56 (cb false)) .b]) p57 .b, .mv p48 q57 .b] (.cond q48 (.seq (.ops true (XL.of [.L p58 (.cells 7 q5) .v, .fa p59 0 q6, .fa p60 1 q59, .ld p61 q60 tW, .o ⟨(some p62), (.call (.fn 157) [q61]), none, [⟨none, .cells 7 q5, p58⟩]⟩ tI, .cl p63 184 [q58, q62] .v, .ss 7 q4 q63])) (.s .ret)) (.sO [.fa p65 0 q5, .fa p66 0 q65, .ld p67 q66 tI, .cl p68 185 [q67] .b, .mv p69 q68 .b, .ge p69 (XL.of [.G p69 true p70 (.faddr 1 q3) .v, .o ⟨(some p71), (.l (.cell q70)), (some (p69, true)), []⟩ .s, .G p69 true p72 (.bin .eql q71 (.c (.str [45]))) .b, .P p73 (.pick q69 q72 (cb false)) .b]) p73 .b, .mv p64 q73 .b] (.cond q64 (.seq (.ops true (XL.of [.L p74 (.cells 7 q5) .v, .fa p75 0 q6, .fa p76 1 q75, .ld p77 q76 tW, .o ⟨(some p78), (.call (.fn 157) [q77]), none, [⟨none, .cells 7 q5, p74⟩]⟩ tI, .P p79 (.un .neg q78) tI, .cl p80 184 [q74, q79] .v, .ss 7 q4 q80])) (.s .ret)) (.sO [.fa p82 0 q5, .fa p83 0 q82, .ld p84 q83 tI, .cl p85 185 [q84] .b, .mv p81 q85 .b] (.cond q81 (.sO [.P p86 (.build [(kI 0), (.int .u32 (.ofNat 0)), (.int .u64 (.ofNat 0)), (.str []), (kI 0)] [⟨0, 1, (ci 1)⟩]) .v, .al p7 (.new [(kI 0), (.int .u32 (.ofNat 0)), (.int .u64 (.ofNat 0)), (.str []), (kI 0)]), .ss 5 q7 q86] (.sj v164_1 (.seq (.ops true (XL.of [.L p87 (.cells 7 q5) .v, .L p88 (.cells 7 q6) .v, .fa p90 1 q3, .ld p91 q90 .s, .bn p92 .eql q91 (.c (.str [61, 61])) .b, .o ⟨(some p89), (.call (.fn 186) [q87, q88]), none, [⟨none, .cell q90, p91⟩]⟩ .b, .P p93 (.eqb false q89 q92) .b])) (.cond q93 (.s (.oX [.fa p94 1 q7, .st q94 (.c (.int .u32 (.ofNat 1)))])) (.s .skip))) c164_1)) (.s .skip)))))))) c164_0)))))
def x164 : XFn := ⟨[.v, .v], false, [(.cells 7 p4)], c164_e⟩
def e164_0 (k t3 t4 t5 t6 h) := kN k [(p3, t3), (p4, t4), (p5, t5), (p6, t6)] h
def S164_0 (D : CallD) (m : Nat) (t3 t4 t5 t6 : AV) (h : HP) : Res2 :=
 faC 1 t3 fun t97 =>
 ldS t97 h fun t98 =>
 let t99 := eqL t98 ([38, 38] : LN)
 obB (brV t99 (
 some (vB true)) (
 faCV 1 t3 fun t101 =>
 ldSV t101 h fun t102 =>
 let t103 := eqL t102 ([124, 124] : LN)
 some (vB t103))) fun t104 =>
 br t104 (
 faC 0 t6 fun t105 =>
 faC 1 t105 fun t106 =>
 ldW t106 h fun t107 =>
 obI .u32 (evP (.mm false [(.c (vW t107)), (.c (vW (Int.ofNat 1)))]) .leaf) fun t108 =>
 let t109 := (AV.agg [(kI 1), (vW t108), (AV.int .u64 (Int.ofNat 0)), (vS ([] : LN)), (kI 0)])
 let t110 := (AV.agg [(kI 1), (vW t108), (AV.int .u64 (Int.ofNat 0)), (vS ([] : LN)), (kI 0), (.nilp : AV), (kI 0)])
 stsC 7 t4 t110 h fun h12 =>
 cellsC 7 t4 h12 fun t4a =>
 some (.ret t4a h12, .no)) (
 faC 1 t3 fun t112 =>
 ldS t112 h fun t113 =>
 faC 0 t5 fun t114 =>
 cellsC 5 t114 h fun t115 =>
 faC 0 t6 fun t116 =>
 cellsC 5 t116 h fun t117 =>
 cal D 132 [(vS t113), t115, t117] h fun t118 h13 =>
 extC t118 0 fun t119 =>
 extC t118 1 fun vt120 => asI .i64 vt120 fun t120 =>
 let t8 := P0 h13
 let h14 := nQ h13 [(kI 0), (.int .u32 (.ofNat 0)), (.int .u64 (.ofNat 0)), (.str []), (kI 0)]
 stsC 5 t8 t119 h14 fun h15 =>
 cellsC 5 t8 h15 fun t121 =>
 obQ (evP (.build [(kI 0), (.int .u32 (.ofNat 0)), (.int .u64 (.ofNat 0)), (.str []), (kI 0), .nilp, (kI 0)] [⟨0, 5, (.c t121)⟩]) .leaf) fun t122 =>
 stsC 7 t4 t122 h15 fun h16 =>
 cellsC 7 t4 h16 fun t4a =>
 some (.ret t4a h16, .no))
def e164_1 (k t4 t7 h) := kN k [(p4, t4), (p7, t7)] h
def S164_1 (D : CallD) (m : Nat) (t4 t7 : AV) (h : HP) : Res2 :=
 cellsC 5 t7 h fun t95 =>
 obQ (evP (.build [(kI 0), (.int .u32 (.ofNat 0)), (.int .u64 (.ofNat 0)), (.str []), (kI 0), .nilp, (kI 0)] [⟨0, 5, (.c t95)⟩]) .leaf) fun t96 =>
 stsC 7 t4 t96 h fun h28 =>
 cellsC 7 t4 h28 fun t4a =>
 some (.ret t4a h28, .no)
def e164_2 (k t0 t1 h) := kN k [(p0, t0), (p1, t1)] h
def S164_2 (D : CallD) (m : Nat) (t0 t1 : AV) (h : HP) : Res2 :=
 let t3 := P0 h
 let h3 := HP.newQ h (.cells true (AV.cells t1))
 let t4 := P0 h3
 let h4 := nQ h3 [(kI 0), (.int .u32 (.ofNat 0)), (.int .u64 (.ofNat 0)), (.str []), (kI 0), .nilp, (kI 0)]
 let t11 := (AV.ptr (HP.nxQ h) (Nat.add 0 5))
 cellC t11 h4 fun t12 =>
 iasC 8 t12 (kI 0) fun t13 =>
 cellsC 8 t13 h4 fun t14 =>
 cal D 135 [t0, t14] h4 fun t15 h5 =>
 let t5 := P0 h5
 let h6 := nQ h5 [(kI 0), (.int .u32 (.ofNat 0)), (.int .u64 (.ofNat 0)), (.str []), (kI 0), .nilp, (kI 0)]
 stsC 7 t5 t15 h6 fun h7 =>
 let t16 := (AV.ptr (HP.nxQ h) (Nat.add 0 1))
 ldS t16 h7 fun t17 =>
 let t18 := eqL t17 ([38, 38] : LN)
 obB (brV t18 (
 let t20 := (AV.ptr (HP.nxQ h5) (Nat.add 0 0))
 let t21 := (AV.ptr (HP.nxQ h5) (Nat.add (Nat.add 0 0) 1))
 ldWV t21 h7 fun t22 =>
 binCV .eql (vW t22) (vW (Int.ofNat 0)) fun vt23 => asBV vt23 fun t23 =>
 some (vB t23)) (
 some (vB false))) fun t24 =>
 obB (brV t24 (
 some (vB true)) (
 let t26 := (AV.ptr (HP.nxQ h) (Nat.add 0 1))
 ldSV t26 h7 fun t27 =>
 let t28 := eqL t27 ([124, 124] : LN)
 obBV (brV t28 (
 let t30 := (AV.ptr (HP.nxQ h5) (Nat.add 0 0))
 let t31 := (AV.ptr (HP.nxQ h5) (Nat.add (Nat.add 0 0) 1))
 ldWV t31 h7 fun t32 =>
 binCV .neq (vW t32) (vW (Int.ofNat 0)) fun vt33 => asBV vt33 fun t33 =>
 some (vB t33)) (
 some (vB false))) fun t34 =>
 some (vB t34))) fun t35 =>
 br t35 (
 let t36 := (AV.ptr (HP.nxQ h5) (Nat.add 0 0))
 let t37 := (AV.ptr (HP.nxQ h5) (Nat.add (Nat.add 0 0) 1))
 ldW t37 h7 fun t38 =>
 obI .u32 (evP (.mm false [(.c (vW t38)), (.c (vW (Int.ofNat 1)))]) .leaf) fun t39 =>
 let t40 := (AV.agg [(kI 1), (vW t39), (AV.int .u64 (Int.ofNat 0)), (vS ([] : LN)), (kI 0)])
 let t41 := (AV.agg [(kI 1), (vW t39), (AV.int .u64 (Int.ofNat 0)), (vS ([] : LN)), (kI 0), (.nilp : AV), (kI 0)])
 stsC 7 t4 t41 h7 fun h8 =>
 cellsC 7 t4 h8 fun t4a =>
 some (.ret t4a h8, .no)) (
 let t43 := (AV.ptr (HP.nxQ h) (Nat.add 0 5))
 cellC t43 h7 fun t44 =>
 iasC 8 t44 (kI 1) fun t45 =>
 cellsC 8 t45 h7 fun t46 =>
 cal D 135 [t0, t46] h7 fun t47 h9 =>
 let t6 := P0 h9
 let h10 := nQ h9 [(kI 0), (.int .u32 (.ofNat 0)), (.int .u64 (.ofNat 0)), (.str []), (kI 0), .nilp, (kI 0)]
 stsC 7 t6 t47 h10 fun h11 =>
 let t49 := (AV.ptr (HP.nxQ h5) (Nat.add 0 0))
 let t50 := (AV.ptr (HP.nxQ h5) (Nat.add (Nat.add 0 0) 0))
 ldI t50 h11 fun t51 =>
 cal D 185 [(vI t51)] h11 fun t52 h17 =>
 asB t52 fun t52a =>
 obB (brV t52a (
 let t54 := (AV.ptr (HP.nxQ h) (Nat.add 0 1))
 ldSV t54 h17 fun t55 =>
 let t56 := eqL t55 ([43] : LN)
 some (vB t56)) (
 some (vB false))) fun t57 =>
 br t57 (
 cellsC 7 t5 h17 fun t58 =>
 let t59 := (AV.ptr (HP.nxQ h9) (Nat.add 0 0))
 let t60 := (AV.ptr (HP.nxQ h9) (Nat.add (Nat.add 0 0) 1))
 ldW t60 h17 fun t61 =>
 cal D 157 [(vW t61)] h17 fun t62 h18 =>
 br (again [⟨none, .cells 7 q5, p58⟩] (mkT [(p58, t58), (p5, t5)]) h18) (
 asI .i64 t62 fun t62a =>
 cal D 184 [t58, (vI t62a)] h18 fun t63 h19 =>
 stsC 7 t4 t63 h19 fun h20 =>
 cellsC 7 t4 h20 fun t4a =>
 some (.ret t4a h20, .no)) none) (
 let t65 := (AV.ptr (HP.nxQ h5) (Nat.add 0 0))
 let t66 := (AV.ptr (HP.nxQ h5) (Nat.add (Nat.add 0 0) 0))
 ldI t66 h17 fun t67 =>
 cal D 185 [(vI t67)] h17 fun t68 h21 =>
 asB t68 fun t68a =>
 obB (brV t68a (
 let t70 := (AV.ptr (HP.nxQ h) (Nat.add 0 1))
 ldSV t70 h21 fun t71 =>
 let t72 := eqL t71 ([45] : LN)
 some (vB t72)) (
 some (vB false))) fun t73 =>
 br t73 (
 cellsC 7 t5 h21 fun t74 =>
 let t75 := (AV.ptr (HP.nxQ h9) (Nat.add 0 0))
 let t76 := (AV.ptr (HP.nxQ h9) (Nat.add (Nat.add 0 0) 1))
 ldW t76 h21 fun t77 =>
 cal D 157 [(vW t77)] h21 fun t78 h22 =>
 br (again [⟨none, .cells 7 q5, p74⟩] (mkT [(p74, t74), (p5, t5)]) h22) (
 asI .i64 t78 fun t78a =>
 let t79 := IntKind.wrap .i64 (0 - t78a)
 cal D 184 [t74, (vI t79)] h22 fun t80 h23 =>
 stsC 7 t4 t80 h23 fun h24 =>
 cellsC 7 t4 h24 fun t4a =>
 some (.ret t4a h24, .no)) none) (
 let t82 := (AV.ptr (HP.nxQ h5) (Nat.add 0 0))
 let t83 := (AV.ptr (HP.nxQ h5) (Nat.add (Nat.add 0 0) 0))
 ldI t83 h21 fun t84 =>
 cal D 185 [(vI t84)] h21 fun t85 h25 =>
 asB t85 fun t85a =>
 br t85a (
 let t86 := (AV.agg [(kI 1), (vW (Int.ofNat 0)), (AV.int .u64 (Int.ofNat 0)), (vS ([] : LN)), (kI 0)])
 let t7 := P0 h25
 let h26 := nQ h25 [(kI 0), (.int .u32 (.ofNat 0)), (.int .u64 (.ofNat 0)), (.str []), (kI 0)]
 stsC 5 t7 t86 h26 fun h27 =>
 cellsC 7 t5 h27 fun t87 =>
 cellsC 7 t6 h27 fun t88 =>
 let t90 := (AV.ptr (HP.nxQ h) (Nat.add 0 1))
 ldS t90 h27 fun t91 =>
 let t92 := eqL t91 ([61, 61] : LN)
 cal D 186 [t87, t88] h27 fun t89 h29 =>
 br (again [⟨none, .cell q90, p91⟩] (mkT [(p91, (vS t91)), (p90, t90)]) h29) (
 asB t89 fun t89a =>
 let t93 := ((t89a == t92) != false)
 br t93 (
 let t94 := (AV.ptr (HP.nxQ h25) (Nat.add 0 1))
 stoC t94 (vW (Int.ofNat 1)) h29 fun h30 =>
 S164_1 D m t4 t7 h30) (
 S164_1 D m t4 t7 h29)) none) (
 S164_0 D m t3 t4 t5 t6 h25))))
def S164 : SFn := fun D m args h u => nou u <| popV args fun t0 args => popV args fun t1 args => endA args (S164_2 D m t0 t1 h)
theorem T164_0 (hE : FX x164 D m E) : S164_0 D m = e164_0 (E c164_0 []) := by unfold S164_0; rw [hE c164_0]; kernel_rfl
theorem T164_1 (hE : FX x164 D m E) : S164_1 D m = e164_1 (E c164_1 [.blk 0, .sj v164_0 c164_0]) := by unfold S164_1; rw [hE c164_1]; kernel_rfl
theorem T164_2 (hE : FX x164 D m E) : S164_2 D m = e164_2 (E c164_e []) := by unfold S164_2; rw [T164_1 hE, T164_0 hE, hE c164_e]; kernel_rfl
theorem X164 : XTie S164 x164 := X_of fun D m E hE args h u => by unfold S164; rw [T164_2 hE]; kernel_rfl
/- 166 -/
def v166_1 : List Pos := [p0, p3, p4, p5]
def c166_1 : XC := (.seq (.ops true (XL.of [.mv p114 q0 .v, .P p115 (.nilck q114) .v, .fa p116 0 q115, .ld p117 q116 .v, .P p118 (.nilck q117) .v, .fa p119 0 q118, .ld p120 q119 .v, .fa p121 2 q3, .ld p122 q121 .s, .L p123 (.look .str (.agg [(.bool false), (.bool false), (.bool false), (.str []), (kI 0), (kI 0), .nils, (.bool false), .nils, (kI 0), .nils, .nils, (.str []), (kI 0), (kI 0), (kI 0), (kI 0)]) true q120 q122) .v, .mv p113 q123 .v, .P p124 (.ext q113 0) .v, .P p125 (.ext q113 1) .b, .al p9 (.new [(.bool false), (.bool false), (.bool false), (.str []), (kI 0), (kI 0), .nils, (.bool false), .nils, (kI 0), .nils, .nils, (.str []), (kI 0), (kI 0), (kI 0), (kI 0)]), .ss 17 q9 q124, .mv p10 q125 .b])) (.sO [.mv p126 q10 .b, .cl p127 46 [q126] .v] (.seq (.ops true (XL.of [.mv p128 q0 .v, .P p129 (.nilck q128) .v, .fa p130 0 q129, .ld p131 q130 .v, .L p132 (.cells 17 q9) .v, .mv p133 q5 .v, .cl p134 47 [q131, q132, q133] .v, .ss 7 q4 q134])) (.s .ret))))
def v166_2 : List Pos := [p4, p8]
def c166_2 : XC := (.sO [.L p112 (.cells 7 q8) .v, .ss 7 q4 q112] (.s .ret))
def v166_0 : List Pos := [p0, p3, p4, p5]
def c166_0 : XC := (.sj v166_1 (.sO [.fa p25 2 q3, .ld p26 q25 .s] (.block 2 (.sO [.bn p28 .eql q26 (.c (.str [112, 117, 116, 119])) .b, .mv p27 q28 .b] (.cond q27 (.seq (.ops true (XL.of [.mv p29 q0 .v, .P p30 (.nilck q29) .v, .fa p31 0 q30, .ld p32 q31 .v, .mv p33 q0 .v, .P p34 (.nilck q33) .v, .fa p35 0 q34, .ld p36 q35 .v, .P p37 (.nilck q36) .v, .fa p38 3 q37, .ld p39 q38 .v, .mv p40 q5 .v, .P p41 (.iaddr (.sl 7) q40 (ci 0)) .v, .fa p42 0 q41, .fa p43 1 q42, .ld p44 q43 tW, .P p45 (.build [(kI 0), (.int .u32 (.ofNat 0)), (.int .u64 (.ofNat 0))] [⟨0, 1, (ci 1)⟩, ⟨1, 1, q44⟩]) .v, .al p46 (.bsl [(kI 0), (.int .u32 (.ofNat 0)), (.int .u64 (.ofNat 0))] 1 [⟨0, 3, q45⟩]), .o ⟨(some p47), (.e (.app 3 24 q39 q46)), none, [⟨none, .cell q31, p32⟩]⟩ .v, .P p48 (.nilck q32) .v, .fa p49 3 q48, .st q49 q47])) (.sO [.P p50 (.build [(kI 0), (.int .u32 (.ofNat 0)), (.int .u64 (.ofNat 0)), (.str []), (kI 0), .nilp, (kI 0)] []) .v, .ss 7 q4 q50] (.s .ret))) (.sO [.bn p52 .eql q26 (.c (.str [112, 117, 116, 100])) .b, .mv p51 q52 .b] (.cond q51 (.seq (.ops true (XL.of [.mv p53 q0 .v, .P p54 (.nilck q53) .v, .fa p55 0 q54, .ld p56 q55 .v, .mv p57 q0 .v, .P p58 (.nilck q57) .v, .fa p59 0 q58, .ld p60 q59 .v, .P p61 (.nilck q60) .v, .fa p62 3 q61, .ld p63 q62 .v, .mv p64 q5 .v, .P p65 (.iaddr (.sl 7) q64 (ci 0)) .v, .fa p66 0 q65, .fa p67 2 q66, .ld p68 q67 (.i .u64), .P p69 (.build [(kI 0), (.int .u32 (.ofNat 0)), (.int .u64 (.ofNat 0))] [⟨0, 1, (ci 2)⟩, ⟨2, 1, q68⟩]) .v, .al p70 (.bsl [(kI 0), (.int .u32 (.ofNat 0)), (.int .u64 (.ofNat 0))] 1 [⟨0, 3, q69⟩]), .o ⟨(some p71), (.e (.app 3 24 q63 q70)), none, [⟨none, .cell q55, p56⟩]⟩ .v, .P p72 (.nilck q56) .v, .fa p73 3 q72, .st q73 q71])) (.sO [.P p74 (.build [(kI 0), (.int .u32 (.ofNat 0)), (.int .u64 (.ofNat 0)), (.str []), (kI 0), .nilp, (kI 0)] []) .v, .ss 7 q4 q74] (.s .ret))) (.sO [.bn p76 .eql q26 (.c (.str [103, 101, 116, 119])) .b, .mv p75 q76 .b] (.cond q75 (.sO [.cl p77 68 [(ci 1)] .v, .al p8 (.new [(kI 0), (.int .u32 (.ofNat 0)), (.int .u64 (.ofNat 0)), (.str []), (kI 0), .nilp, (kI 0)]), .ss 7 q8 q77] (.sj v166_2 (.sO [.mv p78 q0 .v, .P p79 (.nilck q78) .v, .fa p80 0 q79, .ld p81 q80 .v, .P p82 (.nilck q81) .v, .fa p83 2 q82, .ld p84 q83 .v, .P p85 (.lenl q84) tI, .bn p86 .gtr q85 (ci 0) .b] (.cond q86 (.s (.ops true (XL.of [.mv p87 q0 .v, .P p88 (.nilck q87) .v, .fa p89 0 q88, .ld p90 q89 .v, .mv p91 q0 .v, .P p92 (.nilck q91) .v, .fa p93 0 q92, .ld p94 q93 .v, .P p95 (.nilck q94) .v, .fa p96 2 q95, .ld p97 q96 .v, .P p98 (.iaddr (.sl 1) q97 (ci 0)) .v, .ld p99 q98 tW, .mv p100 q0 .v, .P p101 (.nilck q100) .v, .fa p102 0 q101, .ld p103 q102 .v, .P p104 (.nilck q103) .v, .fa p105 2 q104, .ld p106 q105 .v, .P p107 (.slice (.sl 1) q106 (some (ci 1)) none none) .v, .fa p108 0 q8, .fa p109 1 q108, .o ⟨none, (.e (.store q109 q99)), none, [⟨none, .cell q89, p90⟩, ⟨none, .cell q102, p103⟩, ⟨none, .cell q105, p106⟩]⟩ .v, .P p110 (.nilck q90) .v, .fa p111 2 q110, .st q111 q107]))) (.s .skip))) c166_2)) (.s .skip))))))))) c166_1)
def v166_3 : List Pos := [p0, p3, p4, p5, p12, p13, p14]
def c166_3b : XC := (.sO [.bn p15 .lss q14 q13 .b] (.seq (.cond q15 .skip (.exit 0)) (.seq (.block 1 (.seq (.oX [.P p16 (.iaddr (.sl 8) q12 q14) .v, .L p17 (.cells 8 q16) .v, .al p7 (.new [(kI 0), (.str []), (.str []), (.int .u32 (.ofNat 0)), (.int .u64 (.ofNat 0)), .nils, (kI 0), (kI 0)]), .ss 8 q7 q17]) (.oX [.mv p18 q5 .v, .mv p19 q0 .v, .L p20 (.cells 8 q7) .v, .cl p21 135 [q19, q20] .v, .al p22 (.bsl [(kI 0), (.int .u32 (.ofNat 0)), (.int .u64 (.ofNat 0)), (.str []), (kI 0), .nilp, (kI 0)] 1 [⟨0, 7, q21⟩]), .o ⟨(some p23), (.e (.app 7 64 q18 q22)), none, []⟩ .v, .mv p5 q23 .v]))) (.s (.oX [.bn p24 .add q14 (ci 1) tI, .mv p14 q24 tI])))))
def c166_e : XC := (.sO [.al p3 (.box q1), .al p4 (.new [(kI 0), (.int .u32 (.ofNat 0)), (.int .u64 (.ofNat 0)), (.str []), (kI 0), .nilp, (kI 0)])] (.sO [.mv p5 (.c .nils) .v] (.sj v166_0 (.sO [.fa p11 5 q3, .ld p12 q11 .v, .P p13 (.lenl q12) tI, .mv p14 (ci 0) tI] (.block 0 (.loop v166_3 c166_3b))) c166_0)))
def x166 : XFn := ⟨[.v, .v], false, [(.cells 7 p4)], c166_e⟩
def e166_1 (k t0 t3 t4 t5 h) := kN k [(p0, t0), (p3, t3), (p4, t4), (p5, t5)] h
def S166_1 (D : CallD) (m : Nat) (t0 t3 t4 t5 : AV) (h : HP) : Res2 :=
 nilckC t0 fun t115 =>
 faC 0 t115 fun t116 =>
 cellC t116 h fun t117 =>
 nilckC t117 fun t118 =>
 faC 0 t118 fun t119 =>
 cellC t119 h fun t120 =>
 faC 2 t3 fun t121 =>
 ldS t121 h fun t122 =>
 obQ (evL (.look .str (.agg [(.bool false), (.bool false), (.bool false), (.str []), (kI 0), (kI 0), .nils, (.bool false), .nils, (kI 0), .nils, .nils, (.str []), (kI 0), (kI 0), (kI 0), (kI 0)]) true (.c t120) (.c (vS t122))) .leaf h) fun t123 =>
 extC t123 0 fun t124 =>
 extC t123 1 fun vt125 => asB vt125 fun t125 =>
 let t9 := P0 h
 let h7 := nQ h [(.bool false), (.bool false), (.bool false), (.str []), (kI 0), (kI 0), .nils, (.bool false), .nils, (kI 0), .nils, .nils, (.str []), (kI 0), (kI 0), (kI 0), (kI 0)]
 stsC 17 t9 t124 h7 fun h8 =>
 cal D 46 [(vB t125)] h8 fun t127 h9 =>
 nilckC t0 fun t129 =>
 faC 0 t129 fun t130 =>
 cellC t130 h9 fun t131 =>
 cellsC 17 t9 h9 fun t132 =>
 cal D 47 [t131, t132, t5] h9 fun t134 h10 =>
 stsC 7 t4 t134 h10 fun h11 =>
 cellsC 7 t4 h11 fun t4a =>
 some (.ret t4a h11, .no)
def e166_2 (k t4 t8 h) := kN k [(p4, t4), (p8, t8)] h
def S166_2 (D : CallD) (m : Nat) (t4 t8 : AV) (h : HP) : Res2 :=
 cellsC 7 t8 h fun t112 =>
 stsC 7 t4 t112 h fun h23 =>
 cellsC 7 t4 h23 fun t4a =>
 some (.ret t4a h23, .no)
def e166_0 (k t0 t3 t4 t5 h) := kN k [(p0, t0), (p3, t3), (p4, t4), (p5, t5)] h
def S166_0 (D : CallD) (m : Nat) (t0 t3 t4 t5 : AV) (h : HP) : Res2 :=
 faC 2 t3 fun t25 =>
 ldS t25 h fun t26 =>
 let t28 := eqL t26 ([112, 117, 116, 119] : LN)
 br t28 (
 nilckC t0 fun t30 =>
 faC 0 t30 fun t31 =>
 cellC t31 h fun t32 =>
 nilckC t0 fun t34 =>
 faC 0 t34 fun t35 =>
 cellC t35 h fun t36 =>
 nilckC t36 fun t37 =>
 faC 3 t37 fun t38 =>
 cellC t38 h fun t39 =>
 iasC 7 t5 (kI 0) fun t41 =>
 faC 0 t41 fun t42 =>
 faC 1 t42 fun t43 =>
 ldW t43 h fun t44 =>
 let t45 := (AV.agg [(kI 1), (vW t44), (AV.int .u64 (Int.ofNat 0))])
 let t46 := AV.slice (HP.nxQ h) 0 1 (.exact 1)
 let h12 := nQ h [(kI 1), (vW t44), (AV.int .u64 (Int.ofNat 0))]
 eff (.app 3 24 (.c t39) (.c t46)) h12 fun t47 h13 =>
 br (againE (.app 3 24 q39 q46) [⟨none, .cell q31, p32⟩] (mkT [(p32, t32), (p31, t31)]) h13) (
 nilckC t32 fun t48 =>
 faC 3 t48 fun t49 =>
 stoC t49 t47 h13 fun h14 =>
 let t50 := (AV.agg [(kI 0), (vW (Int.ofNat 0)), (AV.int .u64 (Int.ofNat 0)), (vS ([] : LN)), (kI 0), (.nilp : AV), (kI 0)])
 stsC 7 t4 t50 h14 fun h15 =>
 cellsC 7 t4 h15 fun t4a =>
 some (.ret t4a h15, .no)) none) (
 let t52 := eqL t26 ([112, 117, 116, 100] : LN)
 br t52 (
 nilckC t0 fun t54 =>
 faC 0 t54 fun t55 =>
 cellC t55 h fun t56 =>
 nilckC t0 fun t58 =>
 faC 0 t58 fun t59 =>
 cellC t59 h fun t60 =>
 nilckC t60 fun t61 =>
 faC 3 t61 fun t62 =>
 cellC t62 h fun t63 =>
 iasC 7 t5 (kI 0) fun t65 =>
 faC 0 t65 fun t66 =>
 faC 2 t66 fun t67 =>
 cellC t67 h fun vt68 => asI .u64 vt68 fun t68 =>
 let t69 := (AV.agg [(kI 2), (vW (Int.ofNat 0)), (AV.int .u64 t68)])
 let t70 := AV.slice (HP.nxQ h) 0 1 (.exact 1)
 let h16 := nQ h [(kI 2), (vW (Int.ofNat 0)), (AV.int .u64 t68)]
 eff (.app 3 24 (.c t63) (.c t70)) h16 fun t71 h17 =>
 br (againE (.app 3 24 q63 q70) [⟨none, .cell q55, p56⟩] (mkT [(p56, t56), (p55, t55)]) h17) (
 nilckC t56 fun t72 =>
 faC 3 t72 fun t73 =>
 stoC t73 t71 h17 fun h18 =>
 let t74 := (AV.agg [(kI 0), (vW (Int.ofNat 0)), (AV.int .u64 (Int.ofNat 0)), (vS ([] : LN)), (kI 0), (.nilp : AV), (kI 0)])
 stsC 7 t4 t74 h18 fun h19 =>
 cellsC 7 t4 h19 fun t4a =>
 some (.ret t4a h19, .no)) none) (
 let t76 := eqL t26 ([103, 101, 116, 119] : LN)
 br t76 (
 cal D 68 [(kI 1)] h fun t77 h20 =>
 let t8 := P0 h20
 let h21 := nQ h20 [(kI 0), (.int .u32 (.ofNat 0)), (.int .u64 (.ofNat 0)), (.str []), (kI 0), .nilp, (kI 0)]
 stsC 7 t8 t77 h21 fun h22 =>
 nilckC t0 fun t79 =>
 faC 0 t79 fun t80 =>
 cellC t80 h22 fun t81 =>
 nilckC t81 fun t82 =>
 faC 2 t82 fun t83 =>
 cellC t83 h22 fun t84 =>
 lenC t84 fun vt85 => asI .i64 vt85 fun t85 =>
 let t86 := ltQ (Int.ofNat 0) t85
 br t86 (
 nilckC t0 fun t88 =>
 faC 0 t88 fun t89 =>
 cellC t89 h22 fun t90 =>
 nilckC t0 fun t92 =>
 faC 0 t92 fun t93 =>
 cellC t93 h22 fun t94 =>
 nilckC t94 fun t95 =>
 faC 2 t95 fun t96 =>
 cellC t96 h22 fun t97 =>
 iasC 1 t97 (kI 0) fun t98 =>
 ldW t98 h22 fun t99 =>
 nilckC t0 fun t101 =>
 faC 0 t101 fun t102 =>
 cellC t102 h22 fun t103 =>
 nilckC t103 fun t104 =>
 faC 2 t104 fun t105 =>
 cellC t105 h22 fun t106 =>
 obQ (evP (.slice (.sl 1) (.c t106) (some (.c (kI 1))) none none) .leaf) fun t107 =>
 let t108 := (AV.ptr (HP.nxQ h20) (Nat.add 0 0))
 let t109 := (AV.ptr (HP.nxQ h20) (Nat.add (Nat.add 0 0) 1))
 stoC t109 (vW t99) h22 fun h24 =>
 br (againE (.store q109 q99) [⟨none, .cell q89, p90⟩, ⟨none, .cell q102, p103⟩, ⟨none, .cell q105, p106⟩] (mkT [(p109, t109), (p106, t106), (p105, t105), (p103, t103), (p102, t102), (p90, t90), (p89, t89)]) h24) (
 nilckC t90 fun t110 =>
 faC 2 t110 fun t111 =>
 stoC t111 t107 h24 fun h25 =>
 S166_2 D m t4 t8 h25) none) (
 S166_2 D m t4 t8 h22)) (
 S166_1 D m t0 t3 t4 t5 h)))
def e166_3 (k t0 t3 t4 t5 t12 t13 t14 h) := kN k [(p0, t0), (p3, t3), (p4, t4), (p5, t5), (p12, t12), (p13, (vI t13)), (p14, (vI t14))] h
def S166_3b (D : CallD) (m : Nat) (g3 : AV → AV → AV → AV → AV → Int → Int → HP → Res2) (t0 t3 t4 t5 t12 : AV) (t13 t14 : Int) (h : HP) : Res2 :=
 let t15 := ltQ t14 t13
 br t15 (
 iasC 8 t12 (vI t14) fun t16 =>
 cellsC 8 t16 h fun t17 =>
 let t7 := P0 h
 let h26 := nQ h [(kI 0), (.str []), (.str []), (.int .u32 (.ofNat 0)), (.int .u64 (.ofNat 0)), .nils, (kI 0), (kI 0)]
 stsC 8 t7 t17 h26 fun h27 =>
 cellsC 8 t7 h27 fun t20 =>
 cal D 135 [t0, t20] h27 fun t21 h28 =>
 obQ (evA (.bsl [(kI 0), (.int .u32 (.ofNat 0)), (.int .u64 (.ofNat 0)), (.str []), (kI 0), .nilp, (kI 0)] 1 [⟨0, 7, (.c t21)⟩]) .leaf) fun r29 =>
 let t22 := vkV r29.2 (HP.nxQ h28)
 let h30 := HP.newQ h28 r29.1
 eff (.app 7 64 (.c t5) (.c t22)) h30 fun t23 h31 =>
 let t24 := wrQ .i64 (addQ t14 (Int.ofNat 1))
 g3 t0 t3 t4 t23 t12 t13 t24 h31) (
 S166_0 D m t0 t3 t4 t5 h)
def S166_3 (D : CallD) (m : Nat) : AV → AV → AV → AV → AV → Int → Int → HP → Res2 := nrec (fun _ _ _ _ _ _ _ _ => none) (fun _ g => S166_3b D m g) m
def e166_4 (k t0 t1 h) := kN k [(p0, t0), (p1, t1)] h
def S166_4 (D : CallD) (m : Nat) (t0 t1 : AV) (h : HP) : Res2 :=
 let t3 := P0 h
 let h5 := HP.newQ h (.cells true (AV.cells t1))
 let t4 := P0 h5
 let h6 := nQ h5 [(kI 0), (.int .u32 (.ofNat 0)), (.int .u64 (.ofNat 0)), (.str []), (kI 0), .nilp, (kI 0)]
 let t11 := (AV.ptr (HP.nxQ h) (Nat.add 0 5))
 cellC t11 h6 fun t12 =>
 lenC t12 fun vt13 => asI .i64 vt13 fun t13 =>
 S166_3 D m t0 t3 t4 (.nils : AV) t12 t13 (Int.ofNat 0) h6
def S166 : SFn := fun D m args h u => nou u <| popV args fun t0 args => popV args fun t1 args => endA args (S166_4 D m t0 t1 h)
theorem T166_1 (hE : FX x166 D m E) : S166_1 D m = e166_1 (E c166_1 []) := by unfold S166_1; rw [hE c166_1]; kernel_rfl
theorem T166_2 (hE : FX x166 D m E) : S166_2 D m = e166_2 (E c166_2 [.blk 2, .sj v166_1 c166_1]) := by unfold S166_2; rw [hE c166_2]; kernel_rfl
theorem T166_0 (hE : FX x166 D m E) : S166_0 D m = e166_0 (E c166_0 []) := by unfold S166_0; rw [T166_2 hE, T166_1 hE, hE c166_0]; kernel_rfl
theorem T166_3b (hE : FX x166 D m E) (G3) : S166_3b D m (e166_3 G3) = e166_3 (E c166_3b [.lp v166_3 G3, .blk 0, .sj v166_0 c166_0]) := by unfold S166_3b; rw [T166_0 hE, hE c166_3b]; kernel_rfl
theorem T166_3 (hE : FX x166 D m E) : S166_3 D m = e166_3 (nrec (fun _ => none) (fun _ G3 st => E c166_3b [.lp v166_3 G3, .blk 0, .sj v166_0 c166_0] st) m) :=
  nrec_emb e166_3 (fun _ _ _ _ _ _ _ _ => none) (fun g => S166_3b D m g) (fun G3 st => E c166_3b [.lp v166_3 G3, .blk 0, .sj v166_0 c166_0] st) rfl (fun g => T166_3b hE g) m
theorem T166_4 (hE : FX x166 D m E) : S166_4 D m = e166_4 (E c166_e []) := by unfold S166_4; rw [T166_3 hE, hE c166_e]; kernel_rfl
theorem X166 : XTie S166 x166 := X_of fun D m E hE args h u => by unfold S166; rw [T166_4 hE]; kernel_rfl
/- 168 -/
def v168_1 : List Pos := [p1, p2, p3, p5]
def c168_1 : XC := (.seq (.ops true (XL.of [.L p109 (.cells 5 q1) .v, .L p110 (.cells 8 q5) .v, .o ⟨none, (.e (.stores 5 q2 q109)), none, [⟨none, .cells 8 q5, p110⟩]⟩ .v, .ss 8 q3 q110])) (.s .ret))
def v168_2 : List Pos := [p1, p2, p3, p5]
def c168_2b : XC := (.seq (.seq (.oX [.L p92 (.cells 5 q1) .v, .cl p93 73 [q92, (.c (.str [91]))] .b]) (.cond q93 .skip (.exit 0))) (.block 1 (.sO [.P p94 (.build [(kI 0), (.str []), (.str []), (.int .u32 (.ofNat 0)), (.int .u64 (.ofNat 0)), .nils, (kI 0), (kI 0)] []) .v, .al p9 (.new [(kI 0), (.str []), (.str []), (.int .u32 (.ofNat 0)), (.int .u64 (.ofNat 0)), .nils, (kI 0), (kI 0)]), .ss 8 q9 q94] (.sO [.L p96 (.cells 5 q1) .v, .cl p97 74 [q96] .v, .cl p98 81 [q97] .v, .mv p95 q98 .v, .P p99 (.ext q95 0) .v, .P p100 (.ext q95 1) .v, .ss 5 q1 q99, .ss 8 q9 q100] (.sO [.L p101 (.cells 8 q5) .v, .L p102 (.cells 8 q9) .v, .al p103 (.bsl [(kI 0), (.str []), (.str []), (.int .u32 (.ofNat 0)), (.int .u64 (.ofNat 0)), .nils, (kI 0), (kI 0), (kI 0), (.str []), (.str []), (.int .u32 (.ofNat 0)), (.int .u64 (.ofNat 0)), .nils, (kI 0), (kI 0)] 2 [⟨0, 8, q101⟩, ⟨8, 8, q102⟩]), .fa p104 7 q5, .ld p105 q104 tI, .P p106 (.build [(kI 0), (.str []), (.str []), (.int .u32 (.ofNat 0)), (.int .u64 (.ofNat 0)), .nils, (kI 0), (kI 0)] [⟨0, 1, (ci 8)⟩, ⟨5, 1, q103⟩, ⟨7, 1, q105⟩]) .v, .ss 8 q5 q106] (.s (.oX [.L p107 (.cells 5 q1) .v, .cl p108 79 [q107, (.c (.str [93]))] .v, .ss 5 q1 q108])))))))
def v168_0 : List Pos := [p1, p2, p3, p4, p5]
def c168_0 : XC := (.seq (.seq (.oX [.L p53 (.cells 5 q1) .v, .cl p54 73 [q53, (.c (.str [40]))] .b, .mv p55 q54 .b, .ge p55 (XL.of [.G p55 true p56 (.faddr 0 q1) .v, .o ⟨(some p57), (.l (.cell q56)), (some (p55, true)), []⟩ .v, .G p55 true p58 (.faddr 1 q1) .v, .o ⟨(some p59), (.l (.cell q58)), (some (p55, true)), []⟩ tI, .G p55 true p60 (.bin .add q59 (ci 1)) tI, .G p55 true p61 (.iaddr (.sl 3) q57 q60) .v, .G p55 true p62 (.faddr 0 q61) .v, .o ⟨(some p63), (.l (.cell q62)), (some (p55, true)), []⟩ tI, .G p55 true p64 (.bin .eql q63 (ci 5)) .b, .P p65 (.pick q55 q64 (cb false)) .b]) p65 .b]) (.cond q65 (.seq (.oX [.P p66 (.build [(kI 0), (.str []), (.str []), (.int .u32 (.ofNat 0)), (.int .u64 (.ofNat 0)), .nils, (kI 0), (kI 0)] []) .v, .al p7 (.new [(kI 0), (.str []), (.str []), (.int .u32 (.ofNat 0)), (.int .u64 (.ofNat 0)), .nils, (kI 0), (kI 0)]), .ss 8 q7 q66]) (.seq (.oX [.mv p8 (ci 0) tI]) (.seq (.oX [.L p68 (.cells 5 q1) .v, .cl p69 74 [q68] .v, .cl p70 75 [q69] .v, .mv p67 q70 .v, .P p71 (.ext q67 0) .v, .P p72 (.ext q67 1) tI, .ss 5 q1 q71, .mv p8 q72 tI]) (.seq (.oX [.L p74 (.cells 5 q1) .v, .cl p75 79 [q74, (.c (.str [41]))] .v, .cl p76 139 [q75] .v, .mv p73 q76 .v, .P p77 (.ext q73 0) .v, .P p78 (.ext q73 1) .v, .ss 5 q1 q77, .ss 8 q7 q78]) (.seq (.ops true (XL.of [.L p79 (.cells 5 q1) .v, .mv p80 q8 tI, .P p81 (.conv (.ii .u32) q80) tW, .L p82 (.cells 8 q7) .v, .al p83 (.bsl [(kI 0), (.str []), (.str []), (.int .u32 (.ofNat 0)), (.int .u64 (.ofNat 0)), .nils, (kI 0), (kI 0)] 1 [⟨0, 8, q82⟩]), .fa p84 2 q4, .ld p85 q84 tI, .P p86 (.build [(kI 0), (.str []), (.str []), (.int .u32 (.ofNat 0)), (.int .u64 (.ofNat 0)), .nils, (kI 0), (kI 0)] [⟨0, 1, (ci 9)⟩, ⟨3, 1, q81⟩, ⟨5, 1, q83⟩, ⟨7, 1, q85⟩]) .v, .o ⟨none, (.e (.stores 5 q2 q79)), none, [⟨none, .cells 8 q7, p82⟩, ⟨none, .cell q84, p85⟩]⟩ .v, .ss 8 q3 q86])) .ret))))) .skip)) (.sO [.L p88 (.cells 5 q1) .v, .cl p89 187 [q88] .v, .mv p87 q89 .v, .P p90 (.ext q87 0) .v, .P p91 (.ext q87 1) .v, .ss 5 q1 q90, .ss 8 q5 q91] (.sj v168_1 (.block 0 (.loop v168_2 c168_2b)) c168_1)))
def c168_7 : XC := (.cond q37 (.sO [.P p38 (.build [(kI 0), (.str []), (.str []), (.int .u32 (.ofNat 0)), (.int .u64 (.ofNat 0)), .nils, (kI 0), (kI 0)] []) .v, .al p6 (.new [(kI 0), (.str []), (.str []), (.int .u32 (.ofNat 0)), (.int .u64 (.ofNat 0)), .nils, (kI 0), (kI 0)]), .ss 8 q6 q38] (.sO [.L p40 (.cells 5 q1) .v, .cl p41 74 [q40] .v, .cl p42 139 [q41] .v, .mv p39 q42 .v, .P p43 (.ext q39 0) .v, .P p44 (.ext q39 1) .v, .ss 5 q1 q43, .ss 8 q6 q44] (.seq (.ops true (XL.of [.L p45 (.cells 5 q1) .v, .fa p46 1 q4, .ld p47 q46 .s, .L p48 (.cells 8 q6) .v, .al p49 (.bsl [(kI 0), (.str []), (.str []), (.int .u32 (.ofNat 0)), (.int .u64 (.ofNat 0)), .nils, (kI 0), (kI 0)] 1 [⟨0, 8, q48⟩]), .fa p50 2 q4, .ld p51 q50 tI, .P p52 (.build [(kI 0), (.str []), (.str []), (.int .u32 (.ofNat 0)), (.int .u64 (.ofNat 0)), .nils, (kI 0), (kI 0)] [⟨0, 1, (ci 4)⟩, ⟨1, 1, q47⟩, ⟨5, 1, q49⟩, ⟨7, 1, q51⟩]) .v, .o ⟨none, (.e (.stores 5 q2 q45)), none, [⟨none, .cell q46, p47⟩, ⟨none, .cells 8 q6, p48⟩, ⟨none, .cell q50, p51⟩]⟩ .v, .ss 8 q3 q52])) (.s .ret)))) (.s .skip))
def l168_6 : XL := (XL.of [])
def l168_5 : XL := (XL.pre [.mv p34 q33 .b, .sp p34, .o ⟨(some p35), (.l (.cells 5 q1)), (some (p34, false)), []⟩ .v, .o ⟨(some p36), (.call (.fn 73) [q35, (.c (.str [38]))]), (some (p34, false)), []⟩ .b, .P p37 (.pick q34 (cb true) q36) .b, .jn p34 [p1, p2, p3, p4, p5, p37]] l168_6)
def l168_4 : XL := (XL.pre [.mv p30 q29 .b, .sp p30, .o ⟨(some p31), (.l (.cells 5 q1)), (some (p30, false)), []⟩ .v, .o ⟨(some p32), (.call (.fn 73) [q31, (.c (.str [42]))]), (some (p30, false)), []⟩ .b, .P p33 (.pick q30 (cb true) q32) .b, .jn p30 [p1, p2, p3, p4, p5, p33]] l168_5)
def l168_3 : XL := (XL.pre [.mv p26 q25 .b, .sp p26, .o ⟨(some p27), (.l (.cells 5 q1)), (some (p26, false)), []⟩ .v, .o ⟨(some p28), (.call (.fn 73) [q27, (.c (.str [126]))]), (some (p26, false)), []⟩ .b, .P p29 (.pick q26 (cb true) q28) .b, .jn p26 [p1, p2, p3, p4, p5, p29]] l168_4)
def c168_e : XC := (.sO [.al p1 (.box q0), .al p2 (.new [.nils, (kI 0), (kI 0), (kI 0), (kI 0)]), .al p3 (.new [(kI 0), (.str []), (.str []), (.int .u32 (.ofNat 0)), (.int .u64 (.ofNat 0)), .nils, (kI 0), (kI 0)])] (.sO [.L p10 (.cells 5 q1) .v, .cl p11 50 [q10] .v, .al p4 (.new [(kI 0), (.str []), (kI 0)]), .ss 3 q4 q11] (.sO [.fa p12 2 q4, .ld p13 q12 tI, .P p14 (.build [(kI 0), (.str []), (.str []), (.int .u32 (.ofNat 0)), (.int .u64 (.ofNat 0)), .nils, (kI 0), (kI 0)] [⟨7, 1, q13⟩]) .v, .al p5 (.new [(kI 0), (.str []), (.str []), (.int .u32 (.ofNat 0)), (.int .u64 (.ofNat 0)), .nils, (kI 0), (kI 0)]), .ss 8 q5 q14] (.seq (.seq (.oX [.fa p15 3 q1, .ld p16 q15 tI, .bn p17 .neq q16 (ci 0) .b]) (.cond q17 (.seq (.ops true (XL.of [.L p18 (.cells 5 q1) .v, .L p19 (.cells 8 q5) .v, .o ⟨none, (.e (.stores 5 q2 q18)), none, [⟨none, .cells 8 q5, p19⟩]⟩ .v, .ss 8 q3 q19])) .ret) .skip)) (.sj v168_0 (.opq false (XL.pre [.L p20 (.cells 5 q1) .v, .cl p21 73 [q20, (.c (.str [45]))] .b, .mv p22 q21 .b, .sp p22, .o ⟨(some p23), (.l (.cells 5 q1)), (some (p22, false)), []⟩ .v, .o ⟨(some p24), (.call (.fn 73) [q23, (.c (.str [33]))]), (some (p22, false)), []⟩ .b, .P p25 (.pick q22 (cb true) q24) .b, .jn p22 [p1, p2, p3, p4, p5, p25]] l168_3) c168_7) c168_0)))))
def x168 : XFn := ⟨[.v], false, [(.cells 5 p2), (.cells 8 p3)], c168_e⟩
def e168_1 (k t1 t2 t3 t5 h) := kN k [(p1, t1), (p2, t2), (p3, t3), (p5, t5)] h
def S168_1 (D : CallD) (m : Nat) (t1 t2 t3 t5 : AV) (h : HP) : Res2 :=
 cellsC 5 t1 h fun t109 =>
 cellsC 8 t5 h fun t110 =>
 stsC 5 t2 t109 h fun h36 =>
 br (againE (.stores 5 q2 q109) [⟨none, .cells 8 q5, p110⟩] (mkT [(p2, t2), (p110, t110), (p5, t5)]) h36) (
 stsC 8 t3 t110 h36 fun h37 =>
 cellsC 5 t2 h37 fun t2a =>
 cellsC 8 t3 h37 fun t3a =>
 some (.ret (.tup [t2a, t3a]) h37, .no)) none
def e168_2 (k t1 t2 t3 t5 h) := kN k [(p1, t1), (p2, t2), (p3, t3), (p5, t5)] h
def S168_2b (D : CallD) (m : Nat) (g2 : AV → AV → AV → AV → HP → Res2) (t1 t2 t3 t5 : AV) (h : HP) : Res2 :=
 cellsC 5 t1 h fun t92 =>
 cal D 73 [t92, (vS ([91] : LN))] h fun t93 h38 =>
 asB t93 fun t93a =>
 br t93a (
 let t94 := (AV.agg [(kI 0), (vS ([] : LN)), (vS ([] : LN)), (vW (Int.ofNat 0)), (AV.int .u64 (Int.ofNat 0)), (.nils : AV), (kI 0), (kI 0)])
 let t9 := P0 h38
 let h39 := nQ h38 [(kI 0), (.str []), (.str []), (.int .u32 (.ofNat 0)), (.int .u64 (.ofNat 0)), .nils, (kI 0), (kI 0)]
 stsC 8 t9 t94 h39 fun h40 =>
 cellsC 5 t1 h40 fun t96 =>
 cal D 74 [t96] h40 fun t97 h41 =>
 cal D 81 [t97] h41 fun t98 h42 =>
 extC t98 0 fun t99 =>
 extC t98 1 fun t100 =>
 stsC 5 t1 t99 h42 fun h43 =>
 stsC 8 t9 t100 h43 fun h44 =>
 cellsC 8 t5 h44 fun t101 =>
 cellsC 8 t9 h44 fun t102 =>
 obQ (evA (.bsl [(kI 0), (.str []), (.str []), (.int .u32 (.ofNat 0)), (.int .u64 (.ofNat 0)), .nils, (kI 0), (kI 0), (kI 0), (.str []), (.str []), (.int .u32 (.ofNat 0)), (.int .u64 (.ofNat 0)), .nils, (kI 0), (kI 0)] 2 [⟨0, 8, (.c t101)⟩, ⟨8, 8, (.c t102)⟩]) .leaf) fun r45 =>
 let t103 := vkV r45.2 (HP.nxQ h44)
 let h46 := HP.newQ h44 r45.1
 faC 7 t5 fun t104 =>
 ldI t104 h46 fun t105 =>
 obQ (evP (.build [(kI 0), (.str []), (.str []), (.int .u32 (.ofNat 0)), (.int .u64 (.ofNat 0)), .nils, (kI 0), (kI 0)] [⟨0, 1, (.c (kI 8))⟩, ⟨5, 1, (.c t103)⟩, ⟨7, 1, (.c (vI t105))⟩]) .leaf) fun t106 =>
 stsC 8 t5 t106 h46 fun h47 =>
 cellsC 5 t1 h47 fun t107 =>
 cal D 79 [t107, (vS ([93] : LN))] h47 fun t108 h48 =>
 stsC 5 t1 t108 h48 fun h49 =>
 g2 t1 t2 t3 t5 h49) (
 S168_1 D m t1 t2 t3 t5 h38)
def S168_2 (D : CallD) (m : Nat) : AV → AV → AV → AV → HP → Res2 := nrec (fun _ _ _ _ _ => none) (fun _ g => S168_2b D m g) m
def e168_0 (k t1 t2 t3 t4 t5 h) := kN k [(p1, t1), (p2, t2), (p3, t3), (p4, t4), (p5, t5)] h
def S168_0 (D : CallD) (m : Nat) (t1 t2 t3 t4 t5 : AV) (h : HP) : Res2 :=
 cellsC 5 t1 h fun t53 =>
 cal D 73 [t53, (vS ([40] : LN))] h fun t54 h19 =>
 asB t54 fun t54a =>
 obB (brV t54a (
 faCV 0 t1 fun t56 =>
 cellCV t56 h19 fun t57 =>
 faCV 1 t1 fun t58 =>
 ldIV t58 h19 fun t59 =>
 let t60 := wrQ .i64 (addQ t59 (Int.ofNat 1))
 iasCV 3 t57 (vI t60) fun t61 =>
 faCV 0 t61 fun t62 =>
 ldIV t62 h19 fun t63 =>
 let t64 := eqQ t63 (Int.ofNat 5)
 some (vB t64)) (
 some (vB false))) fun t65 =>
 br t65 (
 let t66 := (AV.agg [(kI 0), (vS ([] : LN)), (vS ([] : LN)), (vW (Int.ofNat 0)), (AV.int .u64 (Int.ofNat 0)), (.nils : AV), (kI 0), (kI 0)])
 let t7 := P0 h19
 let h20 := nQ h19 [(kI 0), (.str []), (.str []), (.int .u32 (.ofNat 0)), (.int .u64 (.ofNat 0)), .nils, (kI 0), (kI 0)]
 stsC 8 t7 t66 h20 fun h21 =>
 cellsC 5 t1 h21 fun t68 =>
 cal D 74 [t68] h21 fun t69 h22 =>
 cal D 75 [t69] h22 fun t70 h23 =>
 extC t70 0 fun t71 =>
 extC t70 1 fun vt72 => asI .i64 vt72 fun t72 =>
 stsC 5 t1 t71 h23 fun h24 =>
 cellsC 5 t1 h24 fun t74 =>
 cal D 79 [t74, (vS ([41] : LN))] h24 fun t75 h25 =>
 cal D 139 [t75] h25 fun t76 h26 =>
 extC t76 0 fun t77 =>
 extC t76 1 fun t78 =>
 stsC 5 t1 t77 h26 fun h27 =>
 stsC 8 t7 t78 h27 fun h28 =>
 cellsC 5 t1 h28 fun t79 =>
 let t81 := wrapF .u32 t72
 cellsC 8 t7 h28 fun t82 =>
 obQ (evA (.bsl [(kI 0), (.str []), (.str []), (.int .u32 (.ofNat 0)), (.int .u64 (.ofNat 0)), .nils, (kI 0), (kI 0)] 1 [⟨0, 8, (.c t82)⟩]) .leaf) fun r29 =>
 let t83 := vkV r29.2 (HP.nxQ h28)
 let h30 := HP.newQ h28 r29.1
 faC 2 t4 fun t84 =>
 ldI t84 h30 fun t85 =>
 obQ (evP (.build [(kI 0), (.str []), (.str []), (.int .u32 (.ofNat 0)), (.int .u64 (.ofNat 0)), .nils, (kI 0), (kI 0)] [⟨0, 1, (.c (kI 9))⟩, ⟨3, 1, (.c (vW t81))⟩, ⟨5, 1, (.c t83)⟩, ⟨7, 1, (.c (vI t85))⟩]) .leaf) fun t86 =>
 stsC 5 t2 t79 h30 fun h31 =>
 br (againE (.stores 5 q2 q79) [⟨none, .cells 8 q7, p82⟩, ⟨none, .cell q84, p85⟩] (mkT [(p2, t2), (p85, (vI t85)), (p84, t84), (p82, t82), (p7, t7)]) h31) (
 stsC 8 t3 t86 h31 fun h32 =>
 cellsC 5 t2 h32 fun t2a =>
 cellsC 8 t3 h32 fun t3a =>
 some (.ret (.tup [t2a, t3a]) h32, .no)) none) (
 cellsC 5 t1 h19 fun t88 =>
 cal D 187 [t88] h19 fun t89 h33 =>
 extC t89 0 fun t90 =>
 extC t89 1 fun t91 =>
 stsC 5 t1 t90 h33 fun h34 =>
 stsC 8 t5 t91 h34 fun h35 =>
 S168_2 D m t1 t2 t3 t5 h35)
def e168_6 (k t1 t2 t3 t4 t5 t37 h) := kN k [(p1, t1), (p2, t2), (p3, t3), (p4, t4), (p5, t5), (p37, (vB t37))] h
def S168_6 (D : CallD) (m : Nat) (t1 t2 t3 t4 t5 : AV) (t37 : Bool) (h : HP) : Res2 :=
 br t37 (
 let t38 := (AV.agg [(kI 0), (vS ([] : LN)), (vS ([] : LN)), (vW (Int.ofNat 0)), (AV.int .u64 (Int.ofNat 0)), (.nils : AV), (kI 0), (kI 0)])
 let t6 := P0 h
 let h51 := nQ h [(kI 0), (.str []), (.str []), (.int .u32 (.ofNat 0)), (.int .u64 (.ofNat 0)), .nils, (kI 0), (kI 0)]
 stsC 8 t6 t38 h51 fun h52 =>
 cellsC 5 t1 h52 fun t40 =>
 cal D 74 [t40] h52 fun t41 h53 =>
 cal D 139 [t41] h53 fun t42 h54 =>
 extC t42 0 fun t43 =>
 extC t42 1 fun t44 =>
 stsC 5 t1 t43 h54 fun h55 =>
 stsC 8 t6 t44 h55 fun h56 =>
 cellsC 5 t1 h56 fun t45 =>
 faC 1 t4 fun t46 =>
 ldS t46 h56 fun t47 =>
 cellsC 8 t6 h56 fun t48 =>
 obQ (evA (.bsl [(kI 0), (.str []), (.str []), (.int .u32 (.ofNat 0)), (.int .u64 (.ofNat 0)), .nils, (kI 0), (kI 0)] 1 [⟨0, 8, (.c t48)⟩]) .leaf) fun r57 =>
 let t49 := vkV r57.2 (HP.nxQ h56)
 let h58 := HP.newQ h56 r57.1
 faC 2 t4 fun t50 =>
 ldI t50 h58 fun t51 =>
 obQ (evP (.build [(kI 0), (.str []), (.str []), (.int .u32 (.ofNat 0)), (.int .u64 (.ofNat 0)), .nils, (kI 0), (kI 0)] [⟨0, 1, (.c (kI 4))⟩, ⟨1, 1, (.c (vS t47))⟩, ⟨5, 1, (.c t49)⟩, ⟨7, 1, (.c (vI t51))⟩]) .leaf) fun t52 =>
 stsC 5 t2 t45 h58 fun h59 =>
 br (againE (.stores 5 q2 q45) [⟨none, .cell q46, p47⟩, ⟨none, .cells 8 q6, p48⟩, ⟨none, .cell q50, p51⟩] (mkT [(p2, t2), (p51, (vI t51)), (p50, t50), (p48, t48), (p6, t6), (p47, (vS t47)), (p46, t46)]) h59) (
 stsC 8 t3 t52 h59 fun h60 =>
 cellsC 5 t2 h60 fun t2a =>
 cellsC 8 t3 h60 fun t3a =>
 some (.ret (.tup [t2a, t3a]) h60, .no)) none) (
 S168_0 D m t1 t2 t3 t4 t5 h)
def e168_5 (k t1 t2 t3 t4 t5 t33 h) := kN k [(p1, t1), (p2, t2), (p3, t3), (p4, t4), (p5, t5), (p33, (vB t33))] h
def S168_5 (D : CallD) (m : Nat) (t1 t2 t3 t4 t5 : AV) (t33 : Bool) (h : HP) : Res2 :=
 br t33 (
 S168_6 D m t1 t2 t3 t4 t5 true h) (
 cellsC 5 t1 h fun t35 =>
 cal D 73 [t35, (vS ([38] : LN))] h fun t36 h61 =>
 asB t36 fun t36a =>
 S168_6 D m t1 t2 t3 t4 t5 t36a h61)
def e168_4 (k t1 t2 t3 t4 t5 t29 h) := kN k [(p1, t1), (p2, t2), (p3, t3), (p4, t4), (p5, t5), (p29, (vB t29))] h
def S168_4 (D : CallD) (m : Nat) (t1 t2 t3 t4 t5 : AV) (t29 : Bool) (h : HP) : Res2 :=
 br t29 (
 S168_5 D m t1 t2 t3 t4 t5 true h) (
 cellsC 5 t1 h fun t31 =>
 cal D 73 [t31, (vS ([42] : LN))] h fun t32 h62 =>
 asB t32 fun t32a =>
 S168_5 D m t1 t2 t3 t4 t5 t32a h62)
def e168_3 (k t1 t2 t3 t4 t5 t25 h) := kN k [(p1, t1), (p2, t2), (p3, t3), (p4, t4), (p5, t5), (p25, (vB t25))] h
def S168_3 (D : CallD) (m : Nat) (t1 t2 t3 t4 t5 : AV) (t25 : Bool) (h : HP) : Res2 :=
 br t25 (
 S168_4 D m t1 t2 t3 t4 t5 true h) (
 cellsC 5 t1 h fun t27 =>
 cal D 73 [t27, (vS ([126] : LN))] h fun t28 h63 =>
 asB t28 fun t28a =>
 S168_4 D m t1 t2 t3 t4 t5 t28a h63)
def e168_8 (k t0 h) := kN k [(p0, t0)] h
def S168_8 (D : CallD) (m : Nat) (t0 : AV) (h : HP) : Res2 :=
 let t1 := P0 h
 let h9 := HP.newQ h (.cells true (AV.cells t0))
 let t2 := P0 h9
 let h10 := nQ h9 [.nils, (kI 0), (kI 0), (kI 0), (kI 0)]
 let t3 := P0 h10
 let h11 := nQ h10 [(kI 0), (.str []), (.str []), (.int .u32 (.ofNat 0)), (.int .u64 (.ofNat 0)), .nils, (kI 0), (kI 0)]
 cellsC 5 t1 h11 fun t10 =>
 cal D 50 [t10] h11 fun t11 h12 =>
 let t4 := P0 h12
 let h13 := nQ h12 [(kI 0), (.str []), (kI 0)]
 stsC 3 t4 t11 h13 fun h14 =>
 let t12 := (AV.ptr (HP.nxQ h12) (Nat.add 0 2))
 ldI t12 h14 fun t13 =>
 let t14 := (AV.agg [(kI 0), (vS ([] : LN)), (vS ([] : LN)), (vW (Int.ofNat 0)), (AV.int .u64 (Int.ofNat 0)), (.nils : AV), (kI 0), (vI t13)])
 let t5 := P0 h14
 let h15 := nQ h14 [(kI 0), (.str []), (.str []), (.int .u32 (.ofNat 0)), (.int .u64 (.ofNat 0)), .nils, (kI 0), (kI 0)]
 stsC 8 t5 t14 h15 fun h16 =>
 let t15 := (AV.ptr (HP.nxQ h) (Nat.add 0 3))
 ldI t15 h16 fun t16 =>
 let t17 := notQ (eqQ t16 (Int.ofNat 0))
 br t17 (
 cellsC 5 t1 h16 fun t18 =>
 cellsC 8 t5 h16 fun t19 =>
 stsC 5 t2 t18 h16 fun h17 =>
 br (againE (.stores 5 q2 q18) [⟨none, .cells 8 q5, p19⟩] (mkT [(p2, t2), (p19, t19), (p5, t5)]) h17) (
 stsC 8 t3 t19 h17 fun h18 =>
 cellsC 5 t2 h18 fun t2a =>
 cellsC 8 t3 h18 fun t3a =>
 some (.ret (.tup [t2a, t3a]) h18, .no)) none) (
 cellsC 5 t1 h16 fun t20 =>
 cal D 73 [t20, (vS ([45] : LN))] h16 fun t21 h50 =>
 asB t21 fun t21a =>
 br t21a (
 S168_3 D m t1 t2 t3 t4 t5 true h50) (
 cellsC 5 t1 h50 fun t23 =>
 cal D 73 [t23, (vS ([33] : LN))] h50 fun t24 h64 =>
 asB t24 fun t24a =>
 S168_3 D m t1 t2 t3 t4 t5 t24a h64))
def S168 : SFn := fun D m args h u => nou u <| popV args fun t0 args => endA args (S168_8 D m t0 h)
theorem T168_1 (hE : FX x168 D m E) : S168_1 D m = e168_1 (E c168_1 []) := by unfold S168_1; rw [hE c168_1]; kernel_rfl
theorem T168_2b (hE : FX x168 D m E) (G2) : S168_2b D m (e168_2 G2) = e168_2 (E c168_2b [.lp v168_2 G2, .blk 0, .sj v168_1 c168_1]) := by unfold S168_2b; rw [T168_1 hE, hE c168_2b]; kernel_rfl
theorem T168_2 (hE : FX x168 D m E) : S168_2 D m = e168_2 (nrec (fun _ => none) (fun _ G2 st => E c168_2b [.lp v168_2 G2, .blk 0, .sj v168_1 c168_1] st) m) :=
  nrec_emb e168_2 (fun _ _ _ _ _ => none) (fun g => S168_2b D m g) (fun G2 st => E c168_2b [.lp v168_2 G2, .blk 0, .sj v168_1 c168_1] st) rfl (fun g => T168_2b hE g) m
theorem T168_0 (hE : FX x168 D m E) : S168_0 D m = e168_0 (E c168_0 []) := by unfold S168_0; rw [T168_2 hE, hE c168_0]; kernel_rfl
theorem T168_6 (hE : FX x168 D m E) : S168_6 D m = e168_6 (E (.opq false l168_6 c168_7) [.sj v168_0 c168_0]) := by unfold S168_6; rw [T168_0 hE, hE (.opq false l168_6 c168_7)]; kernel_rfl
theorem T168_5 (hE : FX x168 D m E) : S168_5 D m = e168_5 (E (.opq false l168_5 c168_7) [.sj v168_0 c168_0]) := by unfold S168_5; rw [T168_6 hE, hE (.opq false l168_5 c168_7)]; kernel_rfl
theorem T168_4 (hE : FX x168 D m E) : S168_4 D m = e168_4 (E (.opq false l168_4 c168_7) [.sj v168_0 c168_0]) := by unfold S168_4; rw [T168_5 hE, hE (.opq false l168_4 c168_7)]; kernel_rfl
theorem T168_3 (hE : FX x168 D m E) : S168_3 D m = e168_3 (E (.opq false l168_3 c168_7) [.sj v168_0 c168_0]) := by unfold S168_3; rw [T168_4 hE, hE (.opq false l168_3 c168_7)]; kernel_rfl
theorem T168_8 (hE : FX x168 D m E) : S168_8 D m = e168_8 (E c168_e []) := by unfold S168_8; rw [T168_3 hE, hE c168_e]; kernel_rfl
theorem X168 : XTie S168 x168 := X_of fun D m E hE args h u => by unfold S168; rw [T168_8 hE]; kernel_rfl
/- 169 -/
def c169_e : XC := (.sO [.al p1 (.box q0), .mv p2 (cb false) .b] (.sO [.fa p3 0 q1, .ld p4 q3 tI, .bn p5 .eql q4 (ci 3) .b, .mv p6 q5 .b, .ge p6 (XL.of [.G p6 true p7 (.faddr 3 q1) .v, .o ⟨(some p8), (.l (.cell q7)), (some (p6, true)), []⟩ tW, .G p6 true p9 (.bin .eql q8 (.c (.int .u32 (.ofNat 0)))) .b, .P p10 (.pick q6 q9 (cb false)) .b]) p10 .b, .mv p11 q10 .b, .ge p11 (XL.of [.G p11 false p12 (.faddr 0 q1) .v, .o ⟨(some p13), (.l (.cell q12)), (some (p11, false)), []⟩ tI, .G p11 false p14 (.bin .eql q13 (ci 8)) .b, .P p15 (.pick q11 (cb true) q14) .b]) p15 .b, .mv p16 q15 .b, .ge p16 (XL.of [.G p16 false p17 (.faddr 0 q1) .v, .o ⟨(some p18), (.l (.cell q17)), (some (p16, false)), []⟩ tI, .G p16 false p19 (.bin .eql q18 (ci 4)) .b, .G p16 false p20 (.mov q19) .b, .ge p20 (XL.of [.G p20 true p21 (.faddr 1 q1) .v, .o ⟨(some p22), (.l (.cell q21)), (some (p20, true)), []⟩ .s, .G p20 true p23 (.bin .eql q22 (.c (.str [42]))) .b, .G p16 false p24 (.pick q20 q23 (cb false)) .b]) p24 .b, .P p25 (.pick q16 (cb true) q24) .b]) p25 .b, .mv p2 q25 .b] (.s .ret)))
def x169 : XFn := ⟨[.v], false, [(.tmp p2)], c169_e⟩
def e169_0 (k t0 h) := kN k [(p0, t0)] h
def S169_0 (D : CallD) (m : Nat) (t0 : AV) (h : HP) : Res2 :=
 let t1 := P0 h
 let h1 := HP.newQ h (.cells true (AV.cells t0))
 let t3 := (AV.ptr (HP.nxQ h) (Nat.add 0 0))
 ldI t3 h1 fun t4 =>
 let t5 := eqQ t4 (Int.ofNat 3)
 obB (brV t5 (
 let t7 := (AV.ptr (HP.nxQ h) (Nat.add 0 3))
 ldWV t7 h1 fun t8 =>
 binCV .eql (vW t8) (vW (Int.ofNat 0)) fun vt9 => asBV vt9 fun t9 =>
 some (vB t9)) (
 some (vB false))) fun t10 =>
 obB (brV t10 (
 some (vB true)) (
 let t12 := (AV.ptr (HP.nxQ h) (Nat.add 0 0))
 ldIV t12 h1 fun t13 =>
 let t14 := eqQ t13 (Int.ofNat 8)
 some (vB t14))) fun t15 =>
 obB (brV t15 (
 some (vB true)) (
 let t17 := (AV.ptr (HP.nxQ h) (Nat.add 0 0))
 ldIV t17 h1 fun t18 =>
 let t19 := eqQ t18 (Int.ofNat 4)
 obBV (brV t19 (
 let t21 := (AV.ptr (HP.nxQ h) (Nat.add 0 1))
 ldSV t21 h1 fun t22 =>
 let t23 := eqL t22 ([42] : LN)
 some (vB t23)) (
 some (vB false))) fun t24 =>
 some (vB t24))) fun t25 =>
 some (.ret (vB t25) h1, .no)
def S169 : SFn := fun D m args h u => nou u <| popV args fun t0 args => endA args (S169_0 D m t0 h)
theorem T169_0 (hE : FX x169 D m E) : S169_0 D m = e169_0 (E c169_e []) := by unfold S169_0; rw [hE c169_e]; kernel_rfl
theorem X169 : XTie S169 x169 := X_of fun D m E hE args h u => by unfold S169; rw [T169_0 hE]; kernel_rfl
/- 170 -/
def v170_0 : List Pos := []
def c170_0 : XC := (.sO [.mv p4 (cb false) .b] (.s .ret))
def v170_1 : List Pos := [p0, p1, p7, p8]
def c170_1b : XC := (.sO [.bn p9 .lss q8 q7 .b] (.seq (.cond q9 .skip (.exit 0)) (.seq (.block 1 (.seq (.oX [.mv p10 q8 tI, .mv p5 q10 tI]) (.seq (.oX [.mv p11 q0 .v, .mv p12 q5 tI, .P p13 (.iaddr (.sl 1) q11 q12) .v, .ld p14 q13 .s, .mv p15 q1 .s, .bn p16 .eql q14 q15 .b]) (.cond q16 (.seq (.oX [.mv p4 (cb true) .b]) .ret) .skip)))) (.s (.oX [.bn p17 .add q8 (ci 1) tI, .mv p8 q17 tI])))))
def c170_e : XC := (.sO [.mv p4 (cb false) .b] (.sj v170_0 (.sO [.mv p6 q0 .v, .P p7 (.lenl q6) tI, .mv p8 (ci 0) tI] (.block 0 (.loop v170_1 c170_1b))) c170_0))
def x170 : XFn := ⟨[.v, .s], false, [(.tmp p4)], c170_e⟩
def e170_0 (k h) := kN k [] h
def S170_0 (D : CallD) (m : Nat) (h : HP) : Res2 :=
 some (.ret (vB false) h, .no)
def e170_1 (k t0 t1 t7 t8 h) := kN k [(p0, t0), (p1, (vS t1)), (p7, (vI t7)), (p8, (vI t8))] h
def S170_1b (D : CallD) (m : Nat) (g1 : AV → LN → Int → Int → HP → Res2) (t0 : AV) (t1 : LN) (t7 t8 : Int) (h : HP) : Res2 :=
 let t9 := ltQ t8 t7
 br t9 (
 iasC 1 t0 (vI t8) fun t13 =>
 ldS t13 h fun t14 =>
 let t16 := eqL t14 t1
 br t16 (
 some (.ret (vB true) h, .no)) (
 let t17 := wrQ .i64 (addQ t8 (Int.ofNat 1))
 g1 t0 t1 t7 t17 h)) (
 S170_0 D m h)
def S170_1 (D : CallD) (m : Nat) : AV → LN → Int → Int → HP → Res2 := nrec (fun _ _ _ _ _ => none) (fun _ g => S170_1b D m g) m
def e170_2 (k t0 t1 h) := kN k [(p0, t0), (p1, (vS t1))] h
def S170_2 (D : CallD) (m : Nat) (t0 : AV) (t1 : LN) (h : HP) : Res2 :=
 lenC t0 fun vt7 => asI .i64 vt7 fun t7 =>
 S170_1 D m t0 t1 t7 (Int.ofNat 0) h
def S170 : SFn := fun D m args h u => nou u <| popV args fun t0 args => popS args fun t1 args => endA args (S170_2 D m t0 t1 h)
theorem T170_0 (hE : FX x170 D m E) : S170_0 D m = e170_0 (E c170_0 []) := by unfold S170_0; rw [hE c170_0]; kernel_rfl
theorem T170_1b (hE : FX x170 D m E) (G1) : S170_1b D m (e170_1 G1) = e170_1 (E c170_1b [.lp v170_1 G1, .blk 0, .sj v170_0 c170_0]) := by unfold S170_1b; rw [T170_0 hE, hE c170_1b]; kernel_rfl
theorem T170_1 (hE : FX x170 D m E) : S170_1 D m = e170_1 (nrec (fun _ => none) (fun _ G1 st => E c170_1b [.lp v170_1 G1, .blk 0, .sj v170_0 c170_0] st) m) :=
  nrec_emb e170_1 (fun _ _ _ _ _ => none) (fun g => S170_1b D m g) (fun G1 st => E c170_1b [.lp v170_1 G1, .blk 0, .sj v170_0 c170_0] st) rfl (fun g => T170_1b hE g) m
theorem T170_2 (hE : FX x170 D m E) : S170_2 D m = e170_2 (E c170_e []) := by unfold S170_2; rw [T170_1 hE, hE c170_e]; kernel_rfl
theorem X170 : XTie S170 x170 := X_of fun D m E hE args h u => by unfold S170; rw [T170_2 hE]; kernel_rfl
/- 178 -/
def c178_e : XC := (.sO [.mv p2 (ci 0) tI] (.sO [.al p3 (.mkmap), .o ⟨none, (.e (.mset .str q3 (.c (.str [43])) (ci 1))), none, []⟩ .v, .o ⟨none, (.e (.mset .str q3 (.c (.str [45])) (ci 2))), none, []⟩ .v, .o ⟨none, (.e (.mset .str q3 (.c (.str [42])) (ci 11))), none, []⟩ .v, .o ⟨none, (.e (.mset .str q3 (.c (.str [47])) (ci 14))), none, []⟩ .v, .o ⟨none, (.e (.mset .str q3 (.c (.str [37])) (ci 16))), none, []⟩ .v, .o ⟨none, (.e (.mset .str q3 (.c (.str [60, 60])) (ci 3))), none, []⟩ .v, .o ⟨none, (.e (.mset .str q3 (.c (.str [62, 62])) (ci 8))), none, []⟩ .v, .o ⟨none, (.e (.mset .str q3 (.c (.str [38])) (ci 10))), none, []⟩ .v, .o ⟨none, (.e (.mset .str q3 (.c (.str [94])) (ci 6))), none, []⟩ .v, .o ⟨none, (.e (.mset .str q3 (.c (.str [124])) (ci 9))), none, []⟩ .v, .mv p4 q3 .v, .mv p5 q0 .s, .L p6 (.look .str (kI 0) false q4 q5) tI, .mv p2 q6 tI] (.s .ret)))
def x178 : XFn := ⟨[.s], false, [(.tmp p2)], c178_e⟩
def e178_0 (k t0 h) := kN k [(p0, (vS t0))] h
def S178_0 (D : CallD) (m : Nat) (t0 : LN) (h : HP) : Res2 :=
 let t3 := AV.map (HP.nxQ h)
 let h1 := HP.newQ h (.map [] 0)
 eff (.mset .str (.c t3) (.c (vS ([43] : LN))) (.c (kI 1))) h1 fun t0a h2 =>
 eff (.mset .str (.c t3) (.c (vS ([45] : LN))) (.c (kI 2))) h2 fun t0aa h3 =>
 eff (.mset .str (.c t3) (.c (vS ([42] : LN))) (.c (kI 11))) h3 fun t0aaa h4 =>
 eff (.mset .str (.c t3) (.c (vS ([47] : LN))) (.c (kI 14))) h4 fun t0aaaa h5 =>
 eff (.mset .str (.c t3) (.c (vS ([37] : LN))) (.c (kI 16))) h5 fun t0aaaaa h6 =>
 eff (.mset .str (.c t3) (.c (vS ([60, 60] : LN))) (.c (kI 3))) h6 fun t0aaaaaa h7 =>
 eff (.mset .str (.c t3) (.c (vS ([62, 62] : LN))) (.c (kI 8))) h7 fun t0aaaaaaa h8 =>
 eff (.mset .str (.c t3) (.c (vS ([38] : LN))) (.c (kI 10))) h8 fun t0aaaaaaaa h9 =>
 eff (.mset .str (.c t3) (.c (vS ([94] : LN))) (.c (kI 6))) h9 fun t0aaaaaaaaa h10 =>
 eff (.mset .str (.c t3) (.c (vS ([124] : LN))) (.c (kI 9))) h10 fun t0aaaaaaaaaa h11 =>
 obI .i64 (evL (.look .str (kI 0) false (.c t3) (.c (vS t0))) .leaf h11) fun t6 =>
 some (.ret (vI t6) h11, .no)
def S178 : SFn := fun D m args h u => nou u <| popS args fun t0 args => endA args (S178_0 D m t0 h)
theorem T178_0 (hE : FX x178 D m E) : S178_0 D m = e178_0 (E c178_e []) := by unfold S178_0; rw [hE c178_e]; kernel_rfl
theorem X178 : XTie S178 x178 := X_of fun D m E hE args h u => by unfold S178; rw [T178_0 hE]; kernel_rfl
/- 179 -/
def c179_e : XC := (.sO [.mv p6 (.c (.int .u32 (.ofNat 0))) tW, .mv p7 (ci 0) tI] (.sO [.mv p10 q1 tW, .P p11 (.conv (.ii .i32) q10) (.i .i32), .mv p12 q2 tW, .P p13 (.conv (.ii .i32) q12) (.i .i32), .mv p8 q11 (.i .i32), .mv p9 q13 (.i .i32)] (.seq (.seq (.oX [.mv p14 q0 tI]) (.block 0 (.seq (.oX [.bn p16 .eql q14 (ci 1) .b, .mv p15 q16 .b]) (.cond q15 (.seq (.oX [.mv p17 q1 tW, .mv p18 q2 tW, .bn p19 .add q17 q18 tW, .mv p6 q19 tW, .mv p7 (ci 0) tI]) .ret) (.seq (.oX [.bn p21 .eql q14 (ci 2) .b, .mv p20 q21 .b]) (.cond q20 (.seq (.oX [.mv p22 q1 tW, .mv p23 q2 tW, .bn p24 .sub q22 q23 tW, .mv p6 q24 tW, .mv p7 (ci 0) tI]) .ret) (.seq (.oX [.bn p26 .eql q14 (ci 3) .b, .mv p25 q26 .b]) (.cond q25 (.seq (.oX [.mv p27 q1 tW, .mv p28 q2 tW, .bn p29 .and q28 (.c (.int .u32 (.ofNat 31))) tW, .bn p30 .shl q27 q29 tW, .mv p6 q30 tW, .mv p7 (ci 0) tI]) .ret) (.seq (.oX [.bn p32 .eql q14 (ci 4) .b, .mv p31 q32 .b]) (.cond q31 (.seq (.oX [.mv p33 q8 (.i .i32), .mv p34 q9 (.i .i32), .bn p35 .lss q33 q34 .b, .cl p36 190 [q35] tW, .mv p6 q36 tW, .mv p7 (ci 0) tI]) .ret) (.seq (.oX [.bn p38 .eql q14 (ci 5) .b, .mv p37 q38 .b]) (.cond q37 (.seq (.oX [.mv p39 q1 tW, .mv p40 q2 tW, .bn p41 .lss q39 q40 .b, .cl p42 190 [q41] tW, .mv p6 q42 tW, .mv p7 (ci 0) tI]) .ret) (.seq (.oX [.bn p44 .eql q14 (ci 6) .b, .mv p43 q44 .b]) (.cond q43 (.seq (.oX [.mv p45 q1 tW, .mv p46 q2 tW, .bn p47 .xor q45 q46 tW, .mv p6 q47 tW, .mv p7 (ci 0) tI]) .ret) (.seq (.oX [.bn p49 .eql q14 (ci 7) .b, .mv p48 q49 .b]) (.cond q48 (.seq (.oX [.mv p50 q1 tW, .mv p51 q2 tW, .bn p52 .and q51 (.c (.int .u32 (.ofNat 31))) tW, .bn p53 .shr q50 q52 tW, .mv p6 q53 tW, .mv p7 (ci 0) tI]) .ret) (.seq (.oX [.bn p55 .eql q14 (ci 8) .b, .mv p54 q55 .b]) (.cond q54 (.seq (.oX [.mv p56 q8 (.i .i32), .mv p57 q2 tW, .bn p58 .and q57 (.c (.int .u32 (.ofNat 31))) tW, .bn p59 .shr q56 q58 (.i .i32), .P p60 (.conv (.ii .u32) q59) tW, .mv p6 q60 tW, .mv p7 (ci 0) tI]) .ret) (.seq (.oX [.bn p62 .eql q14 (ci 9) .b, .mv p61 q62 .b]) (.cond q61 (.seq (.oX [.mv p63 q1 tW, .mv p64 q2 tW, .bn p65 .or q63 q64 tW, .mv p6 q65 tW, .mv p7 (ci 0) tI]) .ret) (.seq (.oX [.bn p67 .eql q14 (ci 10) .b, .mv p66 q67 .b]) (.cond q66 (.seq (.oX [.mv p68 q1 tW, .mv p69 q2 tW, .bn p70 .and q68 q69 tW, .mv p6 q70 tW, .mv p7 (ci 0) tI]) .ret) .skip)))))))))))))))))))))) (.sO [.mv p71 q0 tI, .mv p72 q1 tW, .mv p73 q2 tW, .cl p74 191 [q71, q72, q73] .v, .P p75 (.ext q74 0) tW, .P p76 (.ext q74 1) tI, .mv p6 q75 tW, .mv p7 q76 tI] (.s .ret)))))
def x179 : XFn := ⟨[tI, tW, tW], false, [(.tmp p6), (.tmp p7)], c179_e⟩
def e179_0 (k t0 t1 t2 h) := kN k [(p0, (vI t0)), (p1, (vW t1)), (p2, (vW t2))] h
def S179_0 (D : CallD) (m : Nat) (t0 t1 t2 : Int) (h : HP) : Res2 :=
 obI .i32 (convV (.ii .i32) (vW t1)) fun t11 =>
 obI .i32 (convV (.ii .i32) (vW t2)) fun t13 =>
 let t16 := eqQ t0 (Int.ofNat 1)
 br t16 (
 binC .add (vW t1) (vW t2) fun vt19 => asI .u32 vt19 fun t19 =>
 some (.ret (.tup [(vW t19), (kI 0)]) h, .no)) (
 let t21 := eqQ t0 (Int.ofNat 2)
 br t21 (
 binC .sub (vW t1) (vW t2) fun vt24 => asI .u32 vt24 fun t24 =>
 some (.ret (.tup [(vW t24), (kI 0)]) h, .no)) (
 let t26 := eqQ t0 (Int.ofNat 3)
 br t26 (
 binC .and (vW t2) (vW (Int.ofNat 31)) fun vt29 => asI .u32 vt29 fun t29 =>
 obI .u32 (shiftF .shl .u32 t1 t29) fun t30 =>
 some (.ret (.tup [(vW t30), (kI 0)]) h, .no)) (
 let t32 := eqQ t0 (Int.ofNat 4)
 br t32 (
 let t35 := ltQ t11 t13
 cal D 190 [(vB t35)] h fun t36 h1 =>
 asI .u32 t36 fun t36a =>
 some (.ret (.tup [(vW t36a), (kI 0)]) h1, .no)) (
 let t38 := eqQ t0 (Int.ofNat 5)
 br t38 (
 binC .lss (vW t1) (vW t2) fun vt41 => asB vt41 fun t41 =>
 cal D 190 [(vB t41)] h fun t42 h2 =>
 asI .u32 t42 fun t42a =>
 some (.ret (.tup [(vW t42a), (kI 0)]) h2, .no)) (
 let t44 := eqQ t0 (Int.ofNat 6)
 br t44 (
 binC .xor (vW t1) (vW t2) fun vt47 => asI .u32 vt47 fun t47 =>
 some (.ret (.tup [(vW t47), (kI 0)]) h, .no)) (
 let t49 := eqQ t0 (Int.ofNat 7)
 br t49 (
 binC .and (vW t2) (vW (Int.ofNat 31)) fun vt52 => asI .u32 vt52 fun t52 =>
 obI .u32 (shiftF .shr .u32 t1 t52) fun t53 =>
 some (.ret (.tup [(vW t53), (kI 0)]) h, .no)) (
 let t55 := eqQ t0 (Int.ofNat 8)
 br t55 (
 binC .and (vW t2) (vW (Int.ofNat 31)) fun vt58 => asI .u32 vt58 fun t58 =>
 obI .i32 (shiftF .shr .i32 t11 t58) fun t59 =>
 let t60 := wrapF .u32 t59
 some (.ret (.tup [(vW t60), (kI 0)]) h, .no)) (
 let t62 := eqQ t0 (Int.ofNat 9)
 br t62 (
 binC .or (vW t1) (vW t2) fun vt65 => asI .u32 vt65 fun t65 =>
 some (.ret (.tup [(vW t65), (kI 0)]) h, .no)) (
 let t67 := eqQ t0 (Int.ofNat 10)
 br t67 (
 binC .and (vW t1) (vW t2) fun vt70 => asI .u32 vt70 fun t70 =>
 some (.ret (.tup [(vW t70), (kI 0)]) h, .no)) (
 cal D 191 [(vI t0), (vW t1), (vW t2)] h fun t74 h3 =>
 extC t74 0 fun vt75 => asI .u32 vt75 fun t75 =>
 extC t74 1 fun vt76 => asI .i64 vt76 fun t76 =>
 some (.ret (.tup [(vW t75), (vI t76)]) h3, .no)))))))))))
def S179 : SFn := fun D m args h u => nou u <| popI .i64 args fun t0 args => popI .u32 args fun t1 args => popI .u32 args fun t2 args => endA args (S179_0 D m t0 t1 t2 h)
theorem T179_0 (hE : FX x179 D m E) : S179_0 D m = e179_0 (E c179_e []) := by unfold S179_0; rw [hE c179_e]; kernel_rfl
theorem X179 : XTie S179 x179 := X_of fun D m E hE args h u => by unfold S179; rw [T179_0 hE]; kernel_rfl
/- 185 -/
def c185_e : XC := (.sO [.mv p2 (cb false) .b] (.sO [.mv p3 q0 tI, .bn p4 .eql q3 (ci 3) .b, .mv p5 q4 .b, .ge p5 (XL.of [.G p5 false p6 (.mov q0) tI, .G p5 false p7 (.bin .eql q6 (ci 4)) .b, .P p8 (.pick q5 (cb true) q7) .b]) p8 .b, .mv p2 q8 .b] (.s .ret)))
def x185 : XFn := ⟨[tI], false, [(.tmp p2)], c185_e⟩
def e185_0 (k t0 h) := kN k [(p0, (vI t0))] h
def S185_0 (D : CallD) (m : Nat) (t0 : Int) (h : HP) : Res2 :=
 let t4 := eqQ t0 (Int.ofNat 3)
 obB (brV t4 (
 some (vB true)) (
 let t7 := eqQ t0 (Int.ofNat 4)
 some (vB t7))) fun t8 =>
 some (.ret (vB t8) h, .no)
def S185 : SFn := fun D m args h u => nou u <| popI .i64 args fun t0 args => endA args (S185_0 D m t0 h)
theorem T185_0 (hE : FX x185 D m E) : S185_0 D m = e185_0 (E c185_e []) := by unfold S185_0; rw [hE c185_e]; kernel_rfl
theorem X185 : XTie S185 x185 := X_of fun D m E hE args h u => by unfold S185; rw [T185_0 hE]; kernel_rfl
/- 187 -/
def c187_e : XC := (.sO [.al p1 (.box q0), .al p2 (.new [.nils, (kI 0), (kI 0), (kI 0), (kI 0)]), .al p3 (.new [(kI 0), (.str []), (.str []), (.int .u32 (.ofNat 0)), (.int .u64 (.ofNat 0)), .nils, (kI 0), (kI 0)])] (.sO [.L p9 (.cells 5 q1) .v, .cl p10 50 [q9] .v, .al p4 (.new [(kI 0), (.str []), (kI 0)]), .ss 3 q4 q10] (.seq (.seq (.oX [.fa p11 0 q4, .ld p12 q11 tI]) (.block 0 (.seq (.oX [.bn p14 .eql q12 (ci 2) .b, .mv p13 q14 .b]) (.cond q13 (.seq (.ops true (XL.of [.L p15 (.cells 5 q1) .v, .fa p17 1 q4, .ld p18 q17 .s, .fa p21 2 q4, .ld p22 q21 tI, .o ⟨(some p16), (.call (.fn 74) [q15]), none, [⟨none, .cell q17, p18⟩, ⟨none, .cell q21, p22⟩]⟩ .v, .o ⟨(some p19), (.call (.fn 113) [q18]), none, [⟨none, .cell q21, p22⟩]⟩ tI, .P p20 (.conv (.ii .u32) q19) tW, .P p23 (.build [(kI 0), (.str []), (.str []), (.int .u32 (.ofNat 0)), (.int .u64 (.ofNat 0)), .nils, (kI 0), (kI 0)] [⟨0, 1, (ci 1)⟩, ⟨3, 1, q20⟩, ⟨7, 1, q22⟩]) .v, .o ⟨none, (.e (.stores 5 q2 q16)), none, [⟨none, .cell q21, p22⟩]⟩ .v, .ss 8 q3 q23])) .ret) (.seq (.oX [.bn p25 .eql q12 (ci 3) .b, .mv p24 q25 .b]) (.cond q24 (.seq (.oX [.fa p27 1 q4, .ld p28 q27 .s, .cl p29 194 [q28] .v, .mv p26 q29 .v, .P p30 (.ext q26 0) (.i .u64), .P p31 (.ext q26 1) .b, .mv p5 q30 (.i .u64), .mv p6 q31 .b]) (.seq (.ops true (XL.of [.L p32 (.cells 5 q1) .v, .mv p34 q5 (.i .u64), .fa p35 2 q4, .ld p36 q35 tI, .P p37 (.build [(kI 0), (.str []), (.str []), (.int .u32 (.ofNat 0)), (.int .u64 (.ofNat 0)), .nils, (kI 0), (kI 0)] [⟨0, 1, (ci 2)⟩, ⟨4, 1, q34⟩, ⟨7, 1, q36⟩]) .v, .o ⟨(some p33), (.call (.fn 74) [q32]), none, [⟨none, .cell q35, p36⟩]⟩ .v, .o ⟨none, (.e (.stores 5 q2 q33)), none, [⟨none, .cell q35, p36⟩]⟩ .v, .ss 8 q3 q37])) .ret)) (.seq (.oX [.bn p39 .eql q12 (ci 1) .b, .mv p38 q39 .b]) (.cond q38 (.seq (.oX [.L p40 (.cells 5 q1) .v, .cl p41 74 [q40] .v, .ss 5 q1 q41]) (.seq (.seq (.oX [.L p42 (.cells 5 q1) .v, .cl p43 73 [q42, (.c (.str [40]))] .b, .P p44 (.un .not q43) .b]) (.cond q44 (.seq (.ops true (XL.of [.L p45 (.cells 5 q1) .v, .fa p46 1 q4, .ld p47 q46 .s, .fa p48 2 q4, .ld p49 q48 tI, .P p50 (.build [(kI 0), (.str []), (.str []), (.int .u32 (.ofNat 0)), (.int .u64 (.ofNat 0)), .nils, (kI 0), (kI 0)] [⟨0, 1, (ci 3)⟩, ⟨2, 1, q47⟩, ⟨7, 1, q49⟩]) .v, .o ⟨none, (.e (.stores 5 q2 q45)), none, [⟨none, .cell q46, p47⟩, ⟨none, .cell q48, p49⟩]⟩ .v, .ss 8 q3 q50])) .ret) .skip)) (.seq (.oX [.fa p51 1 q4, .ld p52 q51 .s, .fa p53 2 q4, .ld p54 q53 tI, .P p55 (.build [(kI 0), (.str []), (.str []), (.int .u32 (.ofNat 0)), (.int .u64 (.ofNat 0)), .nils, (kI 0), (kI 0)] [⟨0, 1, (ci 7)⟩, ⟨2, 1, q52⟩, ⟨7, 1, q54⟩]) .v, .al p7 (.new [(kI 0), (.str []), (.str []), (.int .u32 (.ofNat 0)), (.int .u64 (.ofNat 0)), .nils, (kI 0), (kI 0)]), .ss 8 q7 q55]) (.seq (.oX [.L p57 (.cells 5 q1) .v, .cl p58 74 [q57] .v, .cl p59 195 [q58] .v, .mv p56 q59 .v, .P p60 (.ext q56 0) .v, .P p61 (.ext q56 1) .v, .ss 5 q1 q60, .fa p62 5 q7, .st q62 q61]) (.seq (.ops true (XL.of [.L p63 (.cells 5 q1) .v, .L p64 (.cells 8 q7) .v, .o ⟨none, (.e (.stores 5 q2 q63)), none, [⟨none, .cells 8 q7, p64⟩]⟩ .v, .ss 8 q3 q64])) .ret))))) .skip)))))))) (.sO [.P p65 (.build [(kI 0), (.str []), (.str []), (.int .u32 (.ofNat 0)), (.int .u64 (.ofNat 0)), .nils, (kI 0), (kI 0)] []) .v, .al p8 (.new [(kI 0), (.str []), (.str []), (.int .u32 (.ofNat 0)), (.int .u64 (.ofNat 0)), .nils, (kI 0), (kI 0)]), .ss 8 q8 q65] (.sO [.L p67 (.cells 5 q1) .v, .cl p68 79 [q67, (.c (.str [40]))] .v, .cl p69 81 [q68] .v, .mv p66 q69 .v, .P p70 (.ext q66 0) .v, .P p71 (.ext q66 1) .v, .ss 5 q1 q70, .ss 8 q8 q71] (.seq (.ops true (XL.of [.L p72 (.cells 5 q1) .v, .L p74 (.cells 8 q8) .v, .o ⟨(some p73), (.call (.fn 79) [q72, (.c (.str [41]))]), none, [⟨none, .cells 8 q8, p74⟩]⟩ .v, .o ⟨none, (.e (.stores 5 q2 q73)), none, [⟨none, .cells 8 q8, p74⟩]⟩ .v, .ss 8 q3 q74])) (.s .ret)))))))
def x187 : XFn := ⟨[.v], false, [(.cells 5 p2), (.cells 8 p3)], c187_e⟩
def e187_0 (k t0 h) := kN k [(p0, t0)] h
def S187_0 (D : CallD) (m : Nat) (t0 : AV) (h : HP) : Res2 :=
 let t1 := P0 h
 let h1 := HP.newQ h (.cells true (AV.cells t0))
 let t2 := P0 h1
 let h2 := nQ h1 [.nils, (kI 0), (kI 0), (kI 0), (kI 0)]
 let t3 := P0 h2
 let h3 := nQ h2 [(kI 0), (.str []), (.str []), (.int .u32 (.ofNat 0)), (.int .u64 (.ofNat 0)), .nils, (kI 0), (kI 0)]
 cellsC 5 t1 h3 fun t9 =>
 cal D 50 [t9] h3 fun t10 h4 =>
 let t4 := P0 h4
 let h5 := nQ h4 [(kI 0), (.str []), (kI 0)]
 stsC 3 t4 t10 h5 fun h6 =>
 let t11 := (AV.ptr (HP.nxQ h4) (Nat.add 0 0))
 ldI t11 h6 fun t12 =>
 let t14 := eqQ t12 (Int.ofNat 2)
 br t14 (
 cellsC 5 t1 h6 fun t15 =>
 let t17 := (AV.ptr (HP.nxQ h4) (Nat.add 0 1))
 ldS t17 h6 fun t18 =>
 let t21 := (AV.ptr (HP.nxQ h4) (Nat.add 0 2))
 ldI t21 h6 fun t22 =>
 cal D 74 [t15] h6 fun t16 h7 =>
 br (again [⟨none, .cell q17, p18⟩, ⟨none, .cell q21, p22⟩] (mkT [(p22, (vI t22)), (p21, t21), (p18, (vS t18)), (p17, t17)]) h7) (
 cal D 113 [(vS t18)] h7 fun t19 h8 =>
 br (again [⟨none, .cell q21, p22⟩] (mkT [(p22, (vI t22)), (p21, t21)]) h8) (
 asI .i64 t19 fun t19a =>
 let t20 := wrapF .u32 t19a
 let t23 := (AV.agg [(kI 1), (vS ([] : LN)), (vS ([] : LN)), (vW t20), (AV.int .u64 (Int.ofNat 0)), (.nils : AV), (kI 0), (vI t22)])
 stsC 5 t2 t16 h8 fun h9 =>
 br (againE (.stores 5 q2 q16) [⟨none, .cell q21, p22⟩] (mkT [(p2, t2), (p22, (vI t22)), (p21, t21)]) h9) (
 stsC 8 t3 t23 h9 fun h10 =>
 cellsC 5 t2 h10 fun t2a =>
 cellsC 8 t3 h10 fun t3a =>
 some (.ret (.tup [t2a, t3a]) h10, .no)) none) none) none) (
 let t25 := eqQ t12 (Int.ofNat 3)
 br t25 (
 let t27 := (AV.ptr (HP.nxQ h4) (Nat.add 0 1))
 ldS t27 h6 fun t28 =>
 cal D 194 [(vS t28)] h6 fun t29 h11 =>
 extC t29 0 fun vt30 => asI .u64 vt30 fun t30 =>
 extC t29 1 fun vt31 => asB vt31 fun t31 =>
 cellsC 5 t1 h11 fun t32 =>
 let t35 := (AV.ptr (HP.nxQ h4) (Nat.add 0 2))
 ldI t35 h11 fun t36 =>
 let t37 := (AV.agg [(kI 2), (vS ([] : LN)), (vS ([] : LN)), (vW (Int.ofNat 0)), (AV.int .u64 t30), (.nils : AV), (kI 0), (vI t36)])
 cal D 74 [t32] h11 fun t33 h12 =>
 br (again [⟨none, .cell q35, p36⟩] (mkT [(p36, (vI t36)), (p35, t35)]) h12) (
 stsC 5 t2 t33 h12 fun h13 =>
 br (againE (.stores 5 q2 q33) [⟨none, .cell q35, p36⟩] (mkT [(p2, t2), (p36, (vI t36)), (p35, t35)]) h13) (
 stsC 8 t3 t37 h13 fun h14 =>
 cellsC 5 t2 h14 fun t2a =>
 cellsC 8 t3 h14 fun t3a =>
 some (.ret (.tup [t2a, t3a]) h14, .no)) none) none) (
 let t39 := eqQ t12 (Int.ofNat 1)
 br t39 (
 cellsC 5 t1 h6 fun t40 =>
 cal D 74 [t40] h6 fun t41 h15 =>
 stsC 5 t1 t41 h15 fun h16 =>
 cellsC 5 t1 h16 fun t42 =>
 cal D 73 [t42, (vS ([40] : LN))] h16 fun t43 h17 =>
 asB t43 fun t43a =>
 let t44 := !t43a
 br t44 (
 cellsC 5 t1 h17 fun t45 =>
 let t46 := (AV.ptr (HP.nxQ h4) (Nat.add 0 1))
 ldS t46 h17 fun t47 =>
 let t48 := (AV.ptr (HP.nxQ h4) (Nat.add 0 2))
 ldI t48 h17 fun t49 =>
 let t50 := (AV.agg [(kI 3), (vS ([] : LN)), (vS t47), (vW (Int.ofNat 0)), (AV.int .u64 (Int.ofNat 0)), (.nils : AV), (kI 0), (vI t49)])
 stsC 5 t2 t45 h17 fun h18 =>
 br (againE (.stores 5 q2 q45) [⟨none, .cell q46, p47⟩, ⟨none, .cell q48, p49⟩] (mkT [(p2, t2), (p49, (vI t49)), (p48, t48), (p47, (vS t47)), (p46, t46)]) h18) (
 stsC 8 t3 t50 h18 fun h19 =>
 cellsC 5 t2 h19 fun t2a =>
 cellsC 8 t3 h19 fun t3a =>
 some (.ret (.tup [t2a, t3a]) h19, .no)) none) (
 let t51 := (AV.ptr (HP.nxQ h4) (Nat.add 0 1))
 ldS t51 h17 fun t52 =>
 let t53 := (AV.ptr (HP.nxQ h4) (Nat.add 0 2))
 ldI t53 h17 fun t54 =>
 let t55 := (AV.agg [(kI 7), (vS ([] : LN)), (vS t52), (vW (Int.ofNat 0)), (AV.int .u64 (Int.ofNat 0)), (.nils : AV), (kI 0), (vI t54)])
 let t7 := P0 h17
 let h20 := nQ h17 [(kI 0), (.str []), (.str []), (.int .u32 (.ofNat 0)), (.int .u64 (.ofNat 0)), .nils, (kI 0), (kI 0)]
 stsC 8 t7 t55 h20 fun h21 =>
 cellsC 5 t1 h21 fun t57 =>
 cal D 74 [t57] h21 fun t58 h22 =>
 cal D 195 [t58] h22 fun t59 h23 =>
 extC t59 0 fun t60 =>
 extC t59 1 fun t61 =>
 stsC 5 t1 t60 h23 fun h24 =>
 let t62 := (AV.ptr (HP.nxQ h17) (Nat.add 0 5))
 stoC t62 t61 h24 fun h25 =>
 cellsC 5 t1 h25 fun t63 =>
 cellsC 8 t7 h25 fun t64 =>
 stsC 5 t2 t63 h25 fun h26 =>
 br (againE (.stores 5 q2 q63) [⟨none, .cells 8 q7, p64⟩] (mkT [(p2, t2), (p64, t64), (p7, t7)]) h26) (
 stsC 8 t3 t64 h26 fun h27 =>
 cellsC 5 t2 h27 fun t2a =>
 cellsC 8 t3 h27 fun t3a =>
 some (.ret (.tup [t2a, t3a]) h27, .no)) none)) (
 let t65 := (AV.agg [(kI 0), (vS ([] : LN)), (vS ([] : LN)), (vW (Int.ofNat 0)), (AV.int .u64 (Int.ofNat 0)), (.nils : AV), (kI 0), (kI 0)])
 let t8 := P0 h6
 let h28 := nQ h6 [(kI 0), (.str []), (.str []), (.int .u32 (.ofNat 0)), (.int .u64 (.ofNat 0)), .nils, (kI 0), (kI 0)]
 stsC 8 t8 t65 h28 fun h29 =>
 cellsC 5 t1 h29 fun t67 =>
 cal D 79 [t67, (vS ([40] : LN))] h29 fun t68 h30 =>
 cal D 81 [t68] h30 fun t69 h31 =>
 extC t69 0 fun t70 =>
 extC t69 1 fun t71 =>
 stsC 5 t1 t70 h31 fun h32 =>
 stsC 8 t8 t71 h32 fun h33 =>
 cellsC 5 t1 h33 fun t72 =>
 cellsC 8 t8 h33 fun t74 =>
 cal D 79 [t72, (vS ([41] : LN))] h33 fun t73 h34 =>
 br (again [⟨none, .cells 8 q8, p74⟩] (mkT [(p74, t74), (p8, t8)]) h34) (
 stsC 5 t2 t73 h34 fun h35 =>
 br (againE (.stores 5 q2 q73) [⟨none, .cells 8 q8, p74⟩] (mkT [(p2, t2), (p74, t74), (p8, t8)]) h35) (
 stsC 8 t3 t74 h35 fun h36 =>
 cellsC 5 t2 h36 fun t2a =>
 cellsC 8 t3 h36 fun t3a =>
 some (.ret (.tup [t2a, t3a]) h36, .no)) none) none)))
def S187 : SFn := fun D m args h u => nou u <| popV args fun t0 args => endA args (S187_0 D m t0 h)
theorem T187_0 (hE : FX x187 D m E) : S187_0 D m = e187_0 (E c187_e []) := by unfold S187_0; rw [hE c187_e]; kernel_rfl
theorem X187 : XTie S187 x187 := X_of fun D m E hE args h u => by unfold S187; rw [T187_0 hE]; kernel_rfl
end
end Go.Proofs.YtblciblkocameaaGreat.Sx
