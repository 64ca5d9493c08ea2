/- Functions, printed by a program of ours: their code, what they do, and that it is so. -/
import Derived.Test.YtakcpnpeadkfpaaGreatDoorSp
set_option maxRecDepth 8000
set_option linter.unusedVariables false
namespace Go.Proofs.YtakcpnpeadkfpaaGreatDoor.Sx
open Go Go.Proofs.YtakcpnpeadkfpaaGreatDoor.Ev
set_option linter.unusedSectionVars false
noncomputable section
variable [Rho]
variable {D : CallD} {m : Nat} {E : XE}
/- 5 -/
def v5_1 : List Pos := [p5]
def c5_1 : XC := (.sO [.L p115 (.cells 5 q5) .v, .L p116 (.cells 5 q5) .v, .cl p117 7 [(.c (.str [45])), q115, q116] .v, .mv p114 q117 .v, .P p118 (.ext q114 0) .v, .P p119 (.ext q114 1) tI, .al p9 (.new [(kI 0), (.int .u32 (.ofNat 0)), (.int .u64 (.ofNat 0)), (.str []), (kI 0)]), .ss 5 q9 q118, .mv p10 q119 tI] (.sO [.mv p120 q10 tI, .bn p121 .eql q120 (ci 0) .b, .mv p122 q121 .b, .ge p122 (XL.of [.G p122 true p123 (.faddr 2 q9) .v, .o ⟨(some p124), (.l (.cell q123)), (some (p122, true)), []⟩ (.i .u64), .G p122 true p125 (.bin .eql q124 (.c (.int .u64 (.ofNat 0)))) .b, .G p122 true p126 (.faddr 2 q5) .v, .o ⟨(some p127), (.l (.cell q126)), (some (p122, true)), []⟩ (.i .u64), .G p122 true p128 (.bin .shr q127 (.c (.int .u64 (.ofNat 52)))) (.i .u64), .G p122 true p129 (.bin .and q128 (.c (.int .u64 (.ofNat 2047)))) (.i .u64), .G p122 true p130 (.bin .neq q129 (.c (.int .u64 (.ofNat 2047)))) .b, .G p122 true p131 (.eqb false q125 q130) .b, .P p132 (.pick q122 q131 (cb false)) .b]) p132 .b, .mv p4 q132 .b] (.s .ret)))
def c5_5 : XC := (.cond q113 (.sO [.mv p4 (cb false) .b] (.s .ret)) (.s .skip))
def l5_4 : XL := (XL.of [])
def l5_3 : XL := (XL.pre [.P p113 (.pick q82 (cb true) q112) .b, .jn p82 [p5, p113]] l5_4)
def l5_2 : XL := (XL.pre [.G p82 false p112 (.pick q84 q111 (cb false)) .b, .jn p84 [p5, p82, p112]] l5_3)
def v5_0 : List Pos := [p5, p6, p7]
def c5_0 : XC := (.sO [.mv p70 q7 .v, .L p71 (.cells 5 q5) .v, .L p72 (.cells 5 q5) .v, .o ⟨(some p73), (.call (.val q70) [(.c (.str [61, 61])), q71, q72]), none, []⟩ tW, .bn p74 .eql q73 (.c (.int .u32 (.ofNat 0))) .b, .mv p8 q74 .b] (.sj v5_1 (.opq true (XL.pre [.mv p75 q8 .b, .mv p76 q7 .v, .L p77 (.cells 5 q5) .v, .L p78 (.cells 5 q5) .v, .o ⟨(some p79), (.call (.val q76) [(.c (.str [60, 61])), q77, q78]), none, []⟩ tW, .bn p80 .eql q79 (.c (.int .u32 (.ofNat 0))) .b, .P p81 (.eqb true q75 q80) .b, .mv p82 q81 .b, .sp p82, .G p82 false p83 (.mov q8) .b, .G p82 false p84 (.mov q83) .b, .sp p84, .G p84 true p85 (.mov q7) .v, .o ⟨(some p86), (.l (.cells 5 q5)), (some (p84, true)), []⟩ .v, .o ⟨(some p87), (.l (.cells 5 q6)), (some (p84, true)), []⟩ .v, .o ⟨(some p88), (.call (.val q85) [(.c (.str [33, 61])), q86, q87]), (some (p84, true)), []⟩ tW, .G p84 true p89 (.bin .neq q88 (.c (.int .u32 (.ofNat 1)))) .b, .G p84 true p90 (.mov q89) .b, .sp p90, .G p90 false p91 (.mov q7) .v, .o ⟨(some p92), (.l (.cells 5 q5)), (some (p90, false)), []⟩ .v, .o ⟨(some p93), (.l (.cells 5 q6)), (some (p90, false)), []⟩ .v, .G p90 false p95 (.mov q7) .v, .o ⟨(some p96), (.l (.cells 5 q5)), (some (p90, false)), []⟩ .v, .o ⟨(some p97), (.l (.cells 5 q6)), (some (p90, false)), []⟩ .v, .G p90 false p100 (.mov q7) .v, .o ⟨(some p101), (.l (.cells 5 q5)), (some (p90, false)), []⟩ .v, .o ⟨(some p102), (.l (.cells 5 q6)), (some (p90, false)), []⟩ .v, .G p90 false p105 (.mov q7) .v, .o ⟨(some p106), (.l (.cells 5 q5)), (some (p90, false)), []⟩ .v, .o ⟨(some p107), (.l (.cells 5 q6)), (some (p90, false)), []⟩ .v, .o ⟨(some p94), (.call (.val q91) [(.c (.str [60])), q92, q93]), (some (p90, false)), [⟨(some (p90, false)), .cells 5 q5, p96⟩, ⟨(some (p90, false)), .cells 5 q6, p97⟩, ⟨(some (p90, false)), .cells 5 q5, p101⟩, ⟨(some (p90, false)), .cells 5 q6, p102⟩, ⟨(some (p90, false)), .cells 5 q5, p106⟩, ⟨(some (p90, false)), .cells 5 q6, p107⟩]⟩ tW, .o ⟨(some p98), (.call (.val q95) [(.c (.str [62])), q96, q97]), (some (p90, false)), [⟨(some (p90, false)), .cells 5 q5, p101⟩, ⟨(some (p90, false)), .cells 5 q6, p102⟩, ⟨(some (p90, false)), .cells 5 q5, p106⟩, ⟨(some (p90, false)), .cells 5 q6, p107⟩]⟩ tW, .G p90 false p99 (.bin .add q94 q98) tW, .o ⟨(some p103), (.call (.val q100) [(.c (.str [60, 61])), q101, q102]), (some (p90, false)), [⟨(some (p90, false)), .cells 5 q5, p106⟩, ⟨(some (p90, false)), .cells 5 q6, p107⟩]⟩ tW, .G p90 false p104 (.bin .add q99 q103) tW, .o ⟨(some p108), (.call (.val q105) [(.c (.str [62, 61])), q106, q107]), (some (p90, false)), []⟩ tW, .G p90 false p109 (.bin .add q104 q108) tW, .G p90 false p110 (.bin .neq q109 (.c (.int .u32 (.ofNat 0)))) .b, .G p84 true p111 (.pick q90 (cb true) q110) .b, .jn p90 [p5, p82, p84, p111]] l5_2) c5_5) c5_1))
def c5_10 : XC := (.cond q69 (.sO [.mv p4 (cb false) .b] (.s .ret)) (.s .skip))
def l5_9 : XL := (XL.of [])
def l5_8 : XL := (XL.pre [.mv p58 q57 .b, .sp p58, .G p58 false p59 (.mov q7) .v, .o ⟨(some p60), (.l (.cells 5 q5)), (some (p58, false)), []⟩ .v, .o ⟨(some p61), (.l (.cells 5 q6)), (some (p58, false)), []⟩ .v, .G p58 false p63 (.mov q7) .v, .o ⟨(some p64), (.l (.cells 5 q5)), (some (p58, false)), []⟩ .v, .o ⟨(some p65), (.l (.cells 5 q6)), (some (p58, false)), []⟩ .v, .o ⟨(some p62), (.call (.val q59) [(.c (.str [60])), q60, q61]), (some (p58, false)), [⟨(some (p58, false)), .cells 5 q5, p64⟩, ⟨(some (p58, false)), .cells 5 q6, p65⟩]⟩ tW, .o ⟨(some p66), (.call (.val q63) [(.c (.str [62, 61])), q64, q65]), (some (p58, false)), []⟩ tW, .G p58 false p67 (.bin .add q62 q66) tW, .G p58 false p68 (.bin .gtr q67 (.c (.int .u32 (.ofNat 1)))) .b, .P p69 (.pick q58 (cb true) q68) .b, .jn p58 [p5, p6, p7, p69]] l5_9)
def l5_7 : XL := (XL.pre [.mv p51 q50 .b, .sp p51, .G p51 false p52 (.mov q7) .v, .o ⟨(some p53), (.l (.cells 5 q5)), (some (p51, false)), []⟩ .v, .o ⟨(some p54), (.l (.cells 5 q5)), (some (p51, false)), []⟩ .v, .o ⟨(some p55), (.call (.val q52) [(.c (.str [60])), q53, q54]), (some (p51, false)), []⟩ tW, .G p51 false p56 (.bin .neq q55 (.c (.int .u32 (.ofNat 0)))) .b, .P p57 (.pick q51 (cb true) q56) .b, .jn p51 [p5, p6, p7, p57]] l5_8)
def l5_6 : XL := (XL.pre [.mv p40 q39 .b, .sp p40, .G p40 false p41 (.mov q7) .v, .o ⟨(some p42), (.l (.cells 5 q5)), (some (p40, false)), []⟩ .v, .o ⟨(some p43), (.l (.cells 5 q6)), (some (p40, false)), []⟩ .v, .G p40 false p45 (.mov q7) .v, .o ⟨(some p46), (.l (.cells 5 q6)), (some (p40, false)), []⟩ .v, .o ⟨(some p47), (.l (.cells 5 q5)), (some (p40, false)), []⟩ .v, .o ⟨(some p44), (.call (.val q41) [(.c (.str [60, 61])), q42, q43]), (some (p40, false)), [⟨(some (p40, false)), .cells 5 q6, p46⟩, ⟨(some (p40, false)), .cells 5 q5, p47⟩]⟩ tW, .o ⟨(some p48), (.call (.val q45) [(.c (.str [62, 61])), q46, q47]), (some (p40, false)), []⟩ tW, .G p40 false p49 (.bin .neq q44 q48) .b, .P p50 (.pick q40 (cb true) q49) .b, .jn p40 [p5, p6, p7, p50]] l5_7)
def c5_e : XC := (.sO [.mv p4 (cb false) .b] (.seq (.seq (.oX [.cl p11 6 [] .b, .P p12 (.un .not q11) .b]) (.cond q12 (.seq (.oX [.mv p4 (cb false) .b]) .ret) .skip)) (.sO [.mv p13 q0 (.i .u64), .cl p14 12 [q13] (.i .u64), .P p15 (.build [(kI 0), (.int .u32 (.ofNat 0)), (.int .u64 (.ofNat 0)), (.str []), (kI 0)] [⟨0, 1, (ci 2)⟩, ⟨2, 1, q14⟩]) .v, .mv p16 q1 (.i .u64), .cl p17 12 [q16] (.i .u64), .P p18 (.build [(kI 0), (.int .u32 (.ofNat 0)), (.int .u64 (.ofNat 0)), (.str []), (kI 0)] [⟨0, 1, (ci 2)⟩, ⟨2, 1, q17⟩]) .v, .al p5 (.new [(kI 0), (.int .u32 (.ofNat 0)), (.int .u64 (.ofNat 0)), (.str []), (kI 0)]), .al p6 (.new [(kI 0), (.int .u32 (.ofNat 0)), (.int .u64 (.ofNat 0)), (.str []), (kI 0)]), .ss 5 q5 q15, .ss 5 q6 q18] (.sO [.mv p7 (.c (.fn 13 [] [])) .v] (.sj v5_0 (.opq true (XL.pre [.mv p19 q7 .v, .L p20 (.cells 5 q5) .v, .L p21 (.cells 5 q6) .v, .mv p23 q7 .v, .L p24 (.cells 5 q5) .v, .L p25 (.cells 5 q6) .v, .o ⟨(some p22), (.call (.val q19) [(.c (.str [61, 61])), q20, q21]), none, [⟨none, .cells 5 q5, p24⟩, ⟨none, .cells 5 q6, p25⟩]⟩ tW, .o ⟨(some p26), (.call (.val q23) [(.c (.str [33, 61])), q24, q25]), none, []⟩ tW, .bn p27 .add q22 q26 tW, .bn p28 .neq q27 (.c (.int .u32 (.ofNat 1))) .b, .mv p29 q28 .b, .sp p29, .G p29 false p30 (.mov q7) .v, .o ⟨(some p31), (.l (.cells 5 q5)), (some (p29, false)), []⟩ .v, .o ⟨(some p32), (.l (.cells 5 q6)), (some (p29, false)), []⟩ .v, .G p29 false p34 (.mov q7) .v, .o ⟨(some p35), (.l (.cells 5 q6)), (some (p29, false)), []⟩ .v, .o ⟨(some p36), (.l (.cells 5 q5)), (some (p29, false)), []⟩ .v, .o ⟨(some p33), (.call (.val q30) [(.c (.str [60])), q31, q32]), (some (p29, false)), [⟨(some (p29, false)), .cells 5 q6, p35⟩, ⟨(some (p29, false)), .cells 5 q5, p36⟩]⟩ tW, .o ⟨(some p37), (.call (.val q34) [(.c (.str [62])), q35, q36]), (some (p29, false)), []⟩ tW, .G p29 false p38 (.bin .neq q33 q37) .b, .P p39 (.pick q29 (cb true) q38) .b, .jn p29 [p5, p6, p7, p39]] l5_6) c5_10) c5_0)))))
def x5 : XFn := ⟨[(.i .u64), (.i .u64)], false, [(.tmp p4)], c5_e⟩
def e5_1 (k t5 h) := kN k [(p5, t5)] h
def S5_1 (D : CallD) (m : Nat) (t5 : AV) (h : HP) : Res2 :=
 cellsC 5 t5 h fun t115 =>
 cellsC 5 t5 h fun t116 =>
 cal D 7 [(vS ([45] : LN)), t115, t116] h fun t117 h20 =>
 extC t117 0 fun t118 =>
 extC t117 1 fun vt119 => asI .i64 vt119 fun t119 =>
 let t9 := AV.ptr (HP.nxQ h20) 0
 let h21 := HP.newQ h20 (.cells true [(kI 0), (.int .u32 (.ofNat 0)), (.int .u64 (.ofNat 0)), (.str []), (kI 0)])
 stsC 5 t9 t118 h21 fun h22 =>
 let t121 := eqQ t119 (Int.ofNat 0)
 obB (brV t121 (
 let t123 := (AV.ptr (HP.nxQ h20) (Nat.add 0 2))
 cellCV t123 h22 fun vt124 => asIV .u64 vt124 fun t124 =>
 let t125 := eqQ t124 (Int.ofNat 0)
 faCV 2 t5 fun t126 =>
 cellCV t126 h22 fun vt127 => asIV .u64 vt127 fun t127 =>
 let t128 := shrF .u64 t127 52
 obIV .u64 (intBin .and .u64 t128 (Int.ofNat 2047)) fun t129 =>
 let t130 := notQ (eqQ t129 (Int.ofNat 2047))
 let t131 := ((t125 == t130) != false)
 some (vB t131)) (
 some (vB false))) fun t132 =>
 some (.ret (vB t132) h22, .no)
def e5_4 (k t5 t113 h) := kN k [(p5, t5), (p113, (vB t113))] h
def S5_4 (D : CallD) (m : Nat) (t5 : AV) (t113 : Bool) (h : HP) : Res2 :=
 br t113 (
 some (.ret (vB false) h, .no)) (
 S5_1 D m t5 h)
def e5_3 (k t5 t82 t112 h) := kN k [(p5, t5), (p82, (vB t82)), (p112, (vB t112))] h
def S5_3 (D : CallD) (m : Nat) (t5 : AV) (t82 t112 : Bool) (h : HP) : Res2 :=
 obB (brV t82 (some (vB true)) (some (vB t112))) fun t113 =>
 S5_4 D m t5 t113 h
def e5_2 (k t5 t84 t111 h) := kN k [(p5, t5), (p82, .bool false), (p84, (vB t84)), (p111, (vB t111))] h
def S5_2 (D : CallD) (m : Nat) (t5 : AV) (t84 t111 : Bool) (h : HP) : Res2 :=
 obB (brV t84 (some (vB t111)) (some (vB false))) fun t112 =>
 S5_3 D m t5 false t112 h
def e5_0 (k t5 t6 t7 h) := kN k [(p5, t5), (p6, t6), (p7, t7)] h
def S5_0 (D : CallD) (m : Nat) (t5 t6 t7 : AV) (h : HP) : Res2 :=
 cellsC 5 t5 h fun t71 =>
 cellsC 5 t5 h fun t72 =>
 obQ (target .leaf (.val (.c t7)) [(.c (vS ([61, 61] : LN))), (.c t71), (.c t72)]) fun qh19 =>
 calC D qh19.1 qh19.2 h (fun t73 h19 =>
 asI .u32 t73 fun t73a =>
 binC .eql (vW t73a) (vW (Int.ofNat 0)) fun vt74 => asB vt74 fun t74 =>
 cellsC 5 t5 h19 fun t77 =>
 cellsC 5 t5 h19 fun t78 =>
 obQ (target .leaf (.val (.c t7)) [(.c (vS ([60, 61] : LN))), (.c t77), (.c t78)]) fun qh23 =>
 calC D qh23.1 qh23.2 h19 (fun t79 h23 =>
 asI .u32 t79 fun t79a =>
 binC .eql (vW t79a) (vW (Int.ofNat 0)) fun vt80 => asB vt80 fun t80 =>
 let t81 := ((t74 == t80) != true)
 br t81 (
 S5_4 D m t5 true h23) (
 br t74 (
 cellsC 5 t5 h23 fun t86 =>
 cellsC 5 t6 h23 fun t87 =>
 obQ (target .leaf (.val (.c t7)) [(.c (vS ([33, 61] : LN))), (.c t86), (.c t87)]) fun qh24 =>
 calC D qh24.1 qh24.2 h23 (fun t88 h24 =>
 asI .u32 t88 fun t88a =>
 binC .neq (vW t88a) (vW (Int.ofNat 1)) fun vt89 => asB vt89 fun t89 =>
 br t89 (
 S5_2 D m t5 true true h24) (
 cellsC 5 t5 h24 fun t92 =>
 cellsC 5 t6 h24 fun t93 =>
 cellsC 5 t5 h24 fun t96 =>
 cellsC 5 t6 h24 fun t97 =>
 cellsC 5 t5 h24 fun t101 =>
 cellsC 5 t6 h24 fun t102 =>
 cellsC 5 t5 h24 fun t106 =>
 cellsC 5 t6 h24 fun t107 =>
 obQ (target .leaf (.val (.c t7)) [(.c (vS ([60] : LN))), (.c t92), (.c t93)]) fun qh25 =>
 calC D qh25.1 qh25.2 h24 (fun t94 h25 =>
 br (again [⟨(some (p90, false)), .cells 5 q5, p96⟩, ⟨(some (p90, false)), .cells 5 q6, p97⟩, ⟨(some (p90, false)), .cells 5 q5, p101⟩, ⟨(some (p90, false)), .cells 5 q6, p102⟩, ⟨(some (p90, false)), .cells 5 q5, p106⟩, ⟨(some (p90, false)), .cells 5 q6, p107⟩] (mkT [(p107, t107), (p106, t106), (p102, t102), (p101, t101), (p97, t97), (p6, t6), (p96, t96), (p90, (vB false)), (p5, t5)]) h25) (
 asI .u32 t94 fun t94a =>
 obQ (target .leaf (.val (.c t7)) [(.c (vS ([62] : LN))), (.c t96), (.c t97)]) fun qh26 =>
 calC D qh26.1 qh26.2 h25 (fun t98 h26 =>
 br (again [⟨(some (p90, false)), .cells 5 q5, p101⟩, ⟨(some (p90, false)), .cells 5 q6, p102⟩, ⟨(some (p90, false)), .cells 5 q5, p106⟩, ⟨(some (p90, false)), .cells 5 q6, p107⟩] (mkT [(p107, t107), (p106, t106), (p102, t102), (p6, t6), (p101, t101), (p90, (vB false)), (p5, t5)]) h26) (
 asI .u32 t98 fun t98a =>
 binC .add (vW t94a) (vW t98a) fun vt99 => asI .u32 vt99 fun t99 =>
 obQ (target .leaf (.val (.c t7)) [(.c (vS ([60, 61] : LN))), (.c t101), (.c t102)]) fun qh27 =>
 calC D qh27.1 qh27.2 h26 (fun t103 h27 =>
 br (again [⟨(some (p90, false)), .cells 5 q5, p106⟩, ⟨(some (p90, false)), .cells 5 q6, p107⟩] (mkT [(p107, t107), (p6, t6), (p106, t106), (p90, (vB false)), (p5, t5)]) h27) (
 asI .u32 t103 fun t103a =>
 binC .add (vW t99) (vW t103a) fun vt104 => asI .u32 vt104 fun t104 =>
 obQ (target .leaf (.val (.c t7)) [(.c (vS ([62, 61] : LN))), (.c t106), (.c t107)]) fun qh28 =>
 calC D qh28.1 qh28.2 h27 (fun t108 h28 =>
 asI .u32 t108 fun t108a =>
 binC .add (vW t104) (vW t108a) fun vt109 => asI .u32 vt109 fun t109 =>
 binC .neq (vW t109) (vW (Int.ofNat 0)) fun vt110 => asB vt110 fun t110 =>
 S5_2 D m t5 true t110 h28) (panN)) none) (panN)) none) (panN)) none) (panN))) (panN)) (
 S5_3 D m t5 false false h23))) (panN)) (panN)
def e5_9 (k t5 t6 t7 t69 h) := kN k [(p5, t5), (p6, t6), (p7, t7), (p69, (vB t69))] h
def S5_9 (D : CallD) (m : Nat) (t5 t6 t7 : AV) (t69 : Bool) (h : HP) : Res2 :=
 br t69 (
 some (.ret (vB false) h, .no)) (
 S5_0 D m t5 t6 t7 h)
def e5_8 (k t5 t6 t7 t57 h) := kN k [(p5, t5), (p6, t6), (p7, t7), (p57, (vB t57))] h
def S5_8 (D : CallD) (m : Nat) (t5 t6 t7 : AV) (t57 : Bool) (h : HP) : Res2 :=
 br t57 (
 S5_9 D m t5 t6 t7 true h) (
 cellsC 5 t5 h fun t60 =>
 cellsC 5 t6 h fun t61 =>
 cellsC 5 t5 h fun t64 =>
 cellsC 5 t6 h fun t65 =>
 obQ (target .leaf (.val (.c t7)) [(.c (vS ([60] : LN))), (.c t60), (.c t61)]) fun qh31 =>
 calC D qh31.1 qh31.2 h (fun t62 h31 =>
 br (again [⟨(some (p58, false)), .cells 5 q5, p64⟩, ⟨(some (p58, false)), .cells 5 q6, p65⟩] (mkT [(p65, t65), (p6, t6), (p64, t64), (p58, (vB false)), (p5, t5)]) h31) (
 asI .u32 t62 fun t62a =>
 obQ (target .leaf (.val (.c t7)) [(.c (vS ([62, 61] : LN))), (.c t64), (.c t65)]) fun qh32 =>
 calC D qh32.1 qh32.2 h31 (fun t66 h32 =>
 asI .u32 t66 fun t66a =>
 binC .add (vW t62a) (vW t66a) fun vt67 => asI .u32 vt67 fun t67 =>
 binC .gtr (vW t67) (vW (Int.ofNat 1)) fun vt68 => asB vt68 fun t68 =>
 S5_9 D m t5 t6 t7 t68 h32) (panN)) none) (panN))
def e5_7 (k t5 t6 t7 t50 h) := kN k [(p5, t5), (p6, t6), (p7, t7), (p50, (vB t50))] h
def S5_7 (D : CallD) (m : Nat) (t5 t6 t7 : AV) (t50 : Bool) (h : HP) : Res2 :=
 br t50 (
 S5_8 D m t5 t6 t7 true h) (
 cellsC 5 t5 h fun t53 =>
 cellsC 5 t5 h fun t54 =>
 obQ (target .leaf (.val (.c t7)) [(.c (vS ([60] : LN))), (.c t53), (.c t54)]) fun qh33 =>
 calC D qh33.1 qh33.2 h (fun t55 h33 =>
 asI .u32 t55 fun t55a =>
 binC .neq (vW t55a) (vW (Int.ofNat 0)) fun vt56 => asB vt56 fun t56 =>
 S5_8 D m t5 t6 t7 t56 h33) (panN))
def e5_6 (k t5 t6 t7 t39 h) := kN k [(p5, t5), (p6, t6), (p7, t7), (p39, (vB t39))] h
def S5_6 (D : CallD) (m : Nat) (t5 t6 t7 : AV) (t39 : Bool) (h : HP) : Res2 :=
 br t39 (
 S5_7 D m t5 t6 t7 true h) (
 cellsC 5 t5 h fun t42 =>
 cellsC 5 t6 h fun t43 =>
 cellsC 5 t6 h fun t46 =>
 cellsC 5 t5 h fun t47 =>
 obQ (target .leaf (.val (.c t7)) [(.c (vS ([60, 61] : LN))), (.c t42), (.c t43)]) fun qh34 =>
 calC D qh34.1 qh34.2 h (fun t44 h34 =>
 br (again [⟨(some (p40, false)), .cells 5 q6, p46⟩, ⟨(some (p40, false)), .cells 5 q5, p47⟩] (mkT [(p47, t47), (p5, t5), (p46, t46), (p40, (vB false)), (p6, t6)]) h34) (
 asI .u32 t44 fun t44a =>
 obQ (target .leaf (.val (.c t7)) [(.c (vS ([62, 61] : LN))), (.c t46), (.c t47)]) fun qh35 =>
 calC D qh35.1 qh35.2 h34 (fun t48 h35 =>
 asI .u32 t48 fun t48a =>
 binC .neq (vW t44a) (vW t48a) fun vt49 => asB vt49 fun t49 =>
 S5_7 D m t5 t6 t7 t49 h35) (panN)) none) (panN))
def e5_11 (k t0 t1 h) := kN k [(p0, (AV.int .u64 t0)), (p1, (AV.int .u64 t1))] h
def S5_11 (D : CallD) (m : Nat) (t0 t1 : Int) (h : HP) : Res2 :=
 cal D 6 [] h fun t11 h12 =>
 asB t11 fun t11a =>
 let t12 := !t11a
 br t12 (
 some (.ret (vB false) h12, .no)) (
 cal D 12 [(AV.int .u64 t0)] h12 fun t14 h13 =>
 asI .u64 t14 fun t14a =>
 let t15 := (AV.agg [(vI (Int.ofNat 2)), (vW (Int.ofNat 0)), (AV.int .u64 t14a), (vS ([] : LN)), (vI (Int.ofNat 0))])
 cal D 12 [(AV.int .u64 t1)] h13 fun t17 h14 =>
 asI .u64 t17 fun t17a =>
 let t18 := (AV.agg [(vI (Int.ofNat 2)), (vW (Int.ofNat 0)), (AV.int .u64 t17a), (vS ([] : LN)), (vI (Int.ofNat 0))])
 let t5 := AV.ptr (HP.nxQ h14) 0
 let h15 := HP.newQ h14 (.cells true [(kI 0), (.int .u32 (.ofNat 0)), (.int .u64 (.ofNat 0)), (.str []), (kI 0)])
 let t6 := AV.ptr (HP.nxQ h15) 0
 let h16 := HP.newQ h15 (.cells true [(kI 0), (.int .u32 (.ofNat 0)), (.int .u64 (.ofNat 0)), (.str []), (kI 0)])
 stsC 5 t5 t15 h16 fun h17 =>
 stsC 5 t6 t18 h17 fun h18 =>
 cellsC 5 t5 h18 fun t20 =>
 cellsC 5 t6 h18 fun t21 =>
 cellsC 5 t5 h18 fun t24 =>
 cellsC 5 t6 h18 fun t25 =>
 calC D 13 [(vS ([61, 61] : LN)), t20, t21] h18 (fun t22 h29 =>
 br (again [⟨none, .cells 5 q5, p24⟩, ⟨none, .cells 5 q6, p25⟩] (mkT [(p25, t25), (p6, t6), (p24, t24), (p5, t5)]) h29) (
 asI .u32 t22 fun t22a =>
 calC D 13 [(vS ([33, 61] : LN)), t24, t25] h29 (fun t26 h30 =>
 asI .u32 t26 fun t26a =>
 binC .add (vW t22a) (vW t26a) fun vt27 => asI .u32 vt27 fun t27 =>
 binC .neq (vW t27) (vW (Int.ofNat 1)) fun vt28 => asB vt28 fun t28 =>
 br t28 (
 S5_6 D m t5 t6 ((.fn 13 [] []) : AV) true h30) (
 cellsC 5 t5 h30 fun t31 =>
 cellsC 5 t6 h30 fun t32 =>
 cellsC 5 t6 h30 fun t35 =>
 cellsC 5 t5 h30 fun t36 =>
 calC D 13 [(vS ([60] : LN)), t31, t32] h30 (fun t33 h36 =>
 br (again [⟨(some (p29, false)), .cells 5 q6, p35⟩, ⟨(some (p29, false)), .cells 5 q5, p36⟩] (mkT [(p36, t36), (p5, t5), (p35, t35), (p29, (vB false)), (p6, t6)]) h36) (
 asI .u32 t33 fun t33a =>
 calC D 13 [(vS ([62] : LN)), t35, t36] h36 (fun t37 h37 =>
 asI .u32 t37 fun t37a =>
 binC .neq (vW t33a) (vW t37a) fun vt38 => asB vt38 fun t38 =>
 S5_6 D m t5 t6 ((.fn 13 [] []) : AV) t38 h37) (panN)) none) (panN))) (panN)) none) (panN))
def S5 : SFn := fun D m args h u => nou u <| popI .u64 args fun t0 args => popI .u64 args fun t1 args => endA args (S5_11 D m t0 t1 h)
theorem T5_1 (hE : FX x5 D m E) : S5_1 D m = e5_1 (E c5_1 []) := by unfold S5_1; rw [hE c5_1]; kernel_rfl
theorem T5_4 (hE : FX x5 D m E) : S5_4 D m = e5_4 (E (.opq true l5_4 c5_5) [.sj v5_1 c5_1]) := by unfold S5_4; rw [T5_1 hE, hE (.opq true l5_4 c5_5)]; kernel_rfl
theorem T5_3 (hE : FX x5 D m E) : S5_3 D m = e5_3 (E (.opq true l5_3 c5_5) [.sj v5_1 c5_1]) := by unfold S5_3; rw [T5_4 hE, hE (.opq true l5_3 c5_5)]; kernel_rfl
theorem T5_2 (hE : FX x5 D m E) : S5_2 D m = e5_2 (E (.opq true l5_2 c5_5) [.sj v5_1 c5_1]) := by unfold S5_2; rw [T5_3 hE, hE (.opq true l5_2 c5_5)]; kernel_rfl
theorem T5_0 (hE : FX x5 D m E) : S5_0 D m = e5_0 (E c5_0 []) := by unfold S5_0; rw [T5_4 hE, T5_2 hE, T5_3 hE, hE c5_0]; kernel_rfl
theorem T5_9 (hE : FX x5 D m E) : S5_9 D m = e5_9 (E (.opq true l5_9 c5_10) [.sj v5_0 c5_0]) := by unfold S5_9; rw [T5_0 hE, hE (.opq true l5_9 c5_10)]; kernel_rfl
theorem T5_8 (hE : FX x5 D m E) : S5_8 D m = e5_8 (E (.opq true l5_8 c5_10) [.sj v5_0 c5_0]) := by unfold S5_8; rw [T5_9 hE, hE (.opq true l5_8 c5_10)]; kernel_rfl
theorem T5_7 (hE : FX x5 D m E) : S5_7 D m = e5_7 (E (.opq true l5_7 c5_10) [.sj v5_0 c5_0]) := by unfold S5_7; rw [T5_8 hE, hE (.opq true l5_7 c5_10)]; kernel_rfl
theorem T5_6 (hE : FX x5 D m E) : S5_6 D m = e5_6 (E (.opq true l5_6 c5_10) [.sj v5_0 c5_0]) := by unfold S5_6; rw [T5_7 hE, hE (.opq true l5_6 c5_10)]; kernel_rfl
theorem T5_11 (hE : FX x5 D m E) : S5_11 D m = e5_11 (E c5_e []) := by unfold S5_11; rw [T5_6 hE, hE c5_e]; kernel_rfl
theorem X5 : XTie S5 x5 := X_of fun D m E hE args h u => by unfold S5; rw [T5_11 hE]; kernel_rfl
/- 6 -/
def c6_e : XC := (.sO [.mv p0 (cb false) .b] (.sO [.cl p7 14 [(.c (.str [105, 110, 116, 32, 97, 91, 51, 93, 32, 61, 32, 123, 49, 44, 32, 45, 49, 125, 59, 32, 105, 110, 116, 32, 42, 112, 32, 61, 32, 38, 97, 91, 49, 93, 59]))] .v, .mv p6 q7 .v, .P p8 (.ext q6 0) .v, .P p9 (.ext q6 1) tI, .al p1 (.new [.nils]), .ss 1 q1 q8, .mv p2 q9 tI] (.seq (.seq (.oX [.mv p10 q2 tI, .bn p11 .neq q10 (ci 0) .b]) (.cond q11 (.seq (.oX [.mv p0 (cb false) .b]) .ret) .skip)) (.sO [.L p13 (.cells 1 q1) .v, .cl p14 15 [q13] .v, .mv p12 q14 .v, .P p15 (.ext q12 0) .v, .P p16 (.ext q12 1) tI, .P p17 (.ext q12 2) tI, .mv p3 q15 .v, .mv p4 q16 tI, .mv p5 q17 tI] (.sO [.mv p18 q5 tI, .bn p19 .eql q18 (ci 0) .b, .mv p20 q19 .b, .ge p20 (XL.of [.G p20 true p21 (.mov q3) .v, .G p20 true p22 (.lenl q21) tI, .G p20 true p23 (.bin .eql q22 (ci 2)) .b, .P p24 (.pick q20 q23 (cb false)) .b]) p24 .b, .mv p25 q24 .b, .ge p25 (XL.of [.G p25 true p26 (.mov q3) .v, .G p25 true p27 (.iaddr (.sl 4) q26 (ci 0)) .v, .G p25 true p28 (.faddr 2 q27) .v, .o ⟨(some p29), (.l (.cell q28)), (some (p25, true)), []⟩ .v, .o ⟨(some p30), (.l (.bstr q29)), (some (p25, true)), []⟩ .s, .G p25 true p31 (.bin .eql q30 (.c (.str [1, 0, 0, 0, 255, 255, 255, 255, 0, 0, 0, 0, 0, 0, 0, 0]))) .b, .P p32 (.pick q25 q31 (cb false)) .b]) p32 .b, .mv p33 q32 .b, .ge p33 (XL.of [.G p33 true p34 (.mov q3) .v, .G p33 true p35 (.iaddr (.sl 4) q34 (ci 1)) .v, .G p33 true p36 (.faddr 2 q35) .v, .o ⟨(some p37), (.l (.cell q36)), (some (p33, true)), []⟩ .v, .o ⟨(some p38), (.l (.bstr q37)), (some (p33, true)), []⟩ .s, .G p33 true p39 (.bin .eql q38 (.c (.str [0, 0, 0, 0, 0, 0, 0, 0]))) .b, .P p40 (.pick q33 q39 (cb false)) .b]) p40 .b, .mv p41 q40 .b, .ge p41 (XL.of [.G p41 true p42 (.mov q3) .v, .G p41 true p43 (.iaddr (.sl 4) q42 (ci 1)) .v, .G p41 true p44 (.faddr 3 q43) .v, .o ⟨(some p45), (.l (.cell q44)), (some (p41, true)), []⟩ .v, .G p41 true p46 (.lenl q45) tI, .G p41 true p47 (.bin .eql q46 (ci 1)) .b, .P p48 (.pick q41 q47 (cb false)) .b]) p48 .b, .mv p49 q48 .b, .ge p49 (XL.of [.G p49 true p50 (.mov q3) .v, .G p49 true p51 (.iaddr (.sl 4) q50 (ci 1)) .v, .G p49 true p52 (.faddr 3 q51) .v, .o ⟨(some p53), (.l (.cell q52)), (some (p49, true)), []⟩ .v, .G p49 true p54 (.iaddr (.sl 3) q53 (ci 0)) .v, .o ⟨(some p55), (.l (.cells 3 q54)), (some (p49, true)), []⟩ .v, .G p49 true p56 (.build [(kI 0), (.str []), (kI 0)] [⟨1, 1, (.c (.str [97]))⟩, ⟨2, 1, (ci 4)⟩]) .v, .G p49 true p57 (.eqs 3 [(0, .int), (1, .str), (2, .int)] false q55 q56) .b, .P p58 (.pick q49 q57 (cb false)) .b]) p58 .b, .mv p0 q58 .b] (.s .ret))))))
def x6 : XFn := ⟨[], false, [(.tmp p0)], c6_e⟩
def e6_0 (k h) := kN k [] h
def S6_0 (D : CallD) (m : Nat) (h : HP) : Res2 :=
 cal D 14 [(vS ([105, 110, 116, 32, 97, 91, 51, 93, 32, 61, 32, 123, 49, 44, 32, 45, 49, 125, 59, 32, 105, 110, 116, 32, 42, 112, 32, 61, 32, 38, 97, 91, 49, 93, 59] : LN))] h fun t7 h1 =>
 extC t7 0 fun t8 =>
 extC t7 1 fun vt9 => asI .i64 vt9 fun t9 =>
 let t1 := AV.ptr (HP.nxQ h1) 0
 let h2 := HP.newQ h1 (.cells true [.nils])
 stsC 1 t1 t8 h2 fun h3 =>
 let t11 := notQ (eqQ t9 (Int.ofNat 0))
 br t11 (
 some (.ret (vB false) h3, .no)) (
 cellsC 1 t1 h3 fun t13 =>
 cal D 15 [t13] h3 fun t14 h4 =>
 extC t14 0 fun t15 =>
 extC t14 1 fun vt16 => asI .i64 vt16 fun t16 =>
 extC t14 2 fun vt17 => asI .i64 vt17 fun t17 =>
 let t19 := eqQ t17 (Int.ofNat 0)
 obB (brV t19 (
 lenCV t15 fun vt22 => asIV .i64 vt22 fun t22 =>
 let t23 := eqQ t22 (Int.ofNat 2)
 some (vB t23)) (
 some (vB false))) fun t24 =>
 obB (brV t24 (
 iasCV 4 t15 (vI (Int.ofNat 0)) fun t27 =>
 faCV 2 t27 fun t28 =>
 cellCV t28 h4 fun t29 =>
 obSV (bstrV t29 h4) fun t30 =>
 let t31 := eqL t30 ([1, 0, 0, 0, 255, 255, 255, 255, 0, 0, 0, 0, 0, 0, 0, 0] : LN)
 some (vB t31)) (
 some (vB false))) fun t32 =>
 obB (brV t32 (
 iasCV 4 t15 (vI (Int.ofNat 1)) fun t35 =>
 faCV 2 t35 fun t36 =>
 cellCV t36 h4 fun t37 =>
 obSV (bstrV t37 h4) fun t38 =>
 let t39 := eqL t38 ([0, 0, 0, 0, 0, 0, 0, 0] : LN)
 some (vB t39)) (
 some (vB false))) fun t40 =>
 obB (brV t40 (
 iasCV 4 t15 (vI (Int.ofNat 1)) fun t43 =>
 faCV 3 t43 fun t44 =>
 cellCV t44 h4 fun t45 =>
 lenCV t45 fun vt46 => asIV .i64 vt46 fun t46 =>
 let t47 := eqQ t46 (Int.ofNat 1)
 some (vB t47)) (
 some (vB false))) fun t48 =>
 obB (brV t48 (
 iasCV 4 t15 (vI (Int.ofNat 1)) fun t51 =>
 faCV 3 t51 fun t52 =>
 cellCV t52 h4 fun t53 =>
 iasCV 3 t53 (vI (Int.ofNat 0)) fun t54 =>
 cellsCV 3 t54 h4 fun t55 =>
 let t56 := (AV.agg [(vI (Int.ofNat 0)), (vS ([97] : LN)), (vI (Int.ofNat 4))])
 obBV (evP (.eqs 3 [(0, .int), (1, .str), (2, .int)] false (.c t55) (.c t56)) .leaf) fun t57 =>
 some (vB t57)) (
 some (vB false))) fun t58 =>
 some (.ret (vB t58) h4, .no))
def S6 : SFn := fun D m args h u => nou u <| endA args (S6_0 D m h)
theorem T6_0 (hE : FX x6 D m E) : S6_0 D m = e6_0 (E c6_e []) := by unfold S6_0; rw [hE c6_e]; kernel_rfl
theorem X6 : XTie S6 x6 := X_of fun D m E hE args h u => by unfold S6; rw [T6_0 hE]; kernel_rfl
/- 7 -/
def c7_e : XC := (.sO [.al p4 (.box q1), .al p5 (.box q2), .al p6 (.new [(kI 0), (.int .u32 (.ofNat 0)), (.int .u64 (.ofNat 0)), (.str []), (kI 0)]), .mv p7 (ci 0) tI] (.seq (.block 0 (.seq (.oX [.fa p9 0 q4, .ld p10 q9 tI, .bn p11 .eql q10 (ci 1) .b, .mv p12 q11 .b, .ge p12 (XL.of [.G p12 true p13 (.faddr 0 q5) .v, .o ⟨(some p14), (.l (.cell q13)), (some (p12, true)), []⟩ tI, .G p12 true p15 (.bin .eql q14 (ci 1)) .b, .P p16 (.pick q12 q15 (cb false)) .b]) p16 .b, .mv p8 q16 .b]) (.cond q8 (.seq (.oX [.mv p17 q0 .s, .fa p18 1 q4, .ld p19 q18 tW, .fa p20 1 q5, .ld p21 q20 tW, .cl p22 16 [q17, q19, q21] .v, .P p23 (.ext q22 0) .v, .P p24 (.ext q22 1) tI, .ss 5 q6 q23, .mv p7 q24 tI]) .ret) (.seq (.oX [.fa p26 0 q4, .ld p27 q26 tI, .bn p28 .eql q27 (ci 2) .b, .mv p29 q28 .b, .ge p29 (XL.of [.G p29 true p30 (.faddr 0 q5) .v, .o ⟨(some p31), (.l (.cell q30)), (some (p29, true)), []⟩ tI, .G p29 true p32 (.bin .eql q31 (ci 2)) .b, .P p33 (.pick q29 q32 (cb false)) .b]) p33 .b, .mv p25 q33 .b]) (.cond q25 (.seq (.oX [.mv p34 q0 .s, .fa p35 2 q4, .ld p36 q35 (.i .u64), .fa p37 2 q5, .ld p38 q37 (.i .u64), .cl p39 17 [q34, q36, q38] .v, .P p40 (.ext q39 0) .v, .P p41 (.ext q39 1) tI, .ss 5 q6 q40, .mv p7 q41 tI]) .ret) .skip))))) (.sO [.P p42 (.build [(kI 0), (.int .u32 (.ofNat 0)), (.int .u64 (.ofNat 0)), (.str []), (kI 0)] []) .v, .ss 5 q6 q42, .mv p7 (ci 15) tI] (.s .ret))))
def x7 : XFn := ⟨[.s, .v, .v], false, [(.cells 5 p6), (.tmp p7)], c7_e⟩
def e7_0 (k t0 t1 t2 h) := kN k [(p0, (vS t0)), (p1, t1), (p2, t2)] h
def S7_0 (D : CallD) (m : Nat) (t0 : LN) (t1 t2 : AV) (h : HP) : Res2 :=
 let t4 := AV.ptr (HP.nxQ h) 0
 let h1 := HP.newQ h (.cells true (AV.cells t1))
 let t5 := AV.ptr (HP.nxQ h1) 0
 let h2 := HP.newQ h1 (.cells true (AV.cells t2))
 let t6 := AV.ptr (HP.nxQ h2) 0
 let h3 := HP.newQ h2 (.cells true [(kI 0), (.int .u32 (.ofNat 0)), (.int .u64 (.ofNat 0)), (.str []), (kI 0)])
 let t9 := (AV.ptr (HP.nxQ h) (Nat.add 0 0))
 ldI t9 h3 fun t10 =>
 let t11 := eqQ t10 (Int.ofNat 1)
 obB (brV t11 (
 let t13 := (AV.ptr (HP.nxQ h1) (Nat.add 0 0))
 ldIV t13 h3 fun t14 =>
 let t15 := eqQ t14 (Int.ofNat 1)
 some (vB t15)) (
 some (vB false))) fun t16 =>
 br t16 (
 let t18 := (AV.ptr (HP.nxQ h) (Nat.add 0 1))
 ldW t18 h3 fun t19 =>
 let t20 := (AV.ptr (HP.nxQ h1) (Nat.add 0 1))
 ldW t20 h3 fun t21 =>
 cal D 16 [(vS t0), (vW t19), (vW t21)] h3 fun t22 h4 =>
 extC t22 0 fun t23 =>
 extC t22 1 fun vt24 => asI .i64 vt24 fun t24 =>
 stsC 5 t6 t23 h4 fun h5 =>
 cellsC 5 t6 h5 fun t6a =>
 some (.ret (.tup [t6a, (vI t24)]) h5, .no)) (
 let t26 := (AV.ptr (HP.nxQ h) (Nat.add 0 0))
 ldI t26 h3 fun t27 =>
 let t28 := eqQ t27 (Int.ofNat 2)
 obB (brV t28 (
 let t30 := (AV.ptr (HP.nxQ h1) (Nat.add 0 0))
 ldIV t30 h3 fun t31 =>
 let t32 := eqQ t31 (Int.ofNat 2)
 some (vB t32)) (
 some (vB false))) fun t33 =>
 br t33 (
 let t35 := (AV.ptr (HP.nxQ h) (Nat.add 0 2))
 cellC t35 h3 fun vt36 => asI .u64 vt36 fun t36 =>
 let t37 := (AV.ptr (HP.nxQ h1) (Nat.add 0 2))
 cellC t37 h3 fun vt38 => asI .u64 vt38 fun t38 =>
 cal D 17 [(vS t0), (AV.int .u64 t36), (AV.int .u64 t38)] h3 fun t39 h6 =>
 extC t39 0 fun t40 =>
 extC t39 1 fun vt41 => asI .i64 vt41 fun t41 =>
 stsC 5 t6 t40 h6 fun h7 =>
 cellsC 5 t6 h7 fun t6a =>
 some (.ret (.tup [t6a, (vI t41)]) h7, .no)) (
 let t42 := (AV.agg [(vI (Int.ofNat 0)), (vW (Int.ofNat 0)), (AV.int .u64 (Int.ofNat 0)), (vS ([] : LN)), (vI (Int.ofNat 0))])
 stsC 5 t6 t42 h3 fun h8 =>
 cellsC 5 t6 h8 fun t6a =>
 some (.ret (.tup [t6a, (vI (Int.ofNat 15))]) h8, .no)))
def S7 : SFn := fun D m args h u => nou u <| popS args fun t0 args => popV args fun t1 args => popV args fun t2 args => endA args (S7_0 D m t0 t1 t2 h)
theorem T7_0 (hE : FX x7 D m E) : S7_0 D m = e7_0 (E c7_e []) := by unfold S7_0; rw [hE c7_e]; kernel_rfl
theorem X7 : XTie S7 x7 := X_of fun D m E hE args h u => by unfold S7; rw [T7_0 hE]; kernel_rfl
/- 9 -/
def c9_e : XC := (.sO [.al p3 (.box q1), .al p4 (.new [(kI 0), (.int .u32 (.ofNat 0)), (.int .u64 (.ofNat 0)), (.str []), (kI 0)]), .mv p5 (ci 0) tI] (.seq (.block 0 (.seq (.oX [.mv p7 q0 .s, .bn p8 .eql q7 (.c (.str [45])) .b, .mv p9 q8 .b, .ge p9 (XL.of [.G p9 true p10 (.faddr 0 q3) .v, .o ⟨(some p11), (.l (.cell q10)), (some (p9, true)), []⟩ tI, .G p9 true p12 (.bin .eql q11 (ci 2)) .b, .P p13 (.pick q9 q12 (cb false)) .b]) p13 .b, .mv p6 q13 .b]) (.cond q6 (.seq (.oX [.fa p14 2 q3, .ld p15 q14 (.i .u64), .cl p16 20 [q15] (.i .u64), .P p17 (.build [(kI 0), (.int .u32 (.ofNat 0)), (.int .u64 (.ofNat 0)), (.str []), (kI 0)] [⟨0, 1, (ci 2)⟩, ⟨2, 1, q16⟩]) .v, .ss 5 q4 q17, .mv p5 (ci 0) tI]) .ret) (.seq (.oX [.mv p19 q0 .s, .bn p20 .eql q19 (.c (.str [45])) .b, .mv p21 q20 .b, .ge p21 (XL.of [.G p21 true p22 (.faddr 0 q3) .v, .o ⟨(some p23), (.l (.cell q22)), (some (p21, true)), []⟩ tI, .G p21 true p24 (.bin .eql q23 (ci 1)) .b, .P p25 (.pick q21 q24 (cb false)) .b]) p25 .b, .mv p18 q25 .b]) (.cond q18 (.seq (.oX [.fa p26 1 q3, .ld p27 q26 tW, .cl p28 16 [(.c (.str [45])), (.c (.int .u32 (.ofNat 0))), q27] .v, .P p29 (.ext q28 0) .v, .P p30 (.ext q28 1) tI, .ss 5 q4 q29, .mv p5 q30 tI]) .ret) (.seq (.oX [.mv p32 q0 .s, .bn p33 .eql q32 (.c (.str [33])) .b, .mv p34 q33 .b, .ge p34 (XL.of [.G p34 true p35 (.faddr 0 q3) .v, .o ⟨(some p36), (.l (.cell q35)), (some (p34, true)), []⟩ tI, .G p34 true p37 (.bin .eql q36 (ci 1)) .b, .P p38 (.pick q34 q37 (cb false)) .b]) p38 .b, .mv p31 q38 .b]) (.cond q31 (.seq (.oX [.fa p39 1 q3, .ld p40 q39 tW, .bn p41 .eql q40 (.c (.int .u32 (.ofNat 0))) .b, .cl p42 21 [q41] .v, .ss 5 q4 q42, .mv p5 (ci 0) tI]) .ret) (.seq (.oX [.mv p44 q0 .s, .bn p45 .eql q44 (.c (.str [126])) .b, .mv p46 q45 .b, .ge p46 (XL.of [.G p46 true p47 (.faddr 0 q3) .v, .o ⟨(some p48), (.l (.cell q47)), (some (p46, true)), []⟩ tI, .G p46 true p49 (.bin .eql q48 (ci 1)) .b, .P p50 (.pick q46 q49 (cb false)) .b]) p50 .b, .mv p43 q50 .b]) (.cond q43 (.seq (.oX [.fa p51 1 q3, .ld p52 q51 tW, .cl p53 16 [(.c (.str [94])), q52, (.c (.int .u32 (.ofNat 4294967295)))] .v, .P p54 (.ext q53 0) .v, .P p55 (.ext q53 1) tI, .ss 5 q4 q54, .mv p5 q55 tI]) .ret) .skip))))))))) (.sO [.P p56 (.build [(kI 0), (.int .u32 (.ofNat 0)), (.int .u64 (.ofNat 0)), (.str []), (kI 0)] []) .v, .ss 5 q4 q56, .mv p5 (ci 15) tI] (.s .ret))))
def x9 : XFn := ⟨[.s, .v], false, [(.cells 5 p4), (.tmp p5)], c9_e⟩
def e9_0 (k t0 t1 h) := kN k [(p0, (vS t0)), (p1, t1)] h
def S9_0 (D : CallD) (m : Nat) (t0 : LN) (t1 : AV) (h : HP) : Res2 :=
 let t3 := AV.ptr (HP.nxQ h) 0
 let h1 := HP.newQ h (.cells true (AV.cells t1))
 let t4 := AV.ptr (HP.nxQ h1) 0
 let h2 := HP.newQ h1 (.cells true [(kI 0), (.int .u32 (.ofNat 0)), (.int .u64 (.ofNat 0)), (.str []), (kI 0)])
 let t8 := eqL t0 ([45] : LN)
 obB (brV t8 (
 let t10 := (AV.ptr (HP.nxQ h) (Nat.add 0 0))
 ldIV t10 h2 fun t11 =>
 let t12 := eqQ t11 (Int.ofNat 2)
 some (vB t12)) (
 some (vB false))) fun t13 =>
 br t13 (
 let t14 := (AV.ptr (HP.nxQ h) (Nat.add 0 2))
 cellC t14 h2 fun vt15 => asI .u64 vt15 fun t15 =>
 cal D 20 [(AV.int .u64 t15)] h2 fun t16 h3 =>
 asI .u64 t16 fun t16a =>
 let t17 := (AV.agg [(vI (Int.ofNat 2)), (vW (Int.ofNat 0)), (AV.int .u64 t16a), (vS ([] : LN)), (vI (Int.ofNat 0))])
 stsC 5 t4 t17 h3 fun h4 =>
 cellsC 5 t4 h4 fun t4a =>
 some (.ret (.tup [t4a, (vI (Int.ofNat 0))]) h4, .no)) (
 let t20 := eqL t0 ([45] : LN)
 obB (brV t20 (
 let t22 := (AV.ptr (HP.nxQ h) (Nat.add 0 0))
 ldIV t22 h2 fun t23 =>
 let t24 := eqQ t23 (Int.ofNat 1)
 some (vB t24)) (
 some (vB false))) fun t25 =>
 br t25 (
 let t26 := (AV.ptr (HP.nxQ h) (Nat.add 0 1))
 ldW t26 h2 fun t27 =>
 cal D 16 [(vS ([45] : LN)), (vW (Int.ofNat 0)), (vW t27)] h2 fun t28 h5 =>
 extC t28 0 fun t29 =>
 extC t28 1 fun vt30 => asI .i64 vt30 fun t30 =>
 stsC 5 t4 t29 h5 fun h6 =>
 cellsC 5 t4 h6 fun t4a =>
 some (.ret (.tup [t4a, (vI t30)]) h6, .no)) (
 let t33 := eqL t0 ([33] : LN)
 obB (brV t33 (
 let t35 := (AV.ptr (HP.nxQ h) (Nat.add 0 0))
 ldIV t35 h2 fun t36 =>
 let t37 := eqQ t36 (Int.ofNat 1)
 some (vB t37)) (
 some (vB false))) fun t38 =>
 br t38 (
 let t39 := (AV.ptr (HP.nxQ h) (Nat.add 0 1))
 ldW t39 h2 fun t40 =>
 binC .eql (vW t40) (vW (Int.ofNat 0)) fun vt41 => asB vt41 fun t41 =>
 cal D 21 [(vB t41)] h2 fun t42 h7 =>
 stsC 5 t4 t42 h7 fun h8 =>
 cellsC 5 t4 h8 fun t4a =>
 some (.ret (.tup [t4a, (vI (Int.ofNat 0))]) h8, .no)) (
 let t45 := eqL t0 ([126] : LN)
 obB (brV t45 (
 let t47 := (AV.ptr (HP.nxQ h) (Nat.add 0 0))
 ldIV t47 h2 fun t48 =>
 let t49 := eqQ t48 (Int.ofNat 1)
 some (vB t49)) (
 some (vB false))) fun t50 =>
 br t50 (
 let t51 := (AV.ptr (HP.nxQ h) (Nat.add 0 1))
 ldW t51 h2 fun t52 =>
 cal D 16 [(vS ([94] : LN)), (vW t52), (vW (Int.ofNat 4294967295))] h2 fun t53 h9 =>
 extC t53 0 fun t54 =>
 extC t53 1 fun vt55 => asI .i64 vt55 fun t55 =>
 stsC 5 t4 t54 h9 fun h10 =>
 cellsC 5 t4 h10 fun t4a =>
 some (.ret (.tup [t4a, (vI t55)]) h10, .no)) (
 let t56 := (AV.agg [(vI (Int.ofNat 0)), (vW (Int.ofNat 0)), (AV.int .u64 (Int.ofNat 0)), (vS ([] : LN)), (vI (Int.ofNat 0))])
 stsC 5 t4 t56 h2 fun h11 =>
 cellsC 5 t4 h11 fun t4a =>
 some (.ret (.tup [t4a, (vI (Int.ofNat 15))]) h11, .no)))))
def S9 : SFn := fun D m args h u => nou u <| popS args fun t0 args => popV args fun t1 args => endA args (S9_0 D m t0 t1 h)
theorem T9_0 (hE : FX x9 D m E) : S9_0 D m = e9_0 (E c9_e []) := by unfold S9_0; rw [hE c9_e]; kernel_rfl
theorem X9 : XTie S9 x9 := X_of fun D m E hE args h u => by unfold S9; rw [T9_0 hE]; kernel_rfl
/- 11 -/
def c11_e : XC := (.sO [.mv p6 (.c (.int .u32 (.ofNat 0))) tW, .mv p7 (ci 0) tI] (.sO [.mv p10 q1 tW, .P p11 (.conv (.ii .i32) q10) (.i .i32), .mv p12 q2 tW, .P p13 (.conv (.ii .i32) q12) (.i .i32), .mv p8 q11 (.i .i32), .mv p9 q13 (.i .i32)] (.seq (.seq (.oX [.mv p14 q0 tI]) (.block 0 (.seq (.oX [.bn p16 .eql q14 (ci 1) .b, .mv p15 q16 .b]) (.cond q15 (.seq (.oX [.mv p17 q1 tW, .mv p18 q2 tW, .bn p19 .add q17 q18 tW, .mv p6 q19 tW, .mv p7 (ci 0) tI]) .ret) (.seq (.oX [.bn p21 .eql q14 (ci 2) .b, .mv p20 q21 .b]) (.cond q20 (.seq (.oX [.mv p22 q1 tW, .mv p23 q2 tW, .bn p24 .sub q22 q23 tW, .mv p6 q24 tW, .mv p7 (ci 0) tI]) .ret) (.seq (.oX [.bn p26 .eql q14 (ci 3) .b, .mv p25 q26 .b]) (.cond q25 (.seq (.oX [.mv p27 q1 tW, .mv p28 q2 tW, .bn p29 .and q28 (.c (.int .u32 (.ofNat 31))) tW, .bn p30 .shl q27 q29 tW, .mv p6 q30 tW, .mv p7 (ci 0) tI]) .ret) (.seq (.oX [.bn p32 .eql q14 (ci 4) .b, .mv p31 q32 .b]) (.cond q31 (.seq (.oX [.mv p33 q8 (.i .i32), .mv p34 q9 (.i .i32), .bn p35 .lss q33 q34 .b, .cl p36 25 [q35] tW, .mv p6 q36 tW, .mv p7 (ci 0) tI]) .ret) (.seq (.oX [.bn p38 .eql q14 (ci 5) .b, .mv p37 q38 .b]) (.cond q37 (.seq (.oX [.mv p39 q1 tW, .mv p40 q2 tW, .bn p41 .lss q39 q40 .b, .cl p42 25 [q41] tW, .mv p6 q42 tW, .mv p7 (ci 0) tI]) .ret) (.seq (.oX [.bn p44 .eql q14 (ci 6) .b, .mv p43 q44 .b]) (.cond q43 (.seq (.oX [.mv p45 q1 tW, .mv p46 q2 tW, .bn p47 .xor q45 q46 tW, .mv p6 q47 tW, .mv p7 (ci 0) tI]) .ret) (.seq (.oX [.bn p49 .eql q14 (ci 7) .b, .mv p48 q49 .b]) (.cond q48 (.seq (.oX [.mv p50 q1 tW, .mv p51 q2 tW, .bn p52 .and q51 (.c (.int .u32 (.ofNat 31))) tW, .bn p53 .shr q50 q52 tW, .mv p6 q53 tW, .mv p7 (ci 0) tI]) .ret) (.seq (.oX [.bn p55 .eql q14 (ci 8) .b, .mv p54 q55 .b]) (.cond q54 (.seq (.oX [.mv p56 q8 (.i .i32), .mv p57 q2 tW, .bn p58 .and q57 (.c (.int .u32 (.ofNat 31))) tW, .bn p59 .shr q56 q58 (.i .i32), .P p60 (.conv (.ii .u32) q59) tW, .mv p6 q60 tW, .mv p7 (ci 0) tI]) .ret) (.seq (.oX [.bn p62 .eql q14 (ci 9) .b, .mv p61 q62 .b]) (.cond q61 (.seq (.oX [.mv p63 q1 tW, .mv p64 q2 tW, .bn p65 .or q63 q64 tW, .mv p6 q65 tW, .mv p7 (ci 0) tI]) .ret) (.seq (.oX [.bn p67 .eql q14 (ci 10) .b, .mv p66 q67 .b]) (.cond q66 (.seq (.oX [.mv p68 q1 tW, .mv p69 q2 tW, .bn p70 .and q68 q69 tW, .mv p6 q70 tW, .mv p7 (ci 0) tI]) .ret) .skip)))))))))))))))))))))) (.sO [.mv p71 q0 tI, .mv p72 q1 tW, .mv p73 q2 tW, .cl p74 26 [q71, q72, q73] .v, .P p75 (.ext q74 0) tW, .P p76 (.ext q74 1) tI, .mv p6 q75 tW, .mv p7 q76 tI] (.s .ret)))))
def x11 : XFn := ⟨[tI, tW, tW], false, [(.tmp p6), (.tmp p7)], c11_e⟩
def e11_0 (k t0 t1 t2 h) := kN k [(p0, (vI t0)), (p1, (vW t1)), (p2, (vW t2))] h
def S11_0 (D : CallD) (m : Nat) (t0 t1 t2 : Int) (h : HP) : Res2 :=
 obI .i32 (convV (.ii .i32) (vW t1)) fun t11 =>
 obI .i32 (convV (.ii .i32) (vW t2)) fun t13 =>
 let t16 := eqQ t0 (Int.ofNat 1)
 br t16 (
 binC .add (vW t1) (vW t2) fun vt19 => asI .u32 vt19 fun t19 =>
 some (.ret (.tup [(vW t19), (vI (Int.ofNat 0))]) h, .no)) (
 let t21 := eqQ t0 (Int.ofNat 2)
 br t21 (
 binC .sub (vW t1) (vW t2) fun vt24 => asI .u32 vt24 fun t24 =>
 some (.ret (.tup [(vW t24), (vI (Int.ofNat 0))]) h, .no)) (
 let t26 := eqQ t0 (Int.ofNat 3)
 br t26 (
 binC .and (vW t2) (vW (Int.ofNat 31)) fun vt29 => asI .u32 vt29 fun t29 =>
 obI .u32 (shiftF .shl .u32 t1 t29) fun t30 =>
 some (.ret (.tup [(vW t30), (vI (Int.ofNat 0))]) h, .no)) (
 let t32 := eqQ t0 (Int.ofNat 4)
 br t32 (
 let t35 := ltQ t11 t13
 cal D 25 [(vB t35)] h fun t36 h1 =>
 asI .u32 t36 fun t36a =>
 some (.ret (.tup [(vW t36a), (vI (Int.ofNat 0))]) h1, .no)) (
 let t38 := eqQ t0 (Int.ofNat 5)
 br t38 (
 binC .lss (vW t1) (vW t2) fun vt41 => asB vt41 fun t41 =>
 cal D 25 [(vB t41)] h fun t42 h2 =>
 asI .u32 t42 fun t42a =>
 some (.ret (.tup [(vW t42a), (vI (Int.ofNat 0))]) h2, .no)) (
 let t44 := eqQ t0 (Int.ofNat 6)
 br t44 (
 binC .xor (vW t1) (vW t2) fun vt47 => asI .u32 vt47 fun t47 =>
 some (.ret (.tup [(vW t47), (vI (Int.ofNat 0))]) h, .no)) (
 let t49 := eqQ t0 (Int.ofNat 7)
 br t49 (
 binC .and (vW t2) (vW (Int.ofNat 31)) fun vt52 => asI .u32 vt52 fun t52 =>
 obI .u32 (shiftF .shr .u32 t1 t52) fun t53 =>
 some (.ret (.tup [(vW t53), (vI (Int.ofNat 0))]) h, .no)) (
 let t55 := eqQ t0 (Int.ofNat 8)
 br t55 (
 binC .and (vW t2) (vW (Int.ofNat 31)) fun vt58 => asI .u32 vt58 fun t58 =>
 obI .i32 (shiftF .shr .i32 t11 t58) fun t59 =>
 let t60 := wrapF .u32 t59
 some (.ret (.tup [(vW t60), (vI (Int.ofNat 0))]) h, .no)) (
 let t62 := eqQ t0 (Int.ofNat 9)
 br t62 (
 binC .or (vW t1) (vW t2) fun vt65 => asI .u32 vt65 fun t65 =>
 some (.ret (.tup [(vW t65), (vI (Int.ofNat 0))]) h, .no)) (
 let t67 := eqQ t0 (Int.ofNat 10)
 br t67 (
 binC .and (vW t1) (vW t2) fun vt70 => asI .u32 vt70 fun t70 =>
 some (.ret (.tup [(vW t70), (vI (Int.ofNat 0))]) h, .no)) (
 cal D 26 [(vI t0), (vW t1), (vW t2)] h fun t74 h3 =>
 extC t74 0 fun vt75 => asI .u32 vt75 fun t75 =>
 extC t74 1 fun vt76 => asI .i64 vt76 fun t76 =>
 some (.ret (.tup [(vW t75), (vI t76)]) h3, .no)))))))))))
def S11 : SFn := fun D m args h u => nou u <| popI .i64 args fun t0 args => popI .u32 args fun t1 args => popI .u32 args fun t2 args => endA args (S11_0 D m t0 t1 t2 h)
theorem T11_0 (hE : FX x11 D m E) : S11_0 D m = e11_0 (E c11_e []) := by unfold S11_0; rw [hE c11_e]; kernel_rfl
theorem X11 : XTie S11 x11 := X_of fun D m E hE args h u => by unfold S11; rw [T11_0 hE]; kernel_rfl
/- 12 -/
def c12_e : XC := (.sO [.mv p2 (.c (.int .u64 (.ofNat 0))) (.i .u64)] (.sO [.mv p3 q0 (.i .u64), .cl p4 28 [q3] .v, .cl p5 27 [q4] (.i .u64), .mv p2 q5 (.i .u64)] (.s .ret)))
def x12 : XFn := ⟨[(.i .u64)], false, [(.tmp p2)], c12_e⟩
def e12_0 (k t0 h) := kN k [(p0, (AV.int .u64 t0))] h
def S12_0 (D : CallD) (m : Nat) (t0 : Int) (h : HP) : Res2 :=
 cal D 28 [(AV.int .u64 t0)] h fun t4 h1 =>
 cal D 27 [t4] h1 fun t5 h2 =>
 asI .u64 t5 fun t5a =>
 some (.ret (AV.int .u64 t5a) h2, .no)
def S12 : SFn := fun D m args h u => nou u <| popI .u64 args fun t0 args => endA args (S12_0 D m t0 h)
theorem T12_0 (hE : FX x12 D m E) : S12_0 D m = e12_0 (E c12_e []) := by unfold S12_0; rw [hE c12_e]; kernel_rfl
theorem X12 : XTie S12 x12 := X_of fun D m E hE args h u => by unfold S12; rw [T12_0 hE]; kernel_rfl
/- 13 -/
def c13_e : XC := (.sO [.al p4 (.box q1), .al p5 (.box q2), .mv p6 (.c (.int .u32 (.ofNat 0))) tW] (.sO [.mv p10 q0 .s, .L p11 (.cells 5 q4) .v, .L p12 (.cells 5 q5) .v, .cl p13 7 [q10, q11, q12] .v, .mv p9 q13 .v, .P p14 (.ext q9 0) .v, .P p15 (.ext q9 1) tI, .al p7 (.new [(kI 0), (.int .u32 (.ofNat 0)), (.int .u64 (.ofNat 0)), (.str []), (kI 0)]), .ss 5 q7 q14, .mv p8 q15 tI] (.sO [.fa p16 1 q7, .ld p17 q16 tW, .mv p6 q17 tW] (.s .ret))))
def x13 : XFn := ⟨[.s, .v, .v], false, [(.tmp p6)], c13_e⟩
def e13_0 (k t0 t1 t2 h) := kN k [(p0, (vS t0)), (p1, t1), (p2, t2)] h
def S13_0 (D : CallD) (m : Nat) (t0 : LN) (t1 t2 : AV) (h : HP) : Res2 :=
 let t4 := AV.ptr (HP.nxQ h) 0
 let h1 := HP.newQ h (.cells true (AV.cells t1))
 let t5 := AV.ptr (HP.nxQ h1) 0
 let h2 := HP.newQ h1 (.cells true (AV.cells t2))
 cellsC 5 t4 h2 fun t11 =>
 cellsC 5 t5 h2 fun t12 =>
 cal D 7 [(vS t0), t11, t12] h2 fun t13 h3 =>
 extC t13 0 fun t14 =>
 extC t13 1 fun vt15 => asI .i64 vt15 fun t15 =>
 let t7 := AV.ptr (HP.nxQ h3) 0
 let h4 := HP.newQ h3 (.cells true [(kI 0), (.int .u32 (.ofNat 0)), (.int .u64 (.ofNat 0)), (.str []), (kI 0)])
 stsC 5 t7 t14 h4 fun h5 =>
 let t16 := (AV.ptr (HP.nxQ h3) (Nat.add 0 1))
 ldW t16 h5 fun t17 =>
 some (.ret (vW t17) h5, .no)
def S13 : SFn := fun D m args h u => nou u <| popS args fun t0 args => popV args fun t1 args => popV args fun t2 args => endA args (S13_0 D m t0 t1 t2 h)
theorem T13_0 (hE : FX x13 D m E) : S13_0 D m = e13_0 (E c13_e []) := by unfold S13_0; rw [hE c13_e]; kernel_rfl
theorem X13 : XTie S13 x13 := X_of fun D m E hE args h u => by unfold S13; rw [T13_0 hE]; kernel_rfl
/- 14 -/
def c14_e : XC := (.sO [.al p2 (.new [.nils]), .mv p3 (ci 0) tI] (.sO [.mv p10 q0 .s, .cl p11 29 [q10] .v, .mv p9 q11 .v, .P p12 (.ext q9 0) .v, .P p13 (.ext q9 1) tI, .P p14 (.ext q9 2) tI, .al p4 (.new [.nils]), .ss 1 q4 q12, .mv p5 q13 tI, .mv p6 q14 tI] (.seq (.seq (.oX [.mv p15 q6 tI, .bn p16 .neq q15 (ci 0) .b]) (.cond q16 (.seq (.oX [.P p17 (.build [.nils] []) .v, .mv p18 q6 tI, .ss 1 q2 q17, .mv p3 q18 tI]) .ret) .skip)) (.sO [.L p20 (.cells 1 q4) .v, .cl p21 30 [q20] .v, .mv p19 q21 .v, .P p22 (.ext q19 0) .v, .P p23 (.ext q19 1) tI, .P p24 (.ext q19 2) tI, .al p7 (.new [.nils]), .ss 1 q7 q22, .mv p8 q23 tI, .mv p6 q24 tI] (.sO [.L p25 (.cells 1 q7) .v, .mv p26 q6 tI, .ss 1 q2 q25, .mv p3 q26 tI] (.s .ret))))))
def x14 : XFn := ⟨[.s], false, [(.cells 1 p2), (.tmp p3)], c14_e⟩
def e14_0 (k t0 h) := kN k [(p0, (vS t0))] h
def S14_0 (D : CallD) (m : Nat) (t0 : LN) (h : HP) : Res2 :=
 let t2 := AV.ptr (HP.nxQ h) 0
 let h1 := HP.newQ h (.cells true [.nils])
 cal D 29 [(vS t0)] h1 fun t11 h2 =>
 extC t11 0 fun t12 =>
 extC t11 1 fun vt13 => asI .i64 vt13 fun t13 =>
 extC t11 2 fun vt14 => asI .i64 vt14 fun t14 =>
 let t4 := AV.ptr (HP.nxQ h2) 0
 let h3 := HP.newQ h2 (.cells true [.nils])
 stsC 1 t4 t12 h3 fun h4 =>
 let t16 := notQ (eqQ t14 (Int.ofNat 0))
 br t16 (
 let t17 := (AV.agg [(.nils : AV)])
 stsC 1 t2 t17 h4 fun h5 =>
 cellsC 1 t2 h5 fun t2a =>
 some (.ret (.tup [t2a, (vI t14)]) h5, .no)) (
 cellsC 1 t4 h4 fun t20 =>
 cal D 30 [t20] h4 fun t21 h6 =>
 extC t21 0 fun t22 =>
 extC t21 1 fun vt23 => asI .i64 vt23 fun t23 =>
 extC t21 2 fun vt24 => asI .i64 vt24 fun t24 =>
 let t7 := AV.ptr (HP.nxQ h6) 0
 let h7 := HP.newQ h6 (.cells true [.nils])
 stsC 1 t7 t22 h7 fun h8 =>
 cellsC 1 t7 h8 fun t25 =>
 stsC 1 t2 t25 h8 fun h9 =>
 cellsC 1 t2 h9 fun t2a =>
 some (.ret (.tup [t2a, (vI t24)]) h9, .no))
def S14 : SFn := fun D m args h u => nou u <| popS args fun t0 args => endA args (S14_0 D m t0 h)
theorem T14_0 (hE : FX x14 D m E) : S14_0 D m = e14_0 (E c14_e []) := by unfold S14_0; rw [hE c14_e]; kernel_rfl
theorem X14 : XTie S14 x14 := X_of fun D m E hE args h u => by unfold S14; rw [T14_0 hE]; kernel_rfl
/- 15 -/
def v15_0 : List Pos := [p5]
def c15_0 : XC := (.sO [.mv p121 q5 .v, .mv p2 q121 .v, .mv p3 (ci 0) tI, .mv p4 (ci 0) tI] (.s .ret))
def v15_2 : List Pos := [p1, p5, p19, p20, p21]
def c15_2 : XC := (.s (.oX [.bn p120 .add q21 (ci 1) tI, .mv p21 q120 tI]))
def v15_3 : List Pos := [p1, p5, p9, p19, p20, p21]
def c15_3 : XC := (.s (.oX [.mv p116 q5 .v, .L p117 (.cells 4 q9) .v, .al p118 (.bsl [(.str []), (.bool false), .nils, .nils] 1 [⟨0, 4, q117⟩]), .o ⟨(some p119), (.e (.app 4 72 q116 q118)), none, []⟩ .v, .mv p5 q119 .v]))
def v15_5 : List Pos := [p1, p5, p7, p8, p9, p19, p20, p21, p48, p49, p50]
def c15_5 : XC := (.s (.oX [.bn p115 .add q50 (ci 1) tI, .mv p50 q115 tI]))
def v15_7 : List Pos := [p1, p5, p7, p8, p9, p10, p15, p19, p20, p21, p48, p49, p50, p97, p98]
def c15_7b : XC := (.sO [.bn p99 .lss q98 q97 .b] (.seq (.cond q99 .skip (.exit 5)) (.seq (.block 6 (.seq (.oX [.mv p100 q98 tI, .mv p17 q100 tI]) (.ops true (XL.of [.fa p101 2 q9, .ld p102 q101 .v, .mv p103 q8 tI, .mv p104 q10 tI, .bn p105 .mul q103 q104 tI, .mv p106 q17 tI, .bn p107 .add q105 q106 tI, .mv p108 q15 (.i .u64), .mv p109 q17 tI, .bn p110 .mul (ci 8) q109 tI, .bn p111 .shr q108 q110 (.i .u64), .P p112 (.conv (.ii .u8) q111) tC, .P p113 (.iaddr (.sl 1) q102 q107) .v, .st q113 q112])))) (.s (.oX [.bn p114 .add q98 (ci 1) tI, .mv p98 q114 tI])))))
def v15_6 : List Pos := [p1, p5, p7, p8, p9, p10, p15, p19, p20, p21, p48, p49, p50]
def c15_6 : XC := (.sO [.mv p97 q8 tI, .mv p98 (ci 0) tI] (.block 5 (.loop v15_7 c15_7b)))
def v15_8 : List Pos := [p1, p5, p7, p8, p9, p10, p12, p15, p16, p19, p20, p21, p48, p49, p50]
def c15_8 : XC := (.s (.oX [.fa p82 3 q9, .ld p83 q82 .v, .mv p84 q8 tI, .mv p85 q10 tI, .bn p86 .mul q84 q85 tI, .fa p87 3 q12, .ld p88 q87 .s, .mv p89 q16 tI, .fa p90 4 q12, .ld p91 q90 tI, .bn p92 .mul q89 q91 tI, .P p93 (.build [(kI 0), (.str []), (kI 0)] [⟨0, 1, q86⟩, ⟨1, 1, q88⟩, ⟨2, 1, q92⟩]) .v, .al p94 (.bsl [(kI 0), (.str []), (kI 0)] 1 [⟨0, 3, q93⟩]), .o ⟨(some p95), (.e (.app 3 32 q83 q94)), none, []⟩ .v, .fa p96 3 q9, .st q96 q95]))
def v15_4 : List Pos := [p1, p5, p7, p8, p9, p19, p20, p21, p48, p49, p50]
def c15_4b : XC := (.sO [.bn p51 .lss q50 q49 .b] (.seq (.cond q51 .skip (.exit 2)) (.sj v15_5 (.block 3 (.sO [.mv p52 q50 tI, .P p53 (.iaddr (.sl 8) q48 q50) .v, .L p54 (.cells 8 q53) .v, .al p11 (.new [(kI 0), (.str []), (.str []), (.int .u32 (.ofNat 0)), (.int .u64 (.ofNat 0)), .nils, (kI 0), (kI 0)]), .mv p10 q52 tI, .ss 8 q11 q54] (.sO [.L p56 (.cells 1 q1) .v, .L p57 (.cells 8 q11) .v, .cl p58 32 [q56, q57] .v, .mv p55 q58 .v, .P p59 (.ext q55 0) .v, .P p60 (.ext q55 1) tI, .P p61 (.ext q55 2) tI, .al p12 (.new [(kI 0), (.int .u32 (.ofNat 0)), (.int .u64 (.ofNat 0)), (.str []), (kI 0)]), .ss 5 q12 q59, .mv p13 q60 tI, .mv p14 q61 tI] (.seq (.seq (.oX [.mv p62 q14 tI, .bn p63 .neq q62 (ci 0) .b]) (.cond q63 (.seq (.oX [.mv p64 q13 tI, .mv p65 q14 tI, .mv p2 (.c .nils) .v, .mv p3 q64 tI, .mv p4 q65 tI]) .ret) .skip)) (.sO [.fa p66 1 q12, .ld p67 q66 tW, .P p68 (.conv (.ii .u64) q67) (.i .u64), .mv p15 q68 (.i .u64)] (.sj v15_6 (.block 4 (.sO [.fa p70 4 q7, .ld p71 q70 tI, .bn p72 .eql q71 (ci 2) .b, .mv p69 q72 .b] (.cond q69 (.s (.oX [.fa p73 2 q12, .ld p74 q73 (.i .u64), .mv p15 q74 (.i .u64)])) (.sO [.fa p76 3 q12, .ld p77 q76 .s, .bn p78 .neq q77 (.c (.str [])) .b, .mv p75 q78 .b] (.cond q75 (.sO [.mv p16 (ci 4) tI] (.sj v15_8 (.sO [.fa p79 0 q12, .ld p80 q79 tI, .bn p81 .eql q80 (ci 4) .b] (.cond q81 (.s (.oX [.mv p16 (ci 8) tI])) (.s .skip))) c15_8)) (.s .skip)))))) c15_6)))))) c15_5)))
def v15_1 : List Pos := [p1, p5, p19, p20, p21]
def c15_1b : XC := (.sO [.bn p22 .lss q21 q20 .b] (.seq (.cond q22 .skip (.exit 0)) (.sj v15_2 (.block 1 (.sO [.P p23 (.iaddr (.sl 17) q19 q21) .v, .L p24 (.cells 17 q23) .v, .al p7 (.new [(.bool false), (.bool false), (.bool false), (.str []), (kI 0), (kI 0), .nils, (.bool false), .nils, (kI 0), .nils, .nils, (.str []), (kI 0), (kI 0), (kI 0), (kI 0)]), .ss 17 q7 q24] (.seq (.seq (.oX [.fa p25 0 q7, .ld p26 q25 .b, .mv p27 q26 .b, .ge p27 (XL.of [.G p27 false p28 (.faddr 2 q7) .v, .o ⟨(some p29), (.l (.cell q28)), (some (p27, false)), []⟩ .b, .P p30 (.pick q27 (cb true) q29) .b]) p30 .b]) (.cond q30 (.exit 1) .skip)) (.sO [.fa p31 4 q7, .ld p32 q31 tI, .cl p33 31 [q32] tI, .mv p8 q33 tI] (.seq (.ops true (XL.of [.fa p34 3 q7, .ld p35 q34 .s, .fa p36 1 q7, .ld p37 q36 .b, .mv p38 q8 tI, .fa p39 5 q7, .ld p40 q39 tI, .P p41 (.mm true [q40, (ci 1)]) tI, .bn p42 .mul q38 q41 tI, .bn p43 .add q42 (ci 7) tI, .bn p44 .andNot q43 (ci 7) tI, .al p45 (.mksl [(.int .u8 (.ofNat 0))] 1 q44 q44), .P p46 (.build [(.str []), (.bool false), .nils, .nils] [⟨0, 1, q35⟩, ⟨1, 1, q37⟩, ⟨2, 1, q45⟩]) .v, .al p9 (.new [(.str []), (.bool false), .nils, .nils]), .ss 4 q9 q46])) (.sj v15_3 (.sO [.fa p47 6 q7, .ld p48 q47 .v, .P p49 (.lenl q48) tI, .mv p50 (ci 0) tI] (.block 2 (.loop v15_4 c15_4b))) c15_3)))))) c15_2)))
def c15_e : XC := (.sO [.al p1 (.box q0), .mv p2 (.c .nils) .v, .mv p3 (ci 0) tI, .mv p4 (ci 0) tI] (.sO [.mv p5 (.c .nils) .v] (.sj v15_0 (.sO [.fa p18 0 q1, .ld p19 q18 .v, .P p20 (.lenl q19) tI, .mv p21 (ci 0) tI] (.block 0 (.loop v15_1 c15_1b))) c15_0)))
def x15 : XFn := ⟨[.v], false, [(.tmp p2), (.tmp p3), (.tmp p4)], c15_e⟩
def e15_0 (k t5 h) := kN k [(p5, t5)] h
def S15_0 (D : CallD) (m : Nat) (t5 : AV) (h : HP) : Res2 :=
 some (.ret (.tup [t5, (vI (Int.ofNat 0)), (vI (Int.ofNat 0))]) h, .no)
def e15_2 (k t1 t5 t19 t20 t21 h) := kN k [(p1, t1), (p5, t5), (p19, t19), (p20, (vI t20)), (p21, (vI t21))] h
def S15_2 (D : CallD) (m : Nat) (g1 : AV → AV → AV → Int → Int → HP → Res2) (t1 t5 t19 : AV) (t20 t21 : Int) (h : HP) : Res2 :=
 let t120 := wrQ .i64 (addQ t21 (Int.ofNat 1))
 g1 t1 t5 t19 t20 t120 h
def e15_3 (k t1 t5 t9 t19 t20 t21 h) := kN k [(p1, t1), (p5, t5), (p9, t9), (p19, t19), (p20, (vI t20)), (p21, (vI t21))] h
def S15_3 (D : CallD) (m : Nat) (g1 : AV → AV → AV → Int → Int → HP → Res2) (t1 t5 t9 t19 : AV) (t20 t21 : Int) (h : HP) : Res2 :=
 cellsC 4 t9 h fun t117 =>
 obQ (evA (.bsl [(.str []), (.bool false), .nils, .nils] 1 [⟨0, 4, (.c t117)⟩]) .leaf) fun r18 =>
 let t118 := vkV r18.2 (HP.nxQ h)
 let h19 := HP.newQ h r18.1
 eff (.app 4 72 (.c t5) (.c t118)) h19 fun t119 h20 =>
 S15_2 D m g1 t1 t119 t19 t20 t21 h20
def e15_5 (k t1 t5 t7 t8 t9 t19 t20 t21 t48 t49 t50 h) := kN k [(p1, t1), (p5, t5), (p7, t7), (p8, (vI t8)), (p9, t9), (p19, t19), (p20, (vI t20)), (p21, (vI t21)), (p48, t48), (p49, (vI t49)), (p50, (vI t50))] h
def S15_5 (D : CallD) (m : Nat) (g4 : AV → AV → AV → Int → AV → AV → Int → Int → AV → Int → Int → HP → Res2) (g1 : AV → AV → AV → Int → Int → HP → Res2) (t1 t5 t7 : AV) (t8 : Int) (t9 t19 : AV) (t20 t21 : Int) (t48 : AV) (t49 t50 : Int) (h : HP) : Res2 :=
 let t115 := wrQ .i64 (addQ t50 (Int.ofNat 1))
 g4 t1 t5 t7 t8 t9 t19 t20 t21 t48 t49 t115 h
def e15_7 (k t1 t5 t7 t8 t9 t10 t15 t19 t20 t21 t48 t49 t50 t97 t98 h) := kN k [(p1, t1), (p5, t5), (p7, t7), (p8, (vI t8)), (p9, t9), (p10, (vI t10)), (p15, (AV.int .u64 t15)), (p19, t19), (p20, (vI t20)), (p21, (vI t21)), (p48, t48), (p49, (vI t49)), (p50, (vI t50)), (p97, (vI t97)), (p98, (vI t98))] h
def S15_7b (D : CallD) (m : Nat) (g7 : AV → AV → AV → Int → AV → Int → Int → AV → Int → Int → AV → Int → Int → Int → Int → HP → Res2) (g4 : AV → AV → AV → Int → AV → AV → Int → Int → AV → Int → Int → HP → Res2) (g1 : AV → AV → AV → Int → Int → HP → Res2) (t1 t5 t7 : AV) (t8 : Int) (t9 : AV) (t10 t15 : Int) (t19 : AV) (t20 t21 : Int) (t48 : AV) (t49 t50 t97 t98 : Int) (h : HP) : Res2 :=
 let t99 := ltQ t98 t97
 br t99 (
 faC 2 t9 fun t101 =>
 cellC t101 h fun t102 =>
 let t105 := wrQ .i64 (t8 * t10)
 let t107 := wrQ .i64 (addQ t105 t98)
 let t110 := wrQ .i64 ((Int.ofNat 8) * t98)
 obI .u64 (shiftF .shr .u64 t15 t110) fun t111 =>
 let t112 := wrapF .u8 t111
 iasC 1 t102 (vI t107) fun t113 =>
 stoC t113 (vC t112) h fun h26 =>
 let t114 := wrQ .i64 (addQ t98 (Int.ofNat 1))
 g7 t1 t5 t7 t8 t9 t10 t15 t19 t20 t21 t48 t49 t50 t97 t114 h26) (
 S15_5 D m g4 g1 t1 t5 t7 t8 t9 t19 t20 t21 t48 t49 t50 h)
def S15_7 (D : CallD) (m : Nat) (g4 : AV → AV → AV → Int → AV → AV → Int → Int → AV → Int → Int → HP → Res2) (g1 : AV → AV → AV → Int → Int → HP → Res2) : AV → AV → AV → Int → AV → Int → Int → AV → Int → Int → AV → Int → Int → Int → Int → HP → Res2 := nrec (fun _ _ _ _ _ _ _ _ _ _ _ _ _ _ _ _ => none) (fun _ g => S15_7b D m g g4 g1) m
def e15_6 (k t1 t5 t7 t8 t9 t10 t15 t19 t20 t21 t48 t49 t50 h) := kN k [(p1, t1), (p5, t5), (p7, t7), (p8, (vI t8)), (p9, t9), (p10, (vI t10)), (p15, (AV.int .u64 t15)), (p19, t19), (p20, (vI t20)), (p21, (vI t21)), (p48, t48), (p49, (vI t49)), (p50, (vI t50))] h
def S15_6 (D : CallD) (m : Nat) (g4 : AV → AV → AV → Int → AV → AV → Int → Int → AV → Int → Int → HP → Res2) (g1 : AV → AV → AV → Int → Int → HP → Res2) (t1 t5 t7 : AV) (t8 : Int) (t9 : AV) (t10 t15 : Int) (t19 : AV) (t20 t21 : Int) (t48 : AV) (t49 t50 : Int) (h : HP) : Res2 :=
 S15_7 D m g4 g1 t1 t5 t7 t8 t9 t10 t15 t19 t20 t21 t48 t49 t50 t8 (Int.ofNat 0) h
def e15_8 (k t1 t5 t7 t8 t9 t10 t12 t15 t16 t19 t20 t21 t48 t49 t50 h) := kN k [(p1, t1), (p5, t5), (p7, t7), (p8, (vI t8)), (p9, t9), (p10, (vI t10)), (p12, t12), (p15, (AV.int .u64 t15)), (p16, (vI t16)), (p19, t19), (p20, (vI t20)), (p21, (vI t21)), (p48, t48), (p49, (vI t49)), (p50, (vI t50))] h
def S15_8 (D : CallD) (m : Nat) (g4 : AV → AV → AV → Int → AV → AV → Int → Int → AV → Int → Int → HP → Res2) (g1 : AV → AV → AV → Int → Int → HP → Res2) (t1 t5 t7 : AV) (t8 : Int) (t9 : AV) (t10 : Int) (t12 : AV) (t15 t16 : Int) (t19 : AV) (t20 t21 : Int) (t48 : AV) (t49 t50 : Int) (h : HP) : Res2 :=
 faC 3 t9 fun t82 =>
 cellC t82 h fun t83 =>
 let t86 := wrQ .i64 (t8 * t10)
 faC 3 t12 fun t87 =>
 ldS t87 h fun t88 =>
 faC 4 t12 fun t90 =>
 ldI t90 h fun t91 =>
 let t92 := wrQ .i64 (t16 * t91)
 let t93 := (AV.agg [(vI t86), (vS t88), (vI t92)])
 let t94 := AV.slice (HP.nxQ h) 0 1 (.exact 1)
 let h27 := HP.newQ h (.cells true [(vI t86), (vS t88), (vI t92)])
 eff (.app 3 32 (.c t83) (.c t94)) h27 fun t95 h28 =>
 faC 3 t9 fun t96 =>
 stoC t96 t95 h28 fun h29 =>
 S15_6 D m g4 g1 t1 t5 t7 t8 t9 t10 t15 t19 t20 t21 t48 t49 t50 h29
def e15_4 (k t1 t5 t7 t8 t9 t19 t20 t21 t48 t49 t50 h) := kN k [(p1, t1), (p5, t5), (p7, t7), (p8, (vI t8)), (p9, t9), (p19, t19), (p20, (vI t20)), (p21, (vI t21)), (p48, t48), (p49, (vI t49)), (p50, (vI t50))] h
def S15_4b (D : CallD) (m : Nat) (g4 : AV → AV → AV → Int → AV → AV → Int → Int → AV → Int → Int → HP → Res2) (g1 : AV → AV → AV → Int → Int → HP → Res2) (t1 t5 t7 : AV) (t8 : Int) (t9 t19 : AV) (t20 t21 : Int) (t48 : AV) (t49 t50 : Int) (h : HP) : Res2 :=
 let t51 := ltQ t50 t49
 br t51 (
 iasC 8 t48 (vI t50) fun t53 =>
 cellsC 8 t53 h fun t54 =>
 let t11 := AV.ptr (HP.nxQ h) 0
 let h21 := HP.newQ h (.cells true [(kI 0), (.str []), (.str []), (.int .u32 (.ofNat 0)), (.int .u64 (.ofNat 0)), .nils, (kI 0), (kI 0)])
 stsC 8 t11 t54 h21 fun h22 =>
 cellsC 1 t1 h22 fun t56 =>
 cellsC 8 t11 h22 fun t57 =>
 cal D 32 [t56, t57] h22 fun t58 h23 =>
 extC t58 0 fun t59 =>
 extC t58 1 fun vt60 => asI .i64 vt60 fun t60 =>
 extC t58 2 fun vt61 => asI .i64 vt61 fun t61 =>
 let t12 := AV.ptr (HP.nxQ h23) 0
 let h24 := HP.newQ h23 (.cells true [(kI 0), (.int .u32 (.ofNat 0)), (.int .u64 (.ofNat 0)), (.str []), (kI 0)])
 stsC 5 t12 t59 h24 fun h25 =>
 let t63 := notQ (eqQ t61 (Int.ofNat 0))
 br t63 (
 some (.ret (.tup [(.nils : AV), (vI t60), (vI t61)]) h25, .no)) (
 let t66 := (AV.ptr (HP.nxQ h23) (Nat.add 0 1))
 ldW t66 h25 fun t67 =>
 obI .u64 (convV (.ii .u64) (vW t67)) fun t68 =>
 faC 4 t7 fun t70 =>
 ldI t70 h25 fun t71 =>
 let t72 := eqQ t71 (Int.ofNat 2)
 br t72 (
 let t73 := (AV.ptr (HP.nxQ h23) (Nat.add 0 2))
 cellC t73 h25 fun vt74 => asI .u64 vt74 fun t74 =>
 S15_6 D m g4 g1 t1 t5 t7 t8 t9 t50 t74 t19 t20 t21 t48 t49 t50 h25) (
 let t76 := (AV.ptr (HP.nxQ h23) (Nat.add 0 3))
 ldS t76 h25 fun t77 =>
 let t78 := !(eqL t77 ([] : LN))
 br t78 (
 let t79 := (AV.ptr (HP.nxQ h23) (Nat.add 0 0))
 ldI t79 h25 fun t80 =>
 let t81 := eqQ t80 (Int.ofNat 4)
 br t81 (
 S15_8 D m g4 g1 t1 t5 t7 t8 t9 t50 t12 t68 (Int.ofNat 8) t19 t20 t21 t48 t49 t50 h25) (
 S15_8 D m g4 g1 t1 t5 t7 t8 t9 t50 t12 t68 (Int.ofNat 4) t19 t20 t21 t48 t49 t50 h25)) (
 S15_6 D m g4 g1 t1 t5 t7 t8 t9 t50 t68 t19 t20 t21 t48 t49 t50 h25)))) (
 S15_3 D m g1 t1 t5 t9 t19 t20 t21 h)
def S15_4 (D : CallD) (m : Nat) (g1 : AV → AV → AV → Int → Int → HP → Res2) : AV → AV → AV → Int → AV → AV → Int → Int → AV → Int → Int → HP → Res2 := nrec (fun _ _ _ _ _ _ _ _ _ _ _ _ => none) (fun _ g => S15_4b D m g g1) m
def e15_1 (k t1 t5 t19 t20 t21 h) := kN k [(p1, t1), (p5, t5), (p19, t19), (p20, (vI t20)), (p21, (vI t21))] h
def S15_1b (D : CallD) (m : Nat) (g1 : AV → AV → AV → Int → Int → HP → Res2) (t1 t5 t19 : AV) (t20 t21 : Int) (h : HP) : Res2 :=
 let t22 := ltQ t21 t20
 br t22 (
 iasC 17 t19 (vI t21) fun t23 =>
 cellsC 17 t23 h fun t24 =>
 let t7 := AV.ptr (HP.nxQ h) 0
 let h11 := HP.newQ h (.cells true [(.bool false), (.bool false), (.bool false), (.str []), (kI 0), (kI 0), .nils, (.bool false), .nils, (kI 0), .nils, .nils, (.str []), (kI 0), (kI 0), (kI 0), (kI 0)])
 stsC 17 t7 t24 h11 fun h12 =>
 let t25 := (AV.ptr (HP.nxQ h) (Nat.add 0 0))
 ldB t25 h12 fun t26 =>
 obB (brV t26 (
 some (vB true)) (
 let t28 := (AV.ptr (HP.nxQ h) (Nat.add 0 2))
 ldBV t28 h12 fun t29 =>
 some (vB t29))) fun t30 =>
 br t30 (
 S15_2 D m g1 t1 t5 t19 t20 t21 h12) (
 let t31 := (AV.ptr (HP.nxQ h) (Nat.add 0 4))
 ldI t31 h12 fun t32 =>
 cal D 31 [(vI t32)] h12 fun t33 h13 =>
 asI .i64 t33 fun t33a =>
 let t34 := (AV.ptr (HP.nxQ h) (Nat.add 0 3))
 ldS t34 h13 fun t35 =>
 let t36 := (AV.ptr (HP.nxQ h) (Nat.add 0 1))
 ldB t36 h13 fun t37 =>
 let t39 := (AV.ptr (HP.nxQ h) (Nat.add 0 5))
 ldI t39 h13 fun t40 =>
 let t41 := mmI true t40 (Int.ofNat 1)
 let t42 := wrQ .i64 (t33a * t41)
 let t43 := wrQ .i64 (addQ t42 (Int.ofNat 7))
 let t44 := IntKind.wrap .i64 (BitVec.ofInt (IntKind.bits .i64) t43 &&& ~~~ BitVec.ofInt (IntKind.bits .i64) (Int.ofNat 7)).toNat
 obQ (evA (.mksl [(.int .u8 (.ofNat 0))] 1 (.c (vI t44)) (.c (vI t44))) .leaf) fun r14 =>
 let t45 := vkV r14.2 (HP.nxQ h13)
 let h15 := HP.newQ h13 r14.1
 obQ (evP (.build [(.str []), (.bool false), .nils, .nils] [⟨0, 1, (.c (vS t35))⟩, ⟨1, 1, (.c (vB t37))⟩, ⟨2, 1, (.c t45)⟩]) .leaf) fun t46 =>
 let t9 := AV.ptr (HP.nxQ h15) 0
 let h16 := HP.newQ h15 (.cells true [(.str []), (.bool false), .nils, .nils])
 stsC 4 t9 t46 h16 fun h17 =>
 let t47 := (AV.ptr (HP.nxQ h) (Nat.add 0 6))
 cellC t47 h17 fun t48 =>
 lenC t48 fun vt49 => asI .i64 vt49 fun t49 =>
 S15_4 D m g1 t1 t5 t7 t33a t9 t19 t20 t21 t48 t49 (Int.ofNat 0) h17)) (
 S15_0 D m t5 h)
def S15_1 (D : CallD) (m : Nat) : AV → AV → AV → Int → Int → HP → Res2 := nrec (fun _ _ _ _ _ _ => none) (fun _ g => S15_1b D m g) m
def e15_9 (k t0 h) := kN k [(p0, t0)] h
def S15_9 (D : CallD) (m : Nat) (t0 : AV) (h : HP) : Res2 :=
 let t1 := AV.ptr (HP.nxQ h) 0
 let h10 := HP.newQ h (.cells true (AV.cells t0))
 let t18 := (AV.ptr (HP.nxQ h) (Nat.add 0 0))
 cellC t18 h10 fun t19 =>
 lenC t19 fun vt20 => asI .i64 vt20 fun t20 =>
 S15_1 D m t1 (.nils : AV) t19 t20 (Int.ofNat 0) h10
def S15 : SFn := fun D m args h u => nou u <| popV args fun t0 args => endA args (S15_9 D m t0 h)
theorem T15_0 (hE : FX x15 D m E) : S15_0 D m = e15_0 (E c15_0 []) := by unfold S15_0; rw [hE c15_0]; kernel_rfl
theorem T15_2 (hE : FX x15 D m E) (G1) : S15_2 D m (e15_1 G1) = e15_2 (E c15_2 [.lp v15_1 G1, .blk 0, .sj v15_0 c15_0]) := by unfold S15_2; rw [hE c15_2]; kernel_rfl
theorem T15_3 (hE : FX x15 D m E) (G1) : S15_3 D m (e15_1 G1) = e15_3 (E c15_3 [.blk 1, .sj v15_2 c15_2, .lp v15_1 G1, .blk 0, .sj v15_0 c15_0]) := by unfold S15_3; rw [T15_2 hE G1, hE c15_3]; kernel_rfl
theorem T15_5 (hE : FX x15 D m E) (G4) (G1) : S15_5 D m (e15_4 G4) (e15_1 G1) = e15_5 (E c15_5 [.lp v15_4 G4, .blk 2, .sj v15_3 c15_3, .blk 1, .sj v15_2 c15_2, .lp v15_1 G1, .blk 0, .sj v15_0 c15_0]) := by unfold S15_5; rw [hE c15_5]; kernel_rfl
theorem T15_7b (hE : FX x15 D m E) (G7) (G4) (G1) : S15_7b D m (e15_7 G7) (e15_4 G4) (e15_1 G1) = e15_7 (E c15_7b [.lp v15_7 G7, .blk 5, .blk 3, .sj v15_5 c15_5, .lp v15_4 G4, .blk 2, .sj v15_3 c15_3, .blk 1, .sj v15_2 c15_2, .lp v15_1 G1, .blk 0, .sj v15_0 c15_0]) := by unfold S15_7b; rw [T15_5 hE G4 G1, hE c15_7b]; kernel_rfl
theorem T15_7 (hE : FX x15 D m E) (G4) (G1) : S15_7 D m (e15_4 G4) (e15_1 G1) = e15_7 (nrec (fun _ => none) (fun _ G7 st => E c15_7b [.lp v15_7 G7, .blk 5, .blk 3, .sj v15_5 c15_5, .lp v15_4 G4, .blk 2, .sj v15_3 c15_3, .blk 1, .sj v15_2 c15_2, .lp v15_1 G1, .blk 0, .sj v15_0 c15_0] st) m) :=
  nrec_emb e15_7 (fun _ _ _ _ _ _ _ _ _ _ _ _ _ _ _ _ => none) (fun g => S15_7b D m g (e15_4 G4) (e15_1 G1)) (fun G7 st => E c15_7b [.lp v15_7 G7, .blk 5, .blk 3, .sj v15_5 c15_5, .lp v15_4 G4, .blk 2, .sj v15_3 c15_3, .blk 1, .sj v15_2 c15_2, .lp v15_1 G1, .blk 0, .sj v15_0 c15_0] st) rfl (fun g => T15_7b hE g G4 G1) m
theorem T15_6 (hE : FX x15 D m E) (G4) (G1) : S15_6 D m (e15_4 G4) (e15_1 G1) = e15_6 (E c15_6 [.blk 3, .sj v15_5 c15_5, .lp v15_4 G4, .blk 2, .sj v15_3 c15_3, .blk 1, .sj v15_2 c15_2, .lp v15_1 G1, .blk 0, .sj v15_0 c15_0]) := by unfold S15_6; rw [T15_7 hE G4 G1, hE c15_6]; kernel_rfl
theorem T15_8 (hE : FX x15 D m E) (G4) (G1) : S15_8 D m (e15_4 G4) (e15_1 G1) = e15_8 (E c15_8 [.blk 4, .sj v15_6 c15_6, .blk 3, .sj v15_5 c15_5, .lp v15_4 G4, .blk 2, .sj v15_3 c15_3, .blk 1, .sj v15_2 c15_2, .lp v15_1 G1, .blk 0, .sj v15_0 c15_0]) := by unfold S15_8; rw [T15_6 hE G4 G1, hE c15_8]; kernel_rfl
theorem T15_4b (hE : FX x15 D m E) (G4) (G1) : S15_4b D m (e15_4 G4) (e15_1 G1) = e15_4 (E c15_4b [.lp v15_4 G4, .blk 2, .sj v15_3 c15_3, .blk 1, .sj v15_2 c15_2, .lp v15_1 G1, .blk 0, .sj v15_0 c15_0]) := by unfold S15_4b; rw [T15_6 hE G4 G1, T15_8 hE G4 G1, T15_3 hE G1, hE c15_4b]; kernel_rfl
theorem T15_4 (hE : FX x15 D m E) (G1) : S15_4 D m (e15_1 G1) = e15_4 (nrec (fun _ => none) (fun _ G4 st => E c15_4b [.lp v15_4 G4, .blk 2, .sj v15_3 c15_3, .blk 1, .sj v15_2 c15_2, .lp v15_1 G1, .blk 0, .sj v15_0 c15_0] st) m) :=
  nrec_emb e15_4 (fun _ _ _ _ _ _ _ _ _ _ _ _ => none) (fun g => S15_4b D m g (e15_1 G1)) (fun G4 st => E c15_4b [.lp v15_4 G4, .blk 2, .sj v15_3 c15_3, .blk 1, .sj v15_2 c15_2, .lp v15_1 G1, .blk 0, .sj v15_0 c15_0] st) rfl (fun g => T15_4b hE g G1) m
theorem T15_1b (hE : FX x15 D m E) (G1) : S15_1b D m (e15_1 G1) = e15_1 (E c15_1b [.lp v15_1 G1, .blk 0, .sj v15_0 c15_0]) := by unfold S15_1b; rw [T15_2 hE G1, T15_4 hE G1, T15_0 hE, hE c15_1b]; kernel_rfl
theorem T15_1 (hE : FX x15 D m E) : S15_1 D m = e15_1 (nrec (fun _ => none) (fun _ G1 st => E c15_1b [.lp v15_1 G1, .blk 0, .sj v15_0 c15_0] st) m) :=
  nrec_emb e15_1 (fun _ _ _ _ _ _ => none) (fun g => S15_1b D m g) (fun G1 st => E c15_1b [.lp v15_1 G1, .blk 0, .sj v15_0 c15_0] st) rfl (fun g => T15_1b hE g) m
theorem T15_9 (hE : FX x15 D m E) : S15_9 D m = e15_9 (E c15_e []) := by unfold S15_9; rw [T15_1 hE, hE c15_e]; kernel_rfl
theorem X15 : XTie S15 x15 := X_of fun D m E hE args h u => by unfold S15; rw [T15_9 hE]; kernel_rfl
/- 16 -/
def c16_e : XC := (.sO [.al p6 (.new [(kI 0), (.int .u32 (.ofNat 0)), (.int .u64 (.ofNat 0)), (.str []), (kI 0)]), .mv p7 (ci 0) tI] (.seq (.seq (.oX [.mv p13 q0 .s, .cl p14 33 [q13] tI, .mv p8 q14 tI]) (.seq (.oX [.mv p15 q8 tI, .bn p16 .neq q15 (ci 0) .b]) (.cond q16 (.seq (.oX [.mv p18 q8 tI, .mv p19 q1 tW, .mv p20 q2 tW, .cl p21 11 [q18, q19, q20] .v, .mv p17 q21 .v, .P p22 (.ext q17 0) tW, .P p23 (.ext q17 1) tI, .mv p9 q22 tW, .mv p10 q23 tI]) (.seq (.oX [.mv p24 q9 tW, .P p25 (.build [(kI 0), (.int .u32 (.ofNat 0)), (.int .u64 (.ofNat 0)), (.str []), (kI 0)] [⟨0, 1, (ci 1)⟩, ⟨1, 1, q24⟩]) .v, .mv p26 q10 tI, .ss 5 q6 q25, .mv p7 q26 tI]) .ret)) .skip))) (.sO [.mv p27 q1 tW, .cl p28 34 [q27] tI, .mv p29 q2 tW, .cl p30 34 [q29] tI, .mv p11 q28 tI, .mv p12 q30 tI] (.seq (.seq (.oX [.mv p31 q0 .s]) (.block 0 (.seq (.oX [.bn p33 .eql q31 (.c (.str [61, 61])) .b, .mv p32 q33 .b]) (.cond q32 (.seq (.oX [.mv p34 q11 tI, .mv p35 q12 tI, .bn p36 .eql q34 q35 .b, .cl p37 21 [q36] .v, .ss 5 q6 q37, .mv p7 (ci 0) tI]) .ret) (.seq (.oX [.bn p39 .eql q31 (.c (.str [33, 61])) .b, .mv p38 q39 .b]) (.cond q38 (.seq (.oX [.mv p40 q11 tI, .mv p41 q12 tI, .bn p42 .neq q40 q41 .b, .cl p43 21 [q42] .v, .ss 5 q6 q43, .mv p7 (ci 0) tI]) .ret) (.seq (.oX [.bn p45 .eql q31 (.c (.str [60])) .b, .mv p44 q45 .b]) (.cond q44 (.seq (.oX [.mv p46 q11 tI, .mv p47 q12 tI, .bn p48 .lss q46 q47 .b, .cl p49 21 [q48] .v, .ss 5 q6 q49, .mv p7 (ci 0) tI]) .ret) (.seq (.oX [.bn p51 .eql q31 (.c (.str [60, 61])) .b, .mv p50 q51 .b]) (.cond q50 (.seq (.oX [.mv p52 q11 tI, .mv p53 q12 tI, .bn p54 .leq q52 q53 .b, .cl p55 21 [q54] .v, .ss 5 q6 q55, .mv p7 (ci 0) tI]) .ret) (.seq (.oX [.bn p57 .eql q31 (.c (.str [62])) .b, .mv p56 q57 .b]) (.cond q56 (.seq (.oX [.mv p58 q11 tI, .mv p59 q12 tI, .bn p60 .gtr q58 q59 .b, .cl p61 21 [q60] .v, .ss 5 q6 q61, .mv p7 (ci 0) tI]) .ret) (.seq (.oX [.bn p63 .eql q31 (.c (.str [62, 61])) .b, .mv p62 q63 .b]) (.cond q62 (.seq (.oX [.mv p64 q11 tI, .mv p65 q12 tI, .bn p66 .geq q64 q65 .b, .cl p67 21 [q66] .v, .ss 5 q6 q67, .mv p7 (ci 0) tI]) .ret) (.seq (.oX [.bn p69 .eql q31 (.c (.str [38, 38])) .b, .mv p68 q69 .b]) (.cond q68 (.seq (.oX [.mv p70 q11 tI, .bn p71 .neq q70 (ci 0) .b, .mv p72 q71 .b, .ge p72 (XL.of [.G p72 true p73 (.mov q12) tI, .G p72 true p74 (.bin .neq q73 (ci 0)) .b, .P p75 (.pick q72 q74 (cb false)) .b]) p75 .b, .cl p76 21 [q75] .v, .ss 5 q6 q76, .mv p7 (ci 0) tI]) .ret) (.seq (.oX [.bn p78 .eql q31 (.c (.str [124, 124])) .b, .mv p77 q78 .b]) (.cond q77 (.seq (.oX [.mv p79 q11 tI, .bn p80 .neq q79 (ci 0) .b, .mv p81 q80 .b, .ge p81 (XL.of [.G p81 false p82 (.mov q12) tI, .G p81 false p83 (.bin .neq q82 (ci 0)) .b, .P p84 (.pick q81 (cb true) q83) .b]) p84 .b, .cl p85 21 [q84] .v, .ss 5 q6 q85, .mv p7 (ci 0) tI]) .ret) .skip)))))))))))))))))) (.sO [.P p86 (.build [(kI 0), (.int .u32 (.ofNat 0)), (.int .u64 (.ofNat 0)), (.str []), (kI 0)] []) .v, .ss 5 q6 q86, .mv p7 (ci 15) tI] (.s .ret))))))
def x16 : XFn := ⟨[.s, tW, tW], false, [(.cells 5 p6), (.tmp p7)], c16_e⟩
def e16_0 (k t0 t1 t2 h) := kN k [(p0, (vS t0)), (p1, (vW t1)), (p2, (vW t2))] h
def S16_0 (D : CallD) (m : Nat) (t0 : LN) (t1 t2 : Int) (h : HP) : Res2 :=
 let t6 := AV.ptr (HP.nxQ h) 0
 let h1 := HP.newQ h (.cells true [(kI 0), (.int .u32 (.ofNat 0)), (.int .u64 (.ofNat 0)), (.str []), (kI 0)])
 cal D 33 [(vS t0)] h1 fun t14 h2 =>
 asI .i64 t14 fun t14a =>
 let t16 := notQ (eqQ t14a (Int.ofNat 0))
 br t16 (
 cal D 11 [(vI t14a), (vW t1), (vW t2)] h2 fun t21 h3 =>
 extC t21 0 fun vt22 => asI .u32 vt22 fun t22 =>
 extC t21 1 fun vt23 => asI .i64 vt23 fun t23 =>
 let t25 := (AV.agg [(vI (Int.ofNat 1)), (vW t22), (AV.int .u64 (Int.ofNat 0)), (vS ([] : LN)), (vI (Int.ofNat 0))])
 stsC 5 t6 t25 h3 fun h4 =>
 cellsC 5 t6 h4 fun t6a =>
 some (.ret (.tup [t6a, (vI t23)]) h4, .no)) (
 cal D 34 [(vW t1)] h2 fun t28 h5 =>
 asI .i64 t28 fun t28a =>
 cal D 34 [(vW t2)] h5 fun t30 h6 =>
 asI .i64 t30 fun t30a =>
 let t33 := eqL t0 ([61, 61] : LN)
 br t33 (
 let t36 := eqQ t28a t30a
 cal D 21 [(vB t36)] h6 fun t37 h7 =>
 stsC 5 t6 t37 h7 fun h8 =>
 cellsC 5 t6 h8 fun t6a =>
 some (.ret (.tup [t6a, (vI (Int.ofNat 0))]) h8, .no)) (
 let t39 := eqL t0 ([33, 61] : LN)
 br t39 (
 let t42 := notQ (eqQ t28a t30a)
 cal D 21 [(vB t42)] h6 fun t43 h9 =>
 stsC 5 t6 t43 h9 fun h10 =>
 cellsC 5 t6 h10 fun t6a =>
 some (.ret (.tup [t6a, (vI (Int.ofNat 0))]) h10, .no)) (
 let t45 := eqL t0 ([60] : LN)
 br t45 (
 let t48 := ltQ t28a t30a
 cal D 21 [(vB t48)] h6 fun t49 h11 =>
 stsC 5 t6 t49 h11 fun h12 =>
 cellsC 5 t6 h12 fun t6a =>
 some (.ret (.tup [t6a, (vI (Int.ofNat 0))]) h12, .no)) (
 let t51 := eqL t0 ([60, 61] : LN)
 br t51 (
 let t54 := leQ t28a t30a
 cal D 21 [(vB t54)] h6 fun t55 h13 =>
 stsC 5 t6 t55 h13 fun h14 =>
 cellsC 5 t6 h14 fun t6a =>
 some (.ret (.tup [t6a, (vI (Int.ofNat 0))]) h14, .no)) (
 let t57 := eqL t0 ([62] : LN)
 br t57 (
 let t60 := ltQ t30a t28a
 cal D 21 [(vB t60)] h6 fun t61 h15 =>
 stsC 5 t6 t61 h15 fun h16 =>
 cellsC 5 t6 h16 fun t6a =>
 some (.ret (.tup [t6a, (vI (Int.ofNat 0))]) h16, .no)) (
 let t63 := eqL t0 ([62, 61] : LN)
 br t63 (
 let t66 := leQ t30a t28a
 cal D 21 [(vB t66)] h6 fun t67 h17 =>
 stsC 5 t6 t67 h17 fun h18 =>
 cellsC 5 t6 h18 fun t6a =>
 some (.ret (.tup [t6a, (vI (Int.ofNat 0))]) h18, .no)) (
 let t69 := eqL t0 ([38, 38] : LN)
 br t69 (
 let t71 := notQ (eqQ t28a (Int.ofNat 0))
 obB (brV t71 (
 let t74 := notQ (eqQ t30a (Int.ofNat 0))
 some (vB t74)) (
 some (vB false))) fun t75 =>
 cal D 21 [(vB t75)] h6 fun t76 h19 =>
 stsC 5 t6 t76 h19 fun h20 =>
 cellsC 5 t6 h20 fun t6a =>
 some (.ret (.tup [t6a, (vI (Int.ofNat 0))]) h20, .no)) (
 let t78 := eqL t0 ([124, 124] : LN)
 br t78 (
 let t80 := notQ (eqQ t28a (Int.ofNat 0))
 obB (brV t80 (
 some (vB true)) (
 let t83 := notQ (eqQ t30a (Int.ofNat 0))
 some (vB t83))) fun t84 =>
 cal D 21 [(vB t84)] h6 fun t85 h21 =>
 stsC 5 t6 t85 h21 fun h22 =>
 cellsC 5 t6 h22 fun t6a =>
 some (.ret (.tup [t6a, (vI (Int.ofNat 0))]) h22, .no)) (
 let t86 := (AV.agg [(vI (Int.ofNat 0)), (vW (Int.ofNat 0)), (AV.int .u64 (Int.ofNat 0)), (vS ([] : LN)), (vI (Int.ofNat 0))])
 stsC 5 t6 t86 h6 fun h23 =>
 cellsC 5 t6 h23 fun t6a =>
 some (.ret (.tup [t6a, (vI (Int.ofNat 15))]) h23, .no))))))))))
def S16 : SFn := fun D m args h u => nou u <| popS args fun t0 args => popI .u32 args fun t1 args => popI .u32 args fun t2 args => endA args (S16_0 D m t0 t1 t2 h)
theorem T16_0 (hE : FX x16 D m E) : S16_0 D m = e16_0 (E c16_e []) := by unfold S16_0; rw [hE c16_e]; kernel_rfl
theorem X16 : XTie S16 x16 := X_of fun D m E hE args h u => by unfold S16; rw [T16_0 hE]; kernel_rfl
/- 17 -/
def v17_0 : List Pos := [p0, p1, p2, p6]
def c17_0 : XC := (.sO [.al p36 (.mkmap), .o ⟨none, (.e (.mset .str q36 (.c (.str [61, 61])) (ci 51))), none, []⟩ .v, .o ⟨none, (.e (.mset .str q36 (.c (.str [33, 61])) (ci 51))), none, []⟩ .v, .o ⟨none, (.e (.mset .str q36 (.c (.str [60])) (ci 52))), none, []⟩ .v, .o ⟨none, (.e (.mset .str q36 (.c (.str [62])) (ci 52))), none, []⟩ .v, .o ⟨none, (.e (.mset .str q36 (.c (.str [60, 61])) (ci 53))), none, []⟩ .v, .o ⟨none, (.e (.mset .str q36 (.c (.str [62, 61])) (ci 53))), none, []⟩ .v, .mv p37 q36 .v, .mv p38 q0 .s, .L p39 (.look .str (kI 0) false q37 q38) tI, .mv p11 q39 tI] (.sO [.mv p41 q11 tI, .mv p42 q1 (.i .u64), .mv p43 q2 (.i .u64), .cl p44 36 [q41, q42, q43] .v, .mv p40 q44 .v, .P p45 (.ext q40 0) tW, .P p46 (.ext q40 1) tI, .mv p12 q45 tW, .mv p13 q46 tI] (.seq (.seq (.oX [.mv p47 q13 tI, .bn p48 .neq q47 (ci 0) .b]) (.cond q48 (.seq (.oX [.P p49 (.build [(kI 0), (.int .u32 (.ofNat 0)), (.int .u64 (.ofNat 0)), (.str []), (kI 0)] []) .v, .ss 5 q6 q49, .mv p7 (ci 15) tI]) .ret) .skip)) (.sO [.mv p50 q12 tW, .bn p51 .eql q50 (.c (.int .u32 (.ofNat 1))) .b, .mv p52 q0 .s, .bn p53 .eql q52 (.c (.str [33, 61])) .b, .P p54 (.eqb true q51 q53) .b, .cl p55 21 [q54] .v, .ss 5 q6 q55, .mv p7 (ci 0) tI] (.s .ret)))))
def v17_1 : List Pos := [p0, p1, p2, p6, p31]
def c17_1 : XC := (.cond q31 (.s (.oX [.mv p34 q2 (.i .u64), .mv p35 q1 (.i .u64), .mv p1 q34 (.i .u64), .mv p2 q35 (.i .u64)])) (.s .skip))
def c17_e : XC := (.sO [.al p6 (.new [(kI 0), (.int .u32 (.ofNat 0)), (.int .u64 (.ofNat 0)), (.str []), (kI 0)]), .mv p7 (ci 0) tI] (.seq (.seq (.oX [.al p14 (.mkmap), .o ⟨none, (.e (.mset .str q14 (.c (.str [43])) (ci 45))), none, []⟩ .v, .o ⟨none, (.e (.mset .str q14 (.c (.str [45])) (ci 46))), none, []⟩ .v, .o ⟨none, (.e (.mset .str q14 (.c (.str [42])) (ci 47))), none, []⟩ .v, .o ⟨none, (.e (.mset .str q14 (.c (.str [47])) (ci 48))), none, []⟩ .v, .mv p15 q14 .v, .mv p16 q0 .s, .L p17 (.look .str (kI 0) false q15 q16) tI, .mv p8 q17 tI]) (.seq (.oX [.mv p18 q8 tI, .bn p19 .neq q18 (ci 0) .b]) (.cond q19 (.seq (.oX [.mv p21 q8 tI, .mv p22 q1 (.i .u64), .mv p23 q2 (.i .u64), .cl p24 35 [q21, q22, q23] .v, .mv p20 q24 .v, .P p25 (.ext q20 0) (.i .u64), .P p26 (.ext q20 1) tI, .mv p9 q25 (.i .u64), .mv p10 q26 tI]) (.seq (.oX [.mv p27 q9 (.i .u64), .P p28 (.build [(kI 0), (.int .u32 (.ofNat 0)), (.int .u64 (.ofNat 0)), (.str []), (kI 0)] [⟨0, 1, (ci 2)⟩, ⟨2, 1, q27⟩]) .v, .mv p29 q10 tI, .ss 5 q6 q28, .mv p7 q29 tI]) .ret)) .skip))) (.sj v17_0 (.sO [.mv p30 q0 .s] (.block 0 (.sj v17_1 (.sO [.bn p32 .eql q30 (.c (.str [62])) .b, .mv p31 q32 .b] (.cond q31 (.s .skip) (.s (.oX [.bn p33 .eql q30 (.c (.str [62, 61])) .b, .mv p31 q33 .b])))) c17_1))) c17_0)))
def x17 : XFn := ⟨[.s, (.i .u64), (.i .u64)], false, [(.cells 5 p6), (.tmp p7)], c17_e⟩
def e17_0 (k t0 t1 t2 t6 h) := kN k [(p0, (vS t0)), (p1, (AV.int .u64 t1)), (p2, (AV.int .u64 t2)), (p6, t6)] h
def S17_0 (D : CallD) (m : Nat) (t0 : LN) (t1 t2 : Int) (t6 : AV) (h : HP) : Res2 :=
 let t36 := AV.map (HP.nxQ h)
 let h11 := HP.newQ h (.map [] 0)
 eff (.mset .str (.c t36) (.c (vS ([61, 61] : LN))) (.c (vI (Int.ofNat 51)))) h11 fun t0a h12 =>
 eff (.mset .str (.c t36) (.c (vS ([33, 61] : LN))) (.c (vI (Int.ofNat 51)))) h12 fun t0aa h13 =>
 eff (.mset .str (.c t36) (.c (vS ([60] : LN))) (.c (vI (Int.ofNat 52)))) h13 fun t0aaa h14 =>
 eff (.mset .str (.c t36) (.c (vS ([62] : LN))) (.c (vI (Int.ofNat 52)))) h14 fun t0aaaa h15 =>
 eff (.mset .str (.c t36) (.c (vS ([60, 61] : LN))) (.c (vI (Int.ofNat 53)))) h15 fun t0aaaaa h16 =>
 eff (.mset .str (.c t36) (.c (vS ([62, 61] : LN))) (.c (vI (Int.ofNat 53)))) h16 fun t0aaaaaa h17 =>
 obI .i64 (evL (.look .str (kI 0) false (.c t36) (.c (vS t0))) .leaf h17) fun t39 =>
 cal D 36 [(vI t39), (AV.int .u64 t1), (AV.int .u64 t2)] h17 fun t44 h18 =>
 extC t44 0 fun vt45 => asI .u32 vt45 fun t45 =>
 extC t44 1 fun vt46 => asI .i64 vt46 fun t46 =>
 let t48 := notQ (eqQ t46 (Int.ofNat 0))
 br t48 (
 let t49 := (AV.agg [(vI (Int.ofNat 0)), (vW (Int.ofNat 0)), (AV.int .u64 (Int.ofNat 0)), (vS ([] : LN)), (vI (Int.ofNat 0))])
 stsC 5 t6 t49 h18 fun h19 =>
 cellsC 5 t6 h19 fun t6a =>
 some (.ret (.tup [t6a, (vI (Int.ofNat 15))]) h19, .no)) (
 binC .eql (vW t45) (vW (Int.ofNat 1)) fun vt51 => asB vt51 fun t51 =>
 let t53 := eqL t0 ([33, 61] : LN)
 let t54 := ((t51 == t53) != true)
 cal D 21 [(vB t54)] h18 fun t55 h20 =>
 stsC 5 t6 t55 h20 fun h21 =>
 cellsC 5 t6 h21 fun t6a =>
 some (.ret (.tup [t6a, (vI (Int.ofNat 0))]) h21, .no))
def e17_1 (k t0 t1 t2 t6 t31 h) := kN k [(p0, (vS t0)), (p1, (AV.int .u64 t1)), (p2, (AV.int .u64 t2)), (p6, t6), (p31, (vB t31))] h
def S17_1 (D : CallD) (m : Nat) (t0 : LN) (t1 t2 : Int) (t6 : AV) (t31 : Bool) (h : HP) : Res2 :=
 br t31 (
 S17_0 D m t0 t2 t1 t6 h) (
 S17_0 D m t0 t1 t2 t6 h)
def e17_2 (k t0 t1 t2 h) := kN k [(p0, (vS t0)), (p1, (AV.int .u64 t1)), (p2, (AV.int .u64 t2))] h
def S17_2 (D : CallD) (m : Nat) (t0 : LN) (t1 t2 : Int) (h : HP) : Res2 :=
 let t6 := AV.ptr (HP.nxQ h) 0
 let h3 := HP.newQ h (.cells true [(kI 0), (.int .u32 (.ofNat 0)), (.int .u64 (.ofNat 0)), (.str []), (kI 0)])
 let t14 := AV.map (HP.nxQ h3)
 let h4 := HP.newQ h3 (.map [] 0)
 eff (.mset .str (.c t14) (.c (vS ([43] : LN))) (.c (vI (Int.ofNat 45)))) h4 fun t0a h5 =>
 eff (.mset .str (.c t14) (.c (vS ([45] : LN))) (.c (vI (Int.ofNat 46)))) h5 fun t0aa h6 =>
 eff (.mset .str (.c t14) (.c (vS ([42] : LN))) (.c (vI (Int.ofNat 47)))) h6 fun t0aaa h7 =>
 eff (.mset .str (.c t14) (.c (vS ([47] : LN))) (.c (vI (Int.ofNat 48)))) h7 fun t0aaaa h8 =>
 obI .i64 (evL (.look .str (kI 0) false (.c t14) (.c (vS t0))) .leaf h8) fun t17 =>
 let t19 := notQ (eqQ t17 (Int.ofNat 0))
 br t19 (
 cal D 35 [(vI t17), (AV.int .u64 t1), (AV.int .u64 t2)] h8 fun t24 h9 =>
 extC t24 0 fun vt25 => asI .u64 vt25 fun t25 =>
 extC t24 1 fun vt26 => asI .i64 vt26 fun t26 =>
 let t28 := (AV.agg [(vI (Int.ofNat 2)), (vW (Int.ofNat 0)), (AV.int .u64 t25), (vS ([] : LN)), (vI (Int.ofNat 0))])
 stsC 5 t6 t28 h9 fun h10 =>
 cellsC 5 t6 h10 fun t6a =>
 some (.ret (.tup [t6a, (vI t26)]) h10, .no)) (
 let t32 := eqL t0 ([62] : LN)
 br t32 (
 S17_1 D m t0 t1 t2 t6 t32 h8) (
 let t33 := eqL t0 ([62, 61] : LN)
 S17_1 D m t0 t1 t2 t6 t33 h8))
def S17 : SFn := fun D m args h u => nou u <| popS args fun t0 args => popI .u64 args fun t1 args => popI .u64 args fun t2 args => endA args (S17_2 D m t0 t1 t2 h)
theorem T17_0 (hE : FX x17 D m E) : S17_0 D m = e17_0 (E c17_0 []) := by unfold S17_0; rw [hE c17_0]; kernel_rfl
theorem T17_1 (hE : FX x17 D m E) : S17_1 D m = e17_1 (E c17_1 [.blk 0, .sj v17_0 c17_0]) := by unfold S17_1; rw [T17_0 hE, hE c17_1]; kernel_rfl
theorem T17_2 (hE : FX x17 D m E) : S17_2 D m = e17_2 (E c17_e []) := by unfold S17_2; rw [T17_1 hE, hE c17_e]; kernel_rfl
theorem X17 : XTie S17 x17 := X_of fun D m E hE args h u => by unfold S17; rw [T17_2 hE]; kernel_rfl
/- 20 -/
def c20_e : XC := (.sO [.mv p2 (.c (.int .u64 (.ofNat 0))) (.i .u64)] (.sO [.mv p3 q0 (.i .u64), .cl p4 28 [q3] .v, .mv p5 q0 (.i .u64), .bn p6 .xor q5 (.c (.int .u64 (.ofNat 9223372036854775808))) (.i .u64), .cl p7 28 [q6] .v, .cl p8 40 [q4, q7] .v, .cl p9 27 [q8] (.i .u64), .mv p2 q9 (.i .u64)] (.s .ret)))
def x20 : XFn := ⟨[(.i .u64)], false, [(.tmp p2)], c20_e⟩
def e20_0 (k t0 h) := kN k [(p0, (AV.int .u64 t0))] h
def S20_0 (D : CallD) (m : Nat) (t0 : Int) (h : HP) : Res2 :=
 cal D 28 [(AV.int .u64 t0)] h fun t4 h1 =>
 obI .u64 (intBin .xor .u64 t0 (Int.ofNat 9223372036854775808)) fun t6 =>
 cal D 28 [(AV.int .u64 t6)] h1 fun t7 h2 =>
 cal D 40 [t4, t7] h2 fun t8 h3 =>
 cal D 27 [t8] h3 fun t9 h4 =>
 asI .u64 t9 fun t9a =>
 some (.ret (AV.int .u64 t9a) h4, .no)
def S20 : SFn := fun D m args h u => nou u <| popI .u64 args fun t0 args => endA args (S20_0 D m t0 h)
theorem T20_0 (hE : FX x20 D m E) : S20_0 D m = e20_0 (E c20_e []) := by unfold S20_0; rw [hE c20_e]; kernel_rfl
theorem X20 : XTie S20 x20 := X_of fun D m E hE args h u => by unfold S20; rw [T20_0 hE]; kernel_rfl
/- 21 -/
def c21_e : XC := (.sO [.al p2 (.new [(kI 0), (.int .u32 (.ofNat 0)), (.int .u64 (.ofNat 0)), (.str []), (kI 0)])] (.seq (.seq (.oX [.mv p3 q0 .b]) (.cond q3 (.seq (.oX [.P p4 (.build [(kI 0), (.int .u32 (.ofNat 0)), (.int .u64 (.ofNat 0)), (.str []), (kI 0)] [⟨0, 1, (ci 1)⟩, ⟨1, 1, (.c (.int .u32 (.ofNat 1)))⟩]) .v, .ss 5 q2 q4]) .ret) .skip)) (.sO [.P p5 (.build [(kI 0), (.int .u32 (.ofNat 0)), (.int .u64 (.ofNat 0)), (.str []), (kI 0)] [⟨0, 1, (ci 1)⟩]) .v, .ss 5 q2 q5] (.s .ret))))
def x21 : XFn := ⟨[.b], false, [(.cells 5 p2)], c21_e⟩
def e21_0 (k t0 h) := kN k [(p0, (vB t0))] h
def S21_0 (D : CallD) (m : Nat) (t0 : Bool) (h : HP) : Res2 :=
 let t2 := AV.ptr (HP.nxQ h) 0
 let h1 := HP.newQ h (.cells true [(kI 0), (.int .u32 (.ofNat 0)), (.int .u64 (.ofNat 0)), (.str []), (kI 0)])
 br t0 (
 let t4 := (AV.agg [(vI (Int.ofNat 1)), (vW (Int.ofNat 1)), (AV.int .u64 (Int.ofNat 0)), (vS ([] : LN)), (vI (Int.ofNat 0))])
 stsC 5 t2 t4 h1 fun h2 =>
 cellsC 5 t2 h2 fun t2a =>
 some (.ret t2a h2, .no)) (
 let t5 := (AV.agg [(vI (Int.ofNat 1)), (vW (Int.ofNat 0)), (AV.int .u64 (Int.ofNat 0)), (vS ([] : LN)), (vI (Int.ofNat 0))])
 stsC 5 t2 t5 h1 fun h3 =>
 cellsC 5 t2 h3 fun t2a =>
 some (.ret t2a h3, .no))
def S21 : SFn := fun D m args h u => nou u <| popB args fun t0 args => endA args (S21_0 D m t0 h)
theorem T21_0 (hE : FX x21 D m E) : S21_0 D m = e21_0 (E c21_e []) := by unfold S21_0; rw [hE c21_e]; kernel_rfl
theorem X21 : XTie S21 x21 := X_of fun D m E hE args h u => by unfold S21; rw [T21_0 hE]; kernel_rfl
/- 25 -/
def c25_e : XC := (.sO [.mv p2 (.c (.int .u32 (.ofNat 0))) tW] (.seq (.seq (.oX [.mv p3 q0 .b]) (.cond q3 (.seq (.oX [.mv p2 (.c (.int .u32 (.ofNat 1))) tW]) .ret) .skip)) (.sO [.mv p2 (.c (.int .u32 (.ofNat 0))) tW] (.s .ret))))
def x25 : XFn := ⟨[.b], false, [(.tmp p2)], c25_e⟩
def e25_0 (k t0 h) := kN k [(p0, (vB t0))] h
def S25_0 (D : CallD) (m : Nat) (t0 : Bool) (h : HP) : Res2 :=
 br t0 (
 some (.ret (vW (Int.ofNat 1)) h, .no)) (
 some (.ret (vW (Int.ofNat 0)) h, .no))
def S25 : SFn := fun D m args h u => nou u <| popB args fun t0 args => endA args (S25_0 D m t0 h)
theorem T25_0 (hE : FX x25 D m E) : S25_0 D m = e25_0 (E c25_e []) := by unfold S25_0; rw [hE c25_e]; kernel_rfl
theorem X25 : XTie S25 x25 := X_of fun D m E hE args h u => by unfold S25; rw [T25_0 hE]; kernel_rfl
/- 26 -/
def v26_0 : List Pos := [p0, p1, p2, p8, p9]
def c26_0 : XC := (.seq (.seq (.oX [.mv p48 q0 tI]) (.block 2 (.seq (.oX [.bn p50 .eql q48 (ci 14) .b, .mv p49 q50 .b]) (.cond q49 (.seq (.oX [.mv p51 q8 (.i .i32), .mv p52 q9 (.i .i32), .bn p53 .quo q51 q52 (.i .i32), .P p54 (.conv (.ii .u32) q53) tW, .mv p6 q54 tW, .mv p7 (ci 0) tI]) .ret) (.seq (.oX [.bn p56 .eql q48 (ci 15) .b, .mv p55 q56 .b]) (.cond q55 (.seq (.oX [.mv p57 q1 tW, .mv p58 q2 tW, .bn p59 .quo q57 q58 tW, .mv p6 q59 tW, .mv p7 (ci 0) tI]) .ret) (.seq (.oX [.bn p61 .eql q48 (ci 16) .b, .mv p60 q61 .b]) (.cond q60 (.seq (.oX [.mv p62 q8 (.i .i32), .mv p63 q9 (.i .i32), .bn p64 .rem q62 q63 (.i .i32), .P p65 (.conv (.ii .u32) q64) tW, .mv p6 q65 tW, .mv p7 (ci 0) tI]) .ret) (.seq (.oX [.bn p67 .eql q48 (ci 17) .b, .mv p66 q67 .b]) (.cond q66 (.seq (.oX [.mv p68 q1 tW, .mv p69 q2 tW, .bn p70 .rem q68 q69 tW, .mv p6 q70 tW, .mv p7 (ci 0) tI]) .ret) .skip)))))))))) (.sO [.mv p6 (.c (.int .u32 (.ofNat 0))) tW, .mv p7 (ci 1) tI] (.s .ret)))
def v26_1 : List Pos := []
def c26_1 : XC := (.sO [.mv p6 (.c (.int .u32 (.ofNat 0))) tW, .mv p7 (ci 1) tI] (.s .ret))
def v26_3 : List Pos := [p1, p44]
def c26_3 : XC := (.cond q44 (.sO [.mv p47 q1 tW, .mv p6 q47 tW, .mv p7 (ci 0) tI] (.s .ret)) (.s .skip))
def v26_2 : List Pos := [p1, p40, p41]
def c26_2 : XC := (.cond q41 (.sO [.mv p6 (.c (.int .u32 (.ofNat 4294967295))) tW, .mv p7 (ci 0) tI] (.s .ret)) (.sj v26_3 (.sO [.bn p45 .eql q40 (ci 16) .b, .mv p44 q45 .b] (.cond q44 (.s .skip) (.s (.oX [.bn p46 .eql q40 (ci 17) .b, .mv p44 q46 .b])))) c26_3))
def c26_e : XC := (.sO [.mv p6 (.c (.int .u32 (.ofNat 0))) tW, .mv p7 (ci 0) tI] (.sO [.mv p12 q1 tW, .P p13 (.conv (.ii .i32) q12) (.i .i32), .mv p14 q2 tW, .P p15 (.conv (.ii .i32) q14) (.i .i32), .mv p8 q13 (.i .i32), .mv p9 q15 (.i .i32)] (.sO [.mv p17 q1 tW, .mv p18 q2 tW, .cl p19 44 [q17, q18] .v, .mv p16 q19 .v, .P p20 (.ext q16 0) tW, .P p21 (.ext q16 1) tW, .mv p10 q20 tW, .mv p11 q21 tW] (.seq (.seq (.oX [.mv p22 q0 tI]) (.block 0 (.seq (.oX [.bn p24 .eql q22 (ci 11) .b, .mv p23 q24 .b]) (.cond q23 (.seq (.oX [.mv p25 q11 tW, .mv p6 q25 tW, .mv p7 (ci 0) tI]) .ret) (.seq (.oX [.bn p27 .eql q22 (ci 12) .b, .mv p26 q27 .b]) (.cond q26 (.seq (.oX [.mv p28 q8 (.i .i32), .P p29 (.conv (.ii .i64) q28) tI, .mv p30 q9 (.i .i32), .P p31 (.conv (.ii .i64) q30) tI, .bn p32 .mul q29 q31 tI, .bn p33 .shr q32 (.c (.int .u64 (.ofNat 32))) tI, .P p34 (.conv (.ii .u32) q33) tW, .mv p6 q34 tW, .mv p7 (ci 0) tI]) .ret) (.seq (.oX [.bn p36 .eql q22 (ci 13) .b, .mv p35 q36 .b]) (.cond q35 (.seq (.oX [.mv p37 q10 tW, .mv p6 q37 tW, .mv p7 (ci 0) tI]) .ret) .skip)))))))) (.sj v26_0 (.sO [.mv p38 q2 tW, .bn p39 .eql q38 (.c (.int .u32 (.ofNat 0))) .b] (.cond q39 (.sj v26_1 (.sO [.mv p40 q0 tI] (.block 1 (.sj v26_2 (.sO [.bn p42 .eql q40 (ci 14) .b, .mv p41 q42 .b] (.cond q41 (.s .skip) (.s (.oX [.bn p43 .eql q40 (ci 15) .b, .mv p41 q43 .b])))) c26_2))) c26_1) (.s .skip))) c26_0)))))
def x26 : XFn := ⟨[tI, tW, tW], false, [(.tmp p6), (.tmp p7)], c26_e⟩
def e26_0 (k t0 t1 t2 t8 t9 h) := kN k [(p0, (vI t0)), (p1, (vW t1)), (p2, (vW t2)), (p8, (AV.int .i32 t8)), (p9, (AV.int .i32 t9))] h
def S26_0 (D : CallD) (m : Nat) (t0 t1 t2 t8 t9 : Int) (h : HP) : Res2 :=
 let t50 := eqQ t0 (Int.ofNat 14)
 br t50 (
 obI .i32 (intBin .quo .i32 t8 t9) fun t53 =>
 let t54 := wrapF .u32 t53
 some (.ret (.tup [(vW t54), (vI (Int.ofNat 0))]) h, .no)) (
 let t56 := eqQ t0 (Int.ofNat 15)
 br t56 (
 binC .quo (vW t1) (vW t2) fun vt59 => asI .u32 vt59 fun t59 =>
 some (.ret (.tup [(vW t59), (vI (Int.ofNat 0))]) h, .no)) (
 let t61 := eqQ t0 (Int.ofNat 16)
 br t61 (
 obI .i32 (intBin .rem .i32 t8 t9) fun t64 =>
 let t65 := wrapF .u32 t64
 some (.ret (.tup [(vW t65), (vI (Int.ofNat 0))]) h, .no)) (
 let t67 := eqQ t0 (Int.ofNat 17)
 br t67 (
 binC .rem (vW t1) (vW t2) fun vt70 => asI .u32 vt70 fun t70 =>
 some (.ret (.tup [(vW t70), (vI (Int.ofNat 0))]) h, .no)) (
 some (.ret (.tup [(vW (Int.ofNat 0)), (vI (Int.ofNat 1))]) h, .no)))))
def e26_1 (k h) := kN k [] h
def S26_1 (D : CallD) (m : Nat) (h : HP) : Res2 :=
 some (.ret (.tup [(vW (Int.ofNat 0)), (vI (Int.ofNat 1))]) h, .no)
def e26_3 (k t1 t44 h) := kN k [(p1, (vW t1)), (p44, (vB t44))] h
def S26_3 (D : CallD) (m : Nat) (t1 : Int) (t44 : Bool) (h : HP) : Res2 :=
 br t44 (
 some (.ret (.tup [(vW t1), (vI (Int.ofNat 0))]) h, .no)) (
 S26_1 D m h)
def e26_2 (k t1 t40 t41 h) := kN k [(p1, (vW t1)), (p40, (vI t40)), (p41, (vB t41))] h
def S26_2 (D : CallD) (m : Nat) (t1 t40 : Int) (t41 : Bool) (h : HP) : Res2 :=
 br t41 (
 some (.ret (.tup [(vW (Int.ofNat 4294967295)), (vI (Int.ofNat 0))]) h, .no)) (
 let t45 := eqQ t40 (Int.ofNat 16)
 br t45 (
 S26_3 D m t1 t45 h) (
 let t46 := eqQ t40 (Int.ofNat 17)
 S26_3 D m t1 t46 h))
def e26_4 (k t0 t1 t2 h) := kN k [(p0, (vI t0)), (p1, (vW t1)), (p2, (vW t2))] h
def S26_4 (D : CallD) (m : Nat) (t0 t1 t2 : Int) (h : HP) : Res2 :=
 obI .i32 (convV (.ii .i32) (vW t1)) fun t13 =>
 obI .i32 (convV (.ii .i32) (vW t2)) fun t15 =>
 cal D 44 [(vW t1), (vW t2)] h fun t19 h5 =>
 extC t19 0 fun vt20 => asI .u32 vt20 fun t20 =>
 extC t19 1 fun vt21 => asI .u32 vt21 fun t21 =>
 let t24 := eqQ t0 (Int.ofNat 11)
 br t24 (
 some (.ret (.tup [(vW t21), (vI (Int.ofNat 0))]) h5, .no)) (
 let t27 := eqQ t0 (Int.ofNat 12)
 br t27 (
 let t29 := wrapF .i64 t13
 let t31 := wrapF .i64 t15
 let t32 := wrQ .i64 (t29 * t31)
 let t33 := shrF .i64 t32 32
 let t34 := wrapF .u32 t33
 some (.ret (.tup [(vW t34), (vI (Int.ofNat 0))]) h5, .no)) (
 let t36 := eqQ t0 (Int.ofNat 13)
 br t36 (
 some (.ret (.tup [(vW t20), (vI (Int.ofNat 0))]) h5, .no)) (
 binC .eql (vW t2) (vW (Int.ofNat 0)) fun vt39 => asB vt39 fun t39 =>
 br t39 (
 let t42 := eqQ t0 (Int.ofNat 14)
 br t42 (
 S26_2 D m t1 t0 t42 h5) (
 let t43 := eqQ t0 (Int.ofNat 15)
 S26_2 D m t1 t0 t43 h5)) (
 S26_0 D m t0 t1 t2 t13 t15 h5))))
def S26 : SFn := fun D m args h u => nou u <| popI .i64 args fun t0 args => popI .u32 args fun t1 args => popI .u32 args fun t2 args => endA args (S26_4 D m t0 t1 t2 h)
theorem T26_0 (hE : FX x26 D m E) : S26_0 D m = e26_0 (E c26_0 []) := by unfold S26_0; rw [hE c26_0]; kernel_rfl
theorem T26_1 (hE : FX x26 D m E) : S26_1 D m = e26_1 (E c26_1 [.sj v26_0 c26_0]) := by unfold S26_1; rw [hE c26_1]; kernel_rfl
theorem T26_3 (hE : FX x26 D m E) : S26_3 D m = e26_3 (E c26_3 [.blk 1, .sj v26_1 c26_1, .sj v26_0 c26_0]) := by unfold S26_3; rw [T26_1 hE, hE c26_3]; kernel_rfl
theorem T26_2 (hE : FX x26 D m E) : S26_2 D m = e26_2 (E c26_2 [.blk 1, .sj v26_1 c26_1, .sj v26_0 c26_0]) := by unfold S26_2; rw [T26_3 hE, hE c26_2]; kernel_rfl
theorem T26_4 (hE : FX x26 D m E) : S26_4 D m = e26_4 (E c26_e []) := by unfold S26_4; rw [T26_2 hE, T26_0 hE, hE c26_e]; kernel_rfl
theorem X26 : XTie S26 x26 := X_of fun D m E hE args h u => by unfold S26; rw [T26_4 hE]; kernel_rfl
/- 27 -/
def c27_e : XC := (.sO [.mv p2 (.c (.int .u64 (.ofNat 0))) (.i .u64)] (.seq (.seq (.oX [.mv p3 q0 .v, .cl p4 45 [q3] .b]) (.cond q4 (.seq (.oX [.mv p2 (.c (.int .u64 (.ofNat 9221120237041090560))) (.i .u64)]) .ret) .skip)) (.sO [.mv p5 q0 .v, .P p6 (.xt .fbits [q5]) (.i .u64), .mv p2 q6 (.i .u64)] (.s .ret))))
def x27 : XFn := ⟨[.v], false, [(.tmp p2)], c27_e⟩
def e27_0 (k t0 h) := kN k [(p0, t0)] h
def S27_0 (D : CallD) (m : Nat) (t0 : AV) (h : HP) : Res2 :=
 cal D 45 [t0] h fun t4 h1 =>
 asB t4 fun t4a =>
 br t4a (
 some (.ret (AV.int .u64 (Int.ofNat 9221120237041090560)) h1, .no)) (
 obI .u64 (evP (.xt .fbits [(.c t0)]) .leaf) fun t6 =>
 some (.ret (AV.int .u64 t6) h1, .no))
def S27 : SFn := fun D m args h u => nou u <| popV args fun t0 args => endA args (S27_0 D m t0 h)
theorem T27_0 (hE : FX x27 D m E) : S27_0 D m = e27_0 (E c27_e []) := by unfold S27_0; rw [hE c27_e]; kernel_rfl
theorem X27 : XTie S27 x27 := X_of fun D m E hE args h u => by unfold S27; rw [T27_0 hE]; kernel_rfl
/- 28 -/
def c28_e : XC := (.sO [.mv p2 (.c (.flt .f64 0)) .v] (.sO [.mv p3 q0 (.i .u64), .P p4 (.xt .ffrom [q3]) .v, .mv p2 q4 .v] (.s .ret)))
def x28 : XFn := ⟨[(.i .u64)], false, [(.tmp p2)], c28_e⟩
def e28_0 (k t0 h) := kN k [(p0, (AV.int .u64 t0))] h
def S28_0 (D : CallD) (m : Nat) (t0 : Int) (h : HP) : Res2 :=
 obQ (evP (.xt .ffrom [(.c (AV.int .u64 t0))]) .leaf) fun t4 =>
 some (.ret t4 h, .no)
def S28 : SFn := fun D m args h u => nou u <| popI .u64 args fun t0 args => endA args (S28_0 D m t0 h)
theorem T28_0 (hE : FX x28 D m E) : S28_0 D m = e28_0 (E c28_e []) := by unfold S28_0; rw [hE c28_e]; kernel_rfl
theorem X28 : XTie S28 x28 := X_of fun D m E hE args h u => by unfold S28; rw [T28_0 hE]; kernel_rfl
/- 29 -/
def v29_0 : List Pos := [p2, p3, p4]
def c29_0 : XC := (.sO [.L p33 (.cells 1 q2) .v, .ss 1 q2 q33, .st q3 (ci 0), .st q4 (ci 0)] (.s .ret))
def v29_1 : List Pos := [p2, p3, p4, p6]
def c29_1b : XC := (.seq (.seq (.oX [.mv p22 q6 .v, .cl p23 50 [q22] .v, .P p24 (.field 0 1 false q23) tI, .bn p25 .neq q24 (ci 0) .b]) (.cond q25 .skip (.exit 0))) (.block 1 (.s (.ops true (XL.of [.fa p26 0 q2, .ld p27 q26 .v, .mv p28 q6 .v, .o ⟨(some p29), (.call (.fn 51) [q28]), none, [⟨none, .cell q26, p27⟩]⟩ .v, .al p30 (.bsl [(.bool false), (.bool false), (.bool false), (.str []), (kI 0), (kI 0), .nils, (.bool false), .nils, (kI 0), .nils, .nils, (.str []), (kI 0), (kI 0), (kI 0), (kI 0)] 1 [⟨0, 17, q29⟩]), .o ⟨(some p31), (.e (.app 17 200 q27 q30)), none, []⟩ .v, .fa p32 0 q2, .st q32 q31])))))
def c29_e : XC := (.sO [.al p2 (.new [.nils]), .al p3 (.new [(kI 0)]), .al p4 (.new [(kI 0)])] (.sO [.mv p8 q0 .s, .cl p9 48 [q8] .v, .mv p7 q9 .v, .P p10 (.ext q7 0) .v, .P p11 (.ext q7 1) tI, .P p12 (.ext q7 2) tI, .mv p5 q10 .v, .st q3 q11, .st q4 q12] (.seq (.seq (.oX [.ld p13 q4 tI, .bn p14 .neq q13 (ci 0) .b]) (.cond q14 (.seq (.ops true (XL.of [.L p15 (.cells 1 q2) .v, .ld p16 q3 tI, .ld p17 q4 tI, .o ⟨none, (.e (.stores 1 q2 q15)), none, [⟨none, .cell q3, p16⟩, ⟨none, .cell q4, p17⟩]⟩ .v, .o ⟨none, (.e (.store q3 q16)), none, [⟨none, .cell q4, p17⟩]⟩ .v, .st q4 q17])) .ret) .skip)) (.sO [.P p18 (.mkfn 49 [] [q2, q3, q4]) .v, .o ⟨none, (.defer (.val q18) []), none, []⟩ .v] (.sO [.mv p19 q5 .v, .P p20 (.build [.nils, (kI 0), (kI 0)] [⟨0, 1, q19⟩]) .v, .al p21 (.box q20), .mv p6 q21 .v] (.sj v29_0 (.block 0 (.loop v29_1 c29_1b)) c29_0))))))
def x29 : XFn := ⟨[.s], false, [(.cells 1 p2), (.cell p3), (.cell p4)], c29_e⟩
def e29_0 (k : St → Res2) (t2 t3 t4 : AV) (h : HP) (df : List ADef) : Res2 := k ⟨mkT [(p2, t2), (p3, t3), (p4, t4)], h, df, .no⟩
def S29_0 (D : CallD) (m : Nat) (t2 t3 t4 : AV) (h : HP) (df : List ADef) : Res2 :=
 cellsC 1 t2 h fun t33 =>
 stsC 1 t2 t33 h fun h14 =>
 stoC t3 (vI (Int.ofNat 0)) h14 fun h15 =>
 stoC t4 (vI (Int.ofNat 0)) h15 fun h16 =>
 XFn.endOf x29 D (.ret ⟨(mkT [(p2, t2), (p3, t3), (p4, t4)]), h16, df, .no⟩)
def e29_1 (k : St → Res2) (t2 t3 t4 t6 : AV) (h : HP) (df : List ADef) : Res2 := k ⟨mkT [(p2, t2), (p3, t3), (p4, t4), (p6, t6)], h, df, .no⟩
def S29_1b (D : CallD) (m : Nat) (g1 : AV → AV → AV → AV → HP → List ADef → Res2) (t2 t3 t4 t6 : AV) (h : HP) (df : List ADef) : Res2 :=
 calC D 50 [t6] h (fun t23 h17 =>
 fldC 0 1 false t23 fun vt24 => asI .i64 vt24 fun t24 =>
 let t25 := notQ (eqQ t24 (Int.ofNat 0))
 br t25 (
 faC 0 t2 fun t26 =>
 cellC t26 h17 fun t27 =>
 calC D 51 [t6] h17 (fun t29 h18 =>
 br (again [⟨none, .cell q26, p27⟩] (mkT [(p27, t27), (p26, t26)]) h18) (
 obQ (evA (.bsl [(.bool false), (.bool false), (.bool false), (.str []), (kI 0), (kI 0), .nils, (.bool false), .nils, (kI 0), .nils, .nils, (.str []), (kI 0), (kI 0), (kI 0), (kI 0)] 1 [⟨0, 17, (.c t29)⟩]) .leaf) fun r19 =>
 let t30 := vkV r19.2 (HP.nxQ h18)
 let h20 := HP.newQ h18 r19.1
 eff (.app 17 200 (.c t27) (.c t30)) h20 fun t31 h21 =>
 faC 0 t2 fun t32 =>
 stoC t32 t31 h21 fun h22 =>
 g1 t2 t3 t4 t6 h22 df) none) (fun ch18 gh18 => XFn.endOf x29 D (.panic ch18 ⟨(mkT [(p2, t2), (p3, t3), (p4, t4)]), gh18, df, .no⟩))) (
 S29_0 D m t2 t3 t4 h17 df)) (fun ch17 gh17 => XFn.endOf x29 D (.panic ch17 ⟨(mkT [(p2, t2), (p3, t3), (p4, t4)]), gh17, df, .no⟩))
def S29_1 (D : CallD) (m : Nat) : AV → AV → AV → AV → HP → List ADef → Res2 := nrec (fun _ _ _ _ _ _ => none) (fun _ g => S29_1b D m g) m
def e29_2 (k t0 h) := kN k [(p0, (vS t0))] h
def S29_2 (D : CallD) (m : Nat) (t0 : LN) (h : HP) : Res2 :=
 let t2 := AV.ptr (HP.nxQ h) 0
 let h3 := HP.newQ h (.cells true [.nils])
 let t3 := AV.ptr (HP.nxQ h3) 0
 let h4 := HP.newQ h3 (.cells true [(kI 0)])
 let t4 := AV.ptr (HP.nxQ h4) 0
 let h5 := HP.newQ h4 (.cells true [(kI 0)])
 calC D 48 [(vS t0)] h5 (fun t9 h6 =>
 extC t9 0 fun t10 =>
 extC t9 1 fun vt11 => asI .i64 vt11 fun t11 =>
 extC t9 2 fun vt12 => asI .i64 vt12 fun t12 =>
 stoC t3 (vI t11) h6 fun h7 =>
 stoC t4 (vI t12) h7 fun h8 =>
 ldI t4 h8 fun t13 =>
 let t14 := notQ (eqQ t13 (Int.ofNat 0))
 br t14 (
 cellsC 1 t2 h8 fun t15 =>
 ldI t3 h8 fun t16 =>
 ldI t4 h8 fun t17 =>
 stsC 1 t2 t15 h8 fun h9 =>
 br (againE (.stores 1 q2 q15) [⟨none, .cell q3, p16⟩, ⟨none, .cell q4, p17⟩] (mkT [(p2, t2), (p17, (vI t17)), (p4, t4), (p16, (vI t16)), (p3, t3)]) h9) (
 stoC t3 (vI t16) h9 fun h10 =>
 br (againE (.store q3 q16) [⟨none, .cell q4, p17⟩] (mkT [(p3, t3), (p17, (vI t17)), (p4, t4)]) h10) (
 stoC t4 (vI t17) h10 fun h11 =>
 XFn.endOf x29 D (.ret ⟨(mkT [(p2, t2), (p3, t3), (p4, t4)]), h11, [], .no⟩)) none) none) (
 let t18 := (AV.fn 49 [] [t2, t3, t4])
 let d12 : List ADef := ⟨49, [t2, t3, t4]⟩ :: []
 obQ (evP (.build [.nils, (kI 0), (kI 0)] [⟨0, 1, (.c t10)⟩]) .leaf) fun t20 =>
 let t21 := AV.ptr (HP.nxQ h8) 0
 let h13 := HP.newQ h8 (.cells true (AV.cells t20))
 S29_1 D m t2 t3 t4 t21 h13 d12)) (fun ch6 gh6 => XFn.endOf x29 D (.panic ch6 ⟨(mkT [(p2, t2), (p3, t3), (p4, t4)]), gh6, [], .no⟩))
def S29 : SFn := fun D m args h u => nou u <| popS args fun t0 args => endA args (S29_2 D m t0 h)
theorem T29_0 (hE : FX x29 D m E) : S29_0 D m = e29_0 (E c29_0 []) := by unfold S29_0; rw [hE c29_0]; kernel_rfl
theorem T29_1b (hE : FX x29 D m E) (G1) : S29_1b D m (e29_1 G1) = e29_1 (E c29_1b [.lp v29_1 G1, .blk 0, .sj v29_0 c29_0]) := by unfold S29_1b; rw [T29_0 hE, hE c29_1b]; kernel_rfl
theorem T29_1 (hE : FX x29 D m E) : S29_1 D m = e29_1 (nrec (fun _ => none) (fun _ G1 st => E c29_1b [.lp v29_1 G1, .blk 0, .sj v29_0 c29_0] st) m) :=
  nrec_emb e29_1 (fun _ _ _ _ _ _ => none) (fun g => S29_1b D m g) (fun G1 st => E c29_1b [.lp v29_1 G1, .blk 0, .sj v29_0 c29_0] st) rfl (fun g => T29_1b hE g) m
theorem T29_2 (hE : FX x29 D m E) : S29_2 D m = e29_2 (E c29_e []) := by unfold S29_2; rw [T29_1 hE, hE c29_e]; kernel_rfl
theorem X29 : XTie S29 x29 := X_of fun D m E hE args h u => by unfold S29; rw [T29_2 hE]; kernel_rfl
/- 30 -/
def v30_1 : List Pos := [p2, p3, p4]
def c30_1 : XC := (.sO [.L p62 (.cells 1 q2) .v, .ss 1 q2 q62, .st q3 (ci 0), .st q4 (ci 0)] (.s .ret))
def v30_3 : List Pos := [p1, p2, p3, p4, p38, p39, p40]
def c30_3 : XC := (.s (.oX [.bn p61 .add q40 (ci 1) tI, .mv p40 q61 tI]))
def l30_4 : XL := (XL.of [.cl p60 55 [q57, (ci 13), q59] .v])
def v30_2 : List Pos := [p1, p2, p3, p4, p38, p39, p40]
def c30_2b : XC := (.sO [.bn p41 .lss q40 q39 .b] (.seq (.cond q41 .skip (.exit 2)) (.sj v30_3 (.block 3 (.sO [.P p42 (.iaddr (.sl 17) q38 q40) .v, .L p43 (.cells 17 q42) .v, .al p9 (.new [(.bool false), (.bool false), (.bool false), (.str []), (kI 0), (kI 0), .nils, (.bool false), .nils, (kI 0), .nils, .nils, (.str []), (kI 0), (kI 0), (kI 0), (kI 0)]), .ss 17 q9 q43] (.ops true (XL.pre [.fa p44 0 q9, .ld p45 q44 .b, .P p46 (.un .not q45) .b, .mv p47 q46 .b, .ge p47 (XL.of [.G p47 false p48 (.faddr 1 q9) .v, .o ⟨(some p49), (.l (.cell q48)), (some (p47, false)), []⟩ .b, .G p47 false p50 (.un .not q49) .b, .P p51 (.pick q47 (cb true) q50) .b]) p51 .b, .mv p52 q51 .b, .sp p52, .G p52 false p53 (.faddr 0 q1) .v, .o ⟨(some p54), (.l (.cell q53)), (some (p52, false)), []⟩ .v, .G p52 false p55 (.mkfn 57 [] [q9]) .v, .fa p58 16 q9, .ld p59 q58 tI, .o ⟨(some p56), (.call (.fn 56) [q54, q55]), (some (p52, false)), [⟨none, .cell q58, p59⟩]⟩ .b, .P p57 (.pick q52 (cb true) q56) .b, .jn p52 [p1, p2, p3, p4, p38, p39, p40, p57, p59]] l30_4)))) c30_3)))
def v30_0 : List Pos := [p1, p2, p3, p4]
def c30_0 : XC := (.sj v30_1 (.sO [.fa p37 0 q1, .ld p38 q37 .v, .P p39 (.lenl q38) tI, .mv p40 (ci 0) tI] (.block 2 (.loop v30_2 c30_2b))) c30_1)
def v30_5 : List Pos := [p1, p2, p3, p4, p5, p17, p18, p19]
def c30_5b : XC := (.sO [.bn p20 .lss q19 q18 .b] (.seq (.cond q20 .skip (.exit 0)) (.seq (.block 1 (.seq (.oX [.mv p21 q19 tI, .P p22 (.iaddr (.sl 17) q17 q19) .v, .L p23 (.cells 17 q22) .v, .al p7 (.new [(.bool false), (.bool false), (.bool false), (.str []), (kI 0), (kI 0), .nils, (.bool false), .nils, (kI 0), .nils, .nils, (.str []), (kI 0), (kI 0), (kI 0), (kI 0)]), .mv p6 q21 tI, .ss 17 q7 q23]) (.ops true (XL.of [.fa p24 0 q2, .ld p25 q24 .v, .mv p26 q5 .v, .L p27 (.cells 17 q7) .v, .fa p28 0 q1, .ld p29 q28 .v, .mv p30 q6 tI, .P p31 (.slice (.sl 17) q29 none (some q30) none) .v, .o ⟨(some p32), (.call (.fn 54) [q26, q27, q31]), none, [⟨none, .cell q24, p25⟩]⟩ .v, .al p33 (.bsl [(.bool false), (.bool false), (.bool false), (.str []), (kI 0), (kI 0), .nils, (.bool false), .nils, (kI 0), .nils, .nils, (.str []), (kI 0), (kI 0), (kI 0), (kI 0)] 1 [⟨0, 17, q32⟩]), .o ⟨(some p34), (.e (.app 17 200 q25 q33)), none, []⟩ .v, .fa p35 0 q2, .st q35 q34])))) (.s (.oX [.bn p36 .add q19 (ci 1) tI, .mv p19 q36 tI])))))
def c30_e : XC := (.sO [.al p1 (.box q0), .al p2 (.new [.nils]), .al p3 (.new [(kI 0)]), .al p4 (.new [(kI 0)])] (.sO [.P p10 (.mkfn 52 [] [q2, q3, q4]) .v, .o ⟨none, (.defer (.val q10) []), none, []⟩ .v] (.sO [.cl p11 53 [] .v, .al p12 (.mkmap), .al p13 (.bsl [.nilm, .nilm] 2 [⟨0, 1, q11⟩, ⟨1, 1, q12⟩]), .P p14 (.build [.nils, (kI 0), (kI 0), (kI 0)] [⟨0, 1, q13⟩]) .v, .al p15 (.box q14), .mv p5 q15 .v] (.sj v30_0 (.sO [.fa p16 0 q1, .ld p17 q16 .v, .P p18 (.lenl q17) tI, .mv p19 (ci 0) tI] (.block 0 (.loop v30_5 c30_5b))) c30_0))))
def x30 : XFn := ⟨[.v], false, [(.cells 1 p2), (.cell p3), (.cell p4)], c30_e⟩
def e30_1 (k : St → Res2) (t2 t3 t4 : AV) (h : HP) (df : List ADef) : Res2 := k ⟨mkT [(p2, t2), (p3, t3), (p4, t4)], h, df, .no⟩
def S30_1 (D : CallD) (m : Nat) (t2 t3 t4 : AV) (h : HP) (df : List ADef) : Res2 :=
 cellsC 1 t2 h fun t62 =>
 stsC 1 t2 t62 h fun h17 =>
 stoC t3 (vI (Int.ofNat 0)) h17 fun h18 =>
 stoC t4 (vI (Int.ofNat 0)) h18 fun h19 =>
 XFn.endOf x30 D (.ret ⟨(mkT [(p2, t2), (p3, t3), (p4, t4)]), h19, df, .no⟩)
def e30_3 (k : St → Res2) (t1 t2 t3 t4 t38 : AV) (t39 t40 : Int) (h : HP) (df : List ADef) : Res2 := k ⟨mkT [(p1, t1), (p2, t2), (p3, t3), (p4, t4), (p38, t38), (p39, (vI t39)), (p40, (vI t40))], h, df, .no⟩
def S30_3 (D : CallD) (m : Nat) (g2 : AV → AV → AV → AV → AV → Int → Int → HP → List ADef → Res2) (t1 t2 t3 t4 t38 : AV) (t39 t40 : Int) (h : HP) (df : List ADef) : Res2 :=
 let t61 := wrQ .i64 (addQ t40 (Int.ofNat 1))
 g2 t1 t2 t3 t4 t38 t39 t61 h df
def e30_4 (k : St → Res2) (t1 t2 t3 t4 t38 : AV) (t39 t40 : Int) (t57 : Bool) (t59 : Int) (h : HP) (df : List ADef) : Res2 := k ⟨mkT [(p1, t1), (p2, t2), (p3, t3), (p4, t4), (p38, t38), (p39, (vI t39)), (p40, (vI t40)), (p57, (vB t57)), (p59, (vI t59))], h, df, .no⟩
def S30_4 (D : CallD) (m : Nat) (g2 : AV → AV → AV → AV → AV → Int → Int → HP → List ADef → Res2) (t1 t2 t3 t4 t38 : AV) (t39 t40 : Int) (t57 : Bool) (t59 : Int) (h : HP) (df : List ADef) : Res2 :=
 calC D 55 [(vB t57), (vI (Int.ofNat 13)), (vI t59)] h (fun t60 h22 =>
 S30_3 D m g2 t1 t2 t3 t4 t38 t39 t40 h22 df) (fun ch22 gh22 => XFn.endOf x30 D (.panic ch22 ⟨(mkT [(p2, t2), (p3, t3), (p4, t4)]), gh22, df, .no⟩))
def e30_2 (k : St → Res2) (t1 t2 t3 t4 t38 : AV) (t39 t40 : Int) (h : HP) (df : List ADef) : Res2 := k ⟨mkT [(p1, t1), (p2, t2), (p3, t3), (p4, t4), (p38, t38), (p39, (vI t39)), (p40, (vI t40))], h, df, .no⟩
def S30_2b (D : CallD) (m : Nat) (g2 : AV → AV → AV → AV → AV → Int → Int → HP → List ADef → Res2) (t1 t2 t3 t4 t38 : AV) (t39 t40 : Int) (h : HP) (df : List ADef) : Res2 :=
 let t41 := ltQ t40 t39
 br t41 (
 iasC 17 t38 (vI t40) fun t42 =>
 cellsC 17 t42 h fun t43 =>
 let t9 := AV.ptr (HP.nxQ h) 0
 let h20 := HP.newQ h (.cells true [(.bool false), (.bool false), (.bool false), (.str []), (kI 0), (kI 0), .nils, (.bool false), .nils, (kI 0), .nils, .nils, (.str []), (kI 0), (kI 0), (kI 0), (kI 0)])
 stsC 17 t9 t43 h20 fun h21 =>
 let t44 := (AV.ptr (HP.nxQ h) (Nat.add 0 0))
 ldB t44 h21 fun t45 =>
 let t46 := !t45
 obB (brV t46 (
 some (vB true)) (
 let t48 := (AV.ptr (HP.nxQ h) (Nat.add 0 1))
 ldBV t48 h21 fun t49 =>
 let t50 := !t49
 some (vB t50))) fun t51 =>
 br t51 (
 let t58 := (AV.ptr (HP.nxQ h) (Nat.add 0 16))
 ldI t58 h21 fun t59 =>
 S30_4 D m g2 t1 t2 t3 t4 t38 t39 t40 true t59 h21 df) (
 faC 0 t1 fun t53 =>
 cellC t53 h21 fun t54 =>
 let t55 := (AV.fn 57 [] [t9])
 let t58 := (AV.ptr (HP.nxQ h) (Nat.add 0 16))
 ldI t58 h21 fun t59 =>
 calC D 56 [t54, t55] h21 (fun t56 h23 =>
 br (again [⟨none, .cell q58, p59⟩] (mkT [(p59, (vI t59)), (p58, t58)]) h23) (
 asB t56 fun t56a =>
 S30_4 D m g2 t1 t2 t3 t4 t38 t39 t40 t56a t59 h23 df) none) (fun ch23 gh23 => XFn.endOf x30 D (.panic ch23 ⟨(mkT [(p2, t2), (p3, t3), (p4, t4)]), gh23, df, .no⟩)))) (
 S30_1 D m t2 t3 t4 h df)
def S30_2 (D : CallD) (m : Nat) : AV → AV → AV → AV → AV → Int → Int → HP → List ADef → Res2 := nrec (fun _ _ _ _ _ _ _ _ _ => none) (fun _ g => S30_2b D m g) m
def e30_0 (k : St → Res2) (t1 t2 t3 t4 : AV) (h : HP) (df : List ADef) : Res2 := k ⟨mkT [(p1, t1), (p2, t2), (p3, t3), (p4, t4)], h, df, .no⟩
def S30_0 (D : CallD) (m : Nat) (t1 t2 t3 t4 : AV) (h : HP) (df : List ADef) : Res2 :=
 faC 0 t1 fun t37 =>
 cellC t37 h fun t38 =>
 lenC t38 fun vt39 => asI .i64 vt39 fun t39 =>
 S30_2 D m t1 t2 t3 t4 t38 t39 (Int.ofNat 0) h df
def e30_5 (k : St → Res2) (t1 t2 t3 t4 t5 t17 : AV) (t18 t19 : Int) (h : HP) (df : List ADef) : Res2 := k ⟨mkT [(p1, t1), (p2, t2), (p3, t3), (p4, t4), (p5, t5), (p17, t17), (p18, (vI t18)), (p19, (vI t19))], h, df, .no⟩
def S30_5b (D : CallD) (m : Nat) (g5 : AV → AV → AV → AV → AV → AV → Int → Int → HP → List ADef → Res2) (t1 t2 t3 t4 t5 t17 : AV) (t18 t19 : Int) (h : HP) (df : List ADef) : Res2 :=
 let t20 := ltQ t19 t18
 br t20 (
 iasC 17 t17 (vI t19) fun t22 =>
 cellsC 17 t22 h fun t23 =>
 let t7 := AV.ptr (HP.nxQ h) 0
 let h24 := HP.newQ h (.cells true [(.bool false), (.bool false), (.bool false), (.str []), (kI 0), (kI 0), .nils, (.bool false), .nils, (kI 0), .nils, .nils, (.str []), (kI 0), (kI 0), (kI 0), (kI 0)])
 stsC 17 t7 t23 h24 fun h25 =>
 faC 0 t2 fun t24 =>
 cellC t24 h25 fun t25 =>
 cellsC 17 t7 h25 fun t27 =>
 faC 0 t1 fun t28 =>
 cellC t28 h25 fun t29 =>
 obQ (evP (.slice (.sl 17) (.c t29) none (some (.c (vI t19))) none) .leaf) fun t31 =>
 calC D 54 [t5, t27, t31] h25 (fun t32 h26 =>
 br (again [⟨none, .cell q24, p25⟩] (mkT [(p25, t25), (p24, t24)]) h26) (
 obQ (evA (.bsl [(.bool false), (.bool false), (.bool false), (.str []), (kI 0), (kI 0), .nils, (.bool false), .nils, (kI 0), .nils, .nils, (.str []), (kI 0), (kI 0), (kI 0), (kI 0)] 1 [⟨0, 17, (.c t32)⟩]) .leaf) fun r27 =>
 let t33 := vkV r27.2 (HP.nxQ h26)
 let h28 := HP.newQ h26 r27.1
 eff (.app 17 200 (.c t25) (.c t33)) h28 fun t34 h29 =>
 faC 0 t2 fun t35 =>
 stoC t35 t34 h29 fun h30 =>
 let t36 := wrQ .i64 (addQ t19 (Int.ofNat 1))
 g5 t1 t2 t3 t4 t5 t17 t18 t36 h30 df) none) (fun ch26 gh26 => XFn.endOf x30 D (.panic ch26 ⟨(mkT [(p2, t2), (p3, t3), (p4, t4)]), gh26, df, .no⟩))) (
 S30_0 D m t1 t2 t3 t4 h df)
def S30_5 (D : CallD) (m : Nat) : AV → AV → AV → AV → AV → AV → Int → Int → HP → List ADef → Res2 := nrec (fun _ _ _ _ _ _ _ _ _ _ => none) (fun _ g => S30_5b D m g) m
def e30_6 (k t0 h) := kN k [(p0, t0)] h
def S30_6 (D : CallD) (m : Nat) (t0 : AV) (h : HP) : Res2 :=
 let t1 := AV.ptr (HP.nxQ h) 0
 let h7 := HP.newQ h (.cells true (AV.cells t0))
 let t2 := AV.ptr (HP.nxQ h7) 0
 let h8 := HP.newQ h7 (.cells true [.nils])
 let t3 := AV.ptr (HP.nxQ h8) 0
 let h9 := HP.newQ h8 (.cells true [(kI 0)])
 let t4 := AV.ptr (HP.nxQ h9) 0
 let h10 := HP.newQ h9 (.cells true [(kI 0)])
 let t10 := (AV.fn 52 [] [t2, t3, t4])
 let d11 : List ADef := ⟨52, [t2, t3, t4]⟩ :: []
 calC D 53 [] h10 (fun t11 h12 =>
 let t12 := AV.map (HP.nxQ h12)
 let h13 := HP.newQ h12 (.map [] 0)
 obQ (evA (.bsl [.nilm, .nilm] 2 [⟨0, 1, (.c t11)⟩, ⟨1, 1, (.c t12)⟩]) .leaf) fun r14 =>
 let t13 := vkV r14.2 (HP.nxQ h13)
 let h15 := HP.newQ h13 r14.1
 obQ (evP (.build [.nils, (kI 0), (kI 0), (kI 0)] [⟨0, 1, (.c t13)⟩]) .leaf) fun t14 =>
 let t15 := AV.ptr (HP.nxQ h15) 0
 let h16 := HP.newQ h15 (.cells true (AV.cells t14))
 let t16 := (AV.ptr (HP.nxQ h) (Nat.add 0 0))
 cellC t16 h16 fun t17 =>
 lenC t17 fun vt18 => asI .i64 vt18 fun t18 =>
 S30_5 D m t1 t2 t3 t4 t15 t17 t18 (Int.ofNat 0) h16 d11) (fun ch12 gh12 => XFn.endOf x30 D (.panic ch12 ⟨(mkT [(p2, t2), (p3, t3), (p4, t4)]), gh12, d11, .no⟩))
def S30 : SFn := fun D m args h u => nou u <| popV args fun t0 args => endA args (S30_6 D m t0 h)
theorem T30_1 (hE : FX x30 D m E) : S30_1 D m = e30_1 (E c30_1 []) := by unfold S30_1; rw [hE c30_1]; kernel_rfl
theorem T30_3 (hE : FX x30 D m E) (G2) : S30_3 D m (e30_2 G2) = e30_3 (E c30_3 [.lp v30_2 G2, .blk 2, .sj v30_1 c30_1]) := by unfold S30_3; rw [hE c30_3]; kernel_rfl
theorem T30_4 (hE : FX x30 D m E) (G2) : S30_4 D m (e30_2 G2) = e30_4 (E (.ops true l30_4) [.blk 3, .sj v30_3 c30_3, .lp v30_2 G2, .blk 2, .sj v30_1 c30_1]) := by unfold S30_4; rw [T30_3 hE G2, hE (.ops true l30_4)]; kernel_rfl
theorem T30_2b (hE : FX x30 D m E) (G2) : S30_2b D m (e30_2 G2) = e30_2 (E c30_2b [.lp v30_2 G2, .blk 2, .sj v30_1 c30_1]) := by unfold S30_2b; rw [T30_4 hE G2, T30_1 hE, hE c30_2b]; kernel_rfl
theorem T30_2 (hE : FX x30 D m E) : S30_2 D m = e30_2 (nrec (fun _ => none) (fun _ G2 st => E c30_2b [.lp v30_2 G2, .blk 2, .sj v30_1 c30_1] st) m) :=
  nrec_emb e30_2 (fun _ _ _ _ _ _ _ _ _ => none) (fun g => S30_2b D m g) (fun G2 st => E c30_2b [.lp v30_2 G2, .blk 2, .sj v30_1 c30_1] st) rfl (fun g => T30_2b hE g) m
theorem T30_0 (hE : FX x30 D m E) : S30_0 D m = e30_0 (E c30_0 []) := by unfold S30_0; rw [T30_2 hE, hE c30_0]; kernel_rfl
theorem T30_5b (hE : FX x30 D m E) (G5) : S30_5b D m (e30_5 G5) = e30_5 (E c30_5b [.lp v30_5 G5, .blk 0, .sj v30_0 c30_0]) := by unfold S30_5b; rw [T30_0 hE, hE c30_5b]; kernel_rfl
theorem T30_5 (hE : FX x30 D m E) : S30_5 D m = e30_5 (nrec (fun _ => none) (fun _ G5 st => E c30_5b [.lp v30_5 G5, .blk 0, .sj v30_0 c30_0] st) m) :=
  nrec_emb e30_5 (fun _ _ _ _ _ _ _ _ _ _ => none) (fun g => S30_5b D m g) (fun G5 st => E c30_5b [.lp v30_5 G5, .blk 0, .sj v30_0 c30_0] st) rfl (fun g => T30_5b hE g) m
theorem T30_6 (hE : FX x30 D m E) : S30_6 D m = e30_6 (E c30_e []) := by unfold S30_6; rw [T30_5 hE, hE c30_e]; kernel_rfl
theorem X30 : XTie S30 x30 := X_of fun D m E hE args h u => by unfold S30; rw [T30_6 hE]; kernel_rfl
/- 31 -/
def c31_e : XC := (.sO [.mv p2 (ci 0) tI] (.seq (.seq (.oX [.mv p3 q0 tI, .bn p4 .eql q3 (ci 2) .b]) (.cond q4 (.seq (.oX [.mv p2 (ci 8) tI]) .ret) .skip)) (.sO [.mv p2 (ci 4) tI] (.s .ret))))
def x31 : XFn := ⟨[tI], false, [(.tmp p2)], c31_e⟩
def e31_0 (k t0 h) := kN k [(p0, (vI t0))] h
def S31_0 (D : CallD) (m : Nat) (t0 : Int) (h : HP) : Res2 :=
 let t4 := eqQ t0 (Int.ofNat 2)
 br t4 (
 some (.ret (vI (Int.ofNat 8)) h, .no)) (
 some (.ret (vI (Int.ofNat 4)) h, .no))
def S31 : SFn := fun D m args h u => nou u <| popI .i64 args fun t0 args => endA args (S31_0 D m t0 h)
theorem T31_0 (hE : FX x31 D m E) : S31_0 D m = e31_0 (E c31_e []) := by unfold S31_0; rw [hE c31_e]; kernel_rfl
theorem X31 : XTie S31 x31 := X_of fun D m E hE args h u => by unfold S31; rw [T31_0 hE]; kernel_rfl
/- 32 -/
def c32_e : XC := (.sO [.al p2 (.box q0), .al p3 (.box q1), .al p4 (.new [(kI 0), (.int .u32 (.ofNat 0)), (.int .u64 (.ofNat 0)), (.str []), (kI 0)]), .al p5 (.new [(kI 0)]), .al p6 (.new [(kI 0)])] (.sO [.P p7 (.mkfn 58 [] [q4, q5, q6]) .v, .o ⟨none, (.defer (.val q7) []), none, []⟩ .v] (.sO [.L p8 (.cells 1 q2) .v, .L p9 (.cells 8 q3) .v, .cl p10 59 [q8, q9] .v, .ss 5 q4 q10, .st q5 (ci 0), .st q6 (ci 0)] (.s .ret))))
def x32 : XFn := ⟨[.v, .v], false, [(.cells 5 p4), (.cell p5), (.cell p6)], c32_e⟩
def e32_0 (k t0 t1 h) := kN k [(p0, t0), (p1, t1)] h
def S32_0 (D : CallD) (m : Nat) (t0 t1 : AV) (h : HP) : Res2 :=
 let t2 := AV.ptr (HP.nxQ h) 0
 let h1 := HP.newQ h (.cells true (AV.cells t0))
 let t3 := AV.ptr (HP.nxQ h1) 0
 let h2 := HP.newQ h1 (.cells true (AV.cells t1))
 let t4 := AV.ptr (HP.nxQ h2) 0
 let h3 := HP.newQ h2 (.cells true [(kI 0), (.int .u32 (.ofNat 0)), (.int .u64 (.ofNat 0)), (.str []), (kI 0)])
 let t5 := AV.ptr (HP.nxQ h3) 0
 let h4 := HP.newQ h3 (.cells true [(kI 0)])
 let t6 := AV.ptr (HP.nxQ h4) 0
 let h5 := HP.newQ h4 (.cells true [(kI 0)])
 let t7 := (AV.fn 58 [] [t4, t5, t6])
 let d6 : List ADef := ⟨58, [t4, t5, t6]⟩ :: []
 cellsC 1 t2 h5 fun t8 =>
 cellsC 8 t3 h5 fun t9 =>
 calC D 59 [t8, t9] h5 (fun t10 h7 =>
 stsC 5 t4 t10 h7 fun h8 =>
 stoC t5 (vI (Int.ofNat 0)) h8 fun h9 =>
 stoC t6 (vI (Int.ofNat 0)) h9 fun h10 =>
 XFn.endOf x32 D (.ret ⟨(mkT [(p4, t4), (p5, t5), (p6, t6)]), h10, d6, .no⟩)) (fun ch7 gh7 => XFn.endOf x32 D (.panic ch7 ⟨(mkT [(p4, t4), (p5, t5), (p6, t6)]), gh7, d6, .no⟩))
def S32 : SFn := fun D m args h u => nou u <| popV args fun t0 args => popV args fun t1 args => endA args (S32_0 D m t0 t1 h)
theorem T32_0 (hE : FX x32 D m E) : S32_0 D m = e32_0 (E c32_e []) := by unfold S32_0; rw [hE c32_e]; kernel_rfl
theorem X32 : XTie S32 x32 := X_of fun D m E hE args h u => by unfold S32; rw [T32_0 hE]; kernel_rfl
/- 33 -/
def c33_e : XC := (.sO [.mv p2 (ci 0) tI] (.sO [.al p3 (.mkmap), .o ⟨none, (.e (.mset .str q3 (.c (.str [43])) (ci 1))), none, []⟩ .v, .o ⟨none, (.e (.mset .str q3 (.c (.str [45])) (ci 2))), none, []⟩ .v, .o ⟨none, (.e (.mset .str q3 (.c (.str [42])) (ci 11))), none, []⟩ .v, .o ⟨none, (.e (.mset .str q3 (.c (.str [47])) (ci 14))), none, []⟩ .v, .o ⟨none, (.e (.mset .str q3 (.c (.str [37])) (ci 16))), none, []⟩ .v, .o ⟨none, (.e (.mset .str q3 (.c (.str [60, 60])) (ci 3))), none, []⟩ .v, .o ⟨none, (.e (.mset .str q3 (.c (.str [62, 62])) (ci 8))), none, []⟩ .v, .o ⟨none, (.e (.mset .str q3 (.c (.str [38])) (ci 10))), none, []⟩ .v, .o ⟨none, (.e (.mset .str q3 (.c (.str [94])) (ci 6))), none, []⟩ .v, .o ⟨none, (.e (.mset .str q3 (.c (.str [124])) (ci 9))), none, []⟩ .v, .mv p4 q3 .v, .mv p5 q0 .s, .L p6 (.look .str (kI 0) false q4 q5) tI, .mv p2 q6 tI] (.s .ret)))
def x33 : XFn := ⟨[.s], false, [(.tmp p2)], c33_e⟩
def e33_0 (k t0 h) := kN k [(p0, (vS t0))] h
def S33_0 (D : CallD) (m : Nat) (t0 : LN) (h : HP) : Res2 :=
 let t3 := AV.map (HP.nxQ h)
 let h1 := HP.newQ h (.map [] 0)
 eff (.mset .str (.c t3) (.c (vS ([43] : LN))) (.c (vI (Int.ofNat 1)))) h1 fun t0a h2 =>
 eff (.mset .str (.c t3) (.c (vS ([45] : LN))) (.c (vI (Int.ofNat 2)))) h2 fun t0aa h3 =>
 eff (.mset .str (.c t3) (.c (vS ([42] : LN))) (.c (vI (Int.ofNat 11)))) h3 fun t0aaa h4 =>
 eff (.mset .str (.c t3) (.c (vS ([47] : LN))) (.c (vI (Int.ofNat 14)))) h4 fun t0aaaa h5 =>
 eff (.mset .str (.c t3) (.c (vS ([37] : LN))) (.c (vI (Int.ofNat 16)))) h5 fun t0aaaaa h6 =>
 eff (.mset .str (.c t3) (.c (vS ([60, 60] : LN))) (.c (vI (Int.ofNat 3)))) h6 fun t0aaaaaa h7 =>
 eff (.mset .str (.c t3) (.c (vS ([62, 62] : LN))) (.c (vI (Int.ofNat 8)))) h7 fun t0aaaaaaa h8 =>
 eff (.mset .str (.c t3) (.c (vS ([38] : LN))) (.c (vI (Int.ofNat 10)))) h8 fun t0aaaaaaaa h9 =>
 eff (.mset .str (.c t3) (.c (vS ([94] : LN))) (.c (vI (Int.ofNat 6)))) h9 fun t0aaaaaaaaa h10 =>
 eff (.mset .str (.c t3) (.c (vS ([124] : LN))) (.c (vI (Int.ofNat 9)))) h10 fun t0aaaaaaaaaa h11 =>
 obI .i64 (evL (.look .str (kI 0) false (.c t3) (.c (vS t0))) .leaf h11) fun t6 =>
 some (.ret (vI t6) h11, .no)
def S33 : SFn := fun D m args h u => nou u <| popS args fun t0 args => endA args (S33_0 D m t0 h)
theorem T33_0 (hE : FX x33 D m E) : S33_0 D m = e33_0 (E c33_e []) := by unfold S33_0; rw [hE c33_e]; kernel_rfl
theorem X33 : XTie S33 x33 := X_of fun D m E hE args h u => by unfold S33; rw [T33_0 hE]; kernel_rfl
/- 34 -/
def c34_e : XC := (.sO [.mv p2 (ci 0) tI] (.sO [.mv p3 q0 tW, .P p4 (.conv (.ii .i32) q3) (.i .i32), .P p5 (.conv (.ii .i64) q4) tI, .mv p2 q5 tI] (.s .ret)))
def x34 : XFn := ⟨[tW], false, [(.tmp p2)], c34_e⟩
def e34_0 (k t0 h) := kN k [(p0, (vW t0))] h
def S34_0 (D : CallD) (m : Nat) (t0 : Int) (h : HP) : Res2 :=
 obI .i32 (convV (.ii .i32) (vW t0)) fun t4 =>
 let t5 := wrapF .i64 t4
 some (.ret (vI t5) h, .no)
def S34 : SFn := fun D m args h u => nou u <| popI .u32 args fun t0 args => endA args (S34_0 D m t0 h)
theorem T34_0 (hE : FX x34 D m E) : S34_0 D m = e34_0 (E c34_e []) := by unfold S34_0; rw [hE c34_e]; kernel_rfl
theorem X34 : XTie S34 x34 := X_of fun D m E hE args h u => by unfold S34; rw [T34_0 hE]; kernel_rfl
/- 35 -/
def c35_e : XC := (.sO [.mv p6 (.c (.int .u64 (.ofNat 0))) (.i .u64), .mv p7 (ci 0) tI] (.sO [.mv p10 q1 (.i .u64), .cl p11 28 [q10] .v, .mv p12 q2 (.i .u64), .cl p13 28 [q12] .v, .mv p8 q11 .v, .mv p9 q13 .v] (.seq (.seq (.oX [.mv p14 q0 tI]) (.block 0 (.seq (.oX [.bn p16 .eql q14 (ci 45) .b, .mv p15 q16 .b]) (.cond q15 (.seq (.oX [.mv p17 q8 .v, .mv p18 q9 .v, .bn p19 .add q17 q18 .v, .cl p20 27 [q19] (.i .u64), .mv p6 q20 (.i .u64), .mv p7 (ci 0) tI]) .ret) (.seq (.oX [.bn p22 .eql q14 (ci 46) .b, .mv p21 q22 .b]) (.cond q21 (.seq (.oX [.mv p23 q8 .v, .mv p24 q9 .v, .bn p25 .sub q23 q24 .v, .cl p26 27 [q25] (.i .u64), .mv p6 q26 (.i .u64), .mv p7 (ci 0) tI]) .ret) (.seq (.oX [.bn p28 .eql q14 (ci 47) .b, .mv p27 q28 .b]) (.cond q27 (.seq (.oX [.mv p29 q8 .v, .mv p30 q9 .v, .bn p31 .mul q29 q30 .v, .cl p32 27 [q31] (.i .u64), .mv p6 q32 (.i .u64), .mv p7 (ci 0) tI]) .ret) (.seq (.oX [.bn p34 .eql q14 (ci 48) .b, .mv p33 q34 .b]) (.cond q33 (.seq (.oX [.mv p35 q8 .v, .mv p36 q9 .v, .bn p37 .quo q35 q36 .v, .cl p38 27 [q37] (.i .u64), .mv p6 q38 (.i .u64), .mv p7 (ci 0) tI]) .ret) .skip)))))))))) (.sO [.mv p6 (.c (.int .u64 (.ofNat 0))) (.i .u64), .mv p7 (ci 1) tI] (.s .ret)))))
def x35 : XFn := ⟨[tI, (.i .u64), (.i .u64)], false, [(.tmp p6), (.tmp p7)], c35_e⟩
def e35_0 (k t0 t1 t2 h) := kN k [(p0, (vI t0)), (p1, (AV.int .u64 t1)), (p2, (AV.int .u64 t2))] h
def S35_0 (D : CallD) (m : Nat) (t0 t1 t2 : Int) (h : HP) : Res2 :=
 cal D 28 [(AV.int .u64 t1)] h fun t11 h1 =>
 cal D 28 [(AV.int .u64 t2)] h1 fun t13 h2 =>
 let t16 := eqQ t0 (Int.ofNat 45)
 br t16 (
 binC .add t11 t13 fun t19 =>
 cal D 27 [t19] h2 fun t20 h3 =>
 asI .u64 t20 fun t20a =>
 some (.ret (.tup [(AV.int .u64 t20a), (vI (Int.ofNat 0))]) h3, .no)) (
 let t22 := eqQ t0 (Int.ofNat 46)
 br t22 (
 binC .sub t11 t13 fun t25 =>
 cal D 27 [t25] h2 fun t26 h4 =>
 asI .u64 t26 fun t26a =>
 some (.ret (.tup [(AV.int .u64 t26a), (vI (Int.ofNat 0))]) h4, .no)) (
 let t28 := eqQ t0 (Int.ofNat 47)
 br t28 (
 binC .mul t11 t13 fun t31 =>
 cal D 27 [t31] h2 fun t32 h5 =>
 asI .u64 t32 fun t32a =>
 some (.ret (.tup [(AV.int .u64 t32a), (vI (Int.ofNat 0))]) h5, .no)) (
 let t34 := eqQ t0 (Int.ofNat 48)
 br t34 (
 binC .quo t11 t13 fun t37 =>
 cal D 27 [t37] h2 fun t38 h6 =>
 asI .u64 t38 fun t38a =>
 some (.ret (.tup [(AV.int .u64 t38a), (vI (Int.ofNat 0))]) h6, .no)) (
 some (.ret (.tup [(AV.int .u64 (Int.ofNat 0)), (vI (Int.ofNat 1))]) h2, .no)))))
def S35 : SFn := fun D m args h u => nou u <| popI .i64 args fun t0 args => popI .u64 args fun t1 args => popI .u64 args fun t2 args => endA args (S35_0 D m t0 t1 t2 h)
theorem T35_0 (hE : FX x35 D m E) : S35_0 D m = e35_0 (E c35_e []) := by unfold S35_0; rw [hE c35_e]; kernel_rfl
theorem X35 : XTie S35 x35 := X_of fun D m E hE args h u => by unfold S35; rw [T35_0 hE]; kernel_rfl
/- 36 -/
def v36_0 : List Pos := [p10]
def c36_0 : XC := (.seq (.seq (.oX [.mv p31 q10 .b]) (.cond q31 (.seq (.oX [.mv p6 (.c (.int .u32 (.ofNat 1))) tW, .mv p7 (ci 0) tI]) .ret) .skip)) (.sO [.mv p6 (.c (.int .u32 (.ofNat 0))) tW, .mv p7 (ci 0) tI] (.s .ret)))
def c36_e : XC := (.sO [.mv p6 (.c (.int .u32 (.ofNat 0))) tW, .mv p7 (ci 0) tI] (.sO [.mv p11 q1 (.i .u64), .cl p12 28 [q11] .v, .mv p13 q2 (.i .u64), .cl p14 28 [q13] .v, .mv p8 q12 .v, .mv p9 q14 .v] (.sO [.mv p10 (cb false) .b] (.sj v36_0 (.sO [.mv p15 q0 tI] (.block 0 (.sO [.bn p17 .eql q15 (ci 51) .b, .mv p16 q17 .b] (.cond q16 (.s (.oX [.mv p18 q8 .v, .mv p19 q9 .v, .bn p20 .eql q18 q19 .b, .mv p10 q20 .b])) (.sO [.bn p22 .eql q15 (ci 52) .b, .mv p21 q22 .b] (.cond q21 (.s (.oX [.mv p23 q8 .v, .mv p24 q9 .v, .bn p25 .lss q23 q24 .b, .mv p10 q25 .b])) (.sO [.bn p27 .eql q15 (ci 53) .b, .mv p26 q27 .b] (.cond q26 (.s (.oX [.mv p28 q8 .v, .mv p29 q9 .v, .bn p30 .leq q28 q29 .b, .mv p10 q30 .b])) (.sO [.mv p6 (.c (.int .u32 (.ofNat 0))) tW, .mv p7 (ci 1) tI] (.s .ret)))))))))) c36_0))))
def x36 : XFn := ⟨[tI, (.i .u64), (.i .u64)], false, [(.tmp p6), (.tmp p7)], c36_e⟩
def e36_0 (k t10 h) := kN k [(p10, (vB t10))] h
def S36_0 (D : CallD) (m : Nat) (t10 : Bool) (h : HP) : Res2 :=
 br t10 (
 some (.ret (.tup [(vW (Int.ofNat 1)), (vI (Int.ofNat 0))]) h, .no)) (
 some (.ret (.tup [(vW (Int.ofNat 0)), (vI (Int.ofNat 0))]) h, .no))
def e36_1 (k t0 t1 t2 h) := kN k [(p0, (vI t0)), (p1, (AV.int .u64 t1)), (p2, (AV.int .u64 t2))] h
def S36_1 (D : CallD) (m : Nat) (t0 t1 t2 : Int) (h : HP) : Res2 :=
 cal D 28 [(AV.int .u64 t1)] h fun t12 h2 =>
 cal D 28 [(AV.int .u64 t2)] h2 fun t14 h3 =>
 let t17 := eqQ t0 (Int.ofNat 51)
 br t17 (
 binC .eql t12 t14 fun vt20 => asB vt20 fun t20 =>
 S36_0 D m t20 h3) (
 let t22 := eqQ t0 (Int.ofNat 52)
 br t22 (
 binC .lss t12 t14 fun vt25 => asB vt25 fun t25 =>
 S36_0 D m t25 h3) (
 let t27 := eqQ t0 (Int.ofNat 53)
 br t27 (
 binC .leq t12 t14 fun vt30 => asB vt30 fun t30 =>
 S36_0 D m t30 h3) (
 some (.ret (.tup [(vW (Int.ofNat 0)), (vI (Int.ofNat 1))]) h3, .no))))
def S36 : SFn := fun D m args h u => nou u <| popI .i64 args fun t0 args => popI .u64 args fun t1 args => popI .u64 args fun t2 args => endA args (S36_1 D m t0 t1 t2 h)
theorem T36_0 (hE : FX x36 D m E) : S36_0 D m = e36_0 (E c36_0 []) := by unfold S36_0; rw [hE c36_0]; kernel_rfl
theorem T36_1 (hE : FX x36 D m E) : S36_1 D m = e36_1 (E c36_e []) := by unfold S36_1; rw [T36_0 hE, hE c36_e]; kernel_rfl
theorem X36 : XTie S36 x36 := X_of fun D m E hE args h u => by unfold S36; rw [T36_1 hE]; kernel_rfl
/- 40 -/
def c40_e : XC := (.sO [.mv p4 (.c (.flt .f64 0)) .v] (.sO [.mv p5 q0 .v, .P p6 (.xt .fbits [q5]) (.i .u64), .bn p7 .andNot q6 (.c (.int .u64 (.ofNat 9223372036854775808))) (.i .u64), .mv p8 q1 .v, .P p9 (.xt .fbits [q8]) (.i .u64), .bn p10 .and q9 (.c (.int .u64 (.ofNat 9223372036854775808))) (.i .u64), .bn p11 .or q7 q10 (.i .u64), .P p12 (.xt .ffrom [q11]) .v, .mv p4 q12 .v] (.s .ret)))
def x40 : XFn := ⟨[.v, .v], false, [(.tmp p4)], c40_e⟩
def e40_0 (k t0 t1 h) := kN k [(p0, t0), (p1, t1)] h
def S40_0 (D : CallD) (m : Nat) (t0 t1 : AV) (h : HP) : Res2 :=
 obI .u64 (evP (.xt .fbits [(.c t0)]) .leaf) fun t6 =>
 let t7 := IntKind.wrap .u64 (BitVec.ofInt (IntKind.bits .u64) t6 &&& ~~~ BitVec.ofInt (IntKind.bits .u64) (Int.ofNat 9223372036854775808)).toNat
 obI .u64 (evP (.xt .fbits [(.c t1)]) .leaf) fun t9 =>
 obI .u64 (intBin .and .u64 t9 (Int.ofNat 9223372036854775808)) fun t10 =>
 obI .u64 (intBin .or .u64 t7 t10) fun t11 =>
 obQ (evP (.xt .ffrom [(.c (AV.int .u64 t11))]) .leaf) fun t12 =>
 some (.ret t12 h, .no)
def S40 : SFn := fun D m args h u => nou u <| popV args fun t0 args => popV args fun t1 args => endA args (S40_0 D m t0 t1 h)
theorem T40_0 (hE : FX x40 D m E) : S40_0 D m = e40_0 (E c40_e []) := by unfold S40_0; rw [hE c40_e]; kernel_rfl
theorem X40 : XTie S40 x40 := X_of fun D m E hE args h u => by unfold S40; rw [T40_0 hE]; kernel_rfl
/- 44 -/
def c44_e : XC := (.sO [.mv p4 (.c (.int .u32 (.ofNat 0))) tW, .mv p5 (.c (.int .u32 (.ofNat 0))) tW] (.sO [.mv p7 q0 tW, .P p8 (.conv (.ii .u64) q7) (.i .u64), .mv p9 q1 tW, .P p10 (.conv (.ii .u64) q9) (.i .u64), .bn p11 .mul q8 q10 (.i .u64), .mv p6 q11 (.i .u64)] (.sO [.mv p12 q6 (.i .u64), .bn p13 .shr q12 (.c (.int .u64 (.ofNat 32))) (.i .u64), .P p14 (.conv (.ii .u32) q13) tW, .mv p15 q6 (.i .u64), .P p16 (.conv (.ii .u32) q15) tW, .mv p4 q14 tW, .mv p5 q16 tW] (.s .ret))))
def x44 : XFn := ⟨[tW, tW], false, [(.tmp p4), (.tmp p5)], c44_e⟩
def e44_0 (k t0 t1 h) := kN k [(p0, (vW t0)), (p1, (vW t1))] h
def S44_0 (D : CallD) (m : Nat) (t0 t1 : Int) (h : HP) : Res2 :=
 obI .u64 (convV (.ii .u64) (vW t0)) fun t8 =>
 obI .u64 (convV (.ii .u64) (vW t1)) fun t10 =>
 let t11 := wrQ .u64 (t8 * t10)
 let t13 := shrF .u64 t11 32
 let t14 := wrapF .u32 t13
 let t16 := wrapF .u32 t11
 some (.ret (.tup [(vW t14), (vW t16)]) h, .no)
def S44 : SFn := fun D m args h u => nou u <| popI .u32 args fun t0 args => popI .u32 args fun t1 args => endA args (S44_0 D m t0 t1 h)
theorem T44_0 (hE : FX x44 D m E) : S44_0 D m = e44_0 (E c44_e []) := by unfold S44_0; rw [hE c44_e]; kernel_rfl
theorem X44 : XTie S44 x44 := X_of fun D m E hE args h u => by unfold S44; rw [T44_0 hE]; kernel_rfl
/- 45 -/
def c45_e : XC := (.sO [.mv p2 (cb false) .b] (.sO [.mv p3 q0 .v, .mv p4 q0 .v, .bn p5 .neq q3 q4 .b, .mv p2 q5 .b] (.s .ret)))
def x45 : XFn := ⟨[.v], false, [(.tmp p2)], c45_e⟩
def e45_0 (k t0 h) := kN k [(p0, t0)] h
def S45_0 (D : CallD) (m : Nat) (t0 : AV) (h : HP) : Res2 :=
 binC .neq t0 t0 fun vt5 => asB vt5 fun t5 =>
 some (.ret (vB t5) h, .no)
def S45 : SFn := fun D m args h u => nou u <| popV args fun t0 args => endA args (S45_0 D m t0 h)
theorem T45_0 (hE : FX x45 D m E) : S45_0 D m = e45_0 (E c45_e []) := by unfold S45_0; rw [hE c45_e]; kernel_rfl
theorem X45 : XTie S45 x45 := X_of fun D m E hE args h u => by unfold S45; rw [T45_0 hE]; kernel_rfl
/- 48 -/
def v48_0 : List Pos := [p0, p2, p3, p4]
def c48_0 : XC := (.sO [.ld p35 q2 .v, .mv p36 q0 .s, .P p37 (.lens q36) tI, .P p38 (.build [(kI 0), (.str []), (kI 0)] [⟨2, 1, q37⟩]) .v, .al p39 (.bsl [(kI 0), (.str []), (kI 0)] 1 [⟨0, 3, q38⟩]), .o ⟨(some p40), (.e (.app 3 32 q35 q39)), none, []⟩ .v, .st q2 q40, .st q3 (ci 0), .st q4 (ci 0)] (.s .ret))
def v48_1 : List Pos := [p0, p2, p3, p4]
def c48_1b : XC := (.seq (.seq (.oX [.ld p12 q3 tI, .mv p13 q0 .s, .P p14 (.lens q13) tI, .bn p15 .lss q12 q14 .b]) (.cond q15 .skip (.exit 0))) (.seq (.block 1 (.seq (.oX [.mv p19 q0 .s, .ld p20 q3 tI, .cl p21 70 [q19, q20] .v, .al p5 (.new [(kI 0), (.str []), (kI 0)]), .ss 3 q5 q21]) (.seq (.seq (.oX [.ld p22 q2 .v, .P p23 (.lenl q22) tI, .bn p24 .eql q23 (ci 2500) .b]) (.cond q24 (.seq (.ops true (XL.of [.ld p25 q3 tI, .o ⟨none, (.e (.store q2 (.c .nils))), none, [⟨none, .cell q3, p25⟩]⟩ .v, .st q3 q25, .st q4 (ci 5)])) .ret) .skip)) (.seq (.oX [.ld p26 q2 .v, .L p27 (.cells 3 q5) .v, .al p28 (.bsl [(kI 0), (.str []), (kI 0)] 1 [⟨0, 3, q27⟩]), .o ⟨(some p29), (.e (.app 3 32 q26 q28)), none, []⟩ .v, .st q2 q29]) (.oX [.ld p30 q3 tI, .fa p31 1 q5, .ld p32 q31 .s, .P p33 (.lens q32) tI, .bn p34 .add q30 q33 tI, .st q3 q34]))))) (.s (.oX [.mv p16 q0 .s, .ld p17 q3 tI, .cl p18 69 [q16, q17] tI, .st q3 q18]))))
def c48_e : XC := (.sO [.al p2 (.new [.nils]), .al p3 (.new [(kI 0)]), .al p4 (.new [(kI 0)])] (.seq (.seq (.oX [.mv p6 q0 .s, .P p7 (.lens q6) tI, .bn p8 .gtr q7 (ci 8192) .b]) (.cond q8 (.seq (.oX [.st q2 (.c .nils), .st q3 (ci 0), .st q4 (ci 6)]) .ret) .skip)) (.sO [.P p9 (.mkfn 68 [] [q2, q3, q4]) .v, .o ⟨none, (.defer (.val q9) []), none, []⟩ .v] (.sj v48_0 (.sO [.mv p10 q0 .s, .cl p11 69 [q10, (ci 0)] tI, .st q3 q11] (.block 0 (.loop v48_1 c48_1b))) c48_0))))
def x48 : XFn := ⟨[.s], false, [(.cell p2), (.cell p3), (.cell p4)], c48_e⟩
def e48_0 (k : St → Res2) (t0 : LN) (t2 t3 t4 : AV) (h : HP) (df : List ADef) : Res2 := k ⟨mkT [(p0, (vS t0)), (p2, t2), (p3, t3), (p4, t4)], h, df, .no⟩
def S48_0 (D : CallD) (m : Nat) (t0 : LN) (t2 t3 t4 : AV) (h : HP) (df : List ADef) : Res2 :=
 cellC t2 h fun t35 =>
 let t37 := Int.ofNat (lenL t0)
 let t38 := (AV.agg [(vI (Int.ofNat 0)), (vS ([] : LN)), (vI t37)])
 let t39 := AV.slice (HP.nxQ h) 0 1 (.exact 1)
 let h10 := HP.newQ h (.cells true [(vI (Int.ofNat 0)), (vS ([] : LN)), (vI t37)])
 eff (.app 3 32 (.c t35) (.c t39)) h10 fun t40 h11 =>
 stoC t2 t40 h11 fun h12 =>
 stoC t3 (vI (Int.ofNat 0)) h12 fun h13 =>
 stoC t4 (vI (Int.ofNat 0)) h13 fun h14 =>
 XFn.endOf x48 D (.ret ⟨(mkT [(p2, t2), (p3, t3), (p4, t4)]), h14, df, .no⟩)
def e48_1 (k : St → Res2) (t0 : LN) (t2 t3 t4 : AV) (h : HP) (df : List ADef) : Res2 := k ⟨mkT [(p0, (vS t0)), (p2, t2), (p3, t3), (p4, t4)], h, df, .no⟩
def S48_1b (D : CallD) (m : Nat) (g1 : LN → AV → AV → AV → HP → List ADef → Res2) (t0 : LN) (t2 t3 t4 : AV) (h : HP) (df : List ADef) : Res2 :=
 ldI t3 h fun t12 =>
 let t14 := Int.ofNat (lenL t0)
 let t15 := ltQ t12 t14
 br t15 (
 ldI t3 h fun t20 =>
 calC D 70 [(vS t0), (vI t20)] h (fun t21 h17 =>
 let t5 := AV.ptr (HP.nxQ h17) 0
 let h18 := HP.newQ h17 (.cells true [(kI 0), (.str []), (kI 0)])
 stsC 3 t5 t21 h18 fun h19 =>
 cellC t2 h19 fun t22 =>
 lenC t22 fun vt23 => asI .i64 vt23 fun t23 =>
 let t24 := eqQ t23 (Int.ofNat 2500)
 br t24 (
 ldI t3 h19 fun t25 =>
 stoC t2 (.nils : AV) h19 fun h20 =>
 br (againE (.store q2 (.c .nils)) [⟨none, .cell q3, p25⟩] (mkT [(p2, t2), (p25, (vI t25)), (p3, t3)]) h20) (
 stoC t3 (vI t25) h20 fun h21 =>
 stoC t4 (vI (Int.ofNat 5)) h21 fun h22 =>
 XFn.endOf x48 D (.ret ⟨(mkT [(p2, t2), (p3, t3), (p4, t4)]), h22, df, .no⟩)) none) (
 cellC t2 h19 fun t26 =>
 cellsC 3 t5 h19 fun t27 =>
 obQ (evA (.bsl [(kI 0), (.str []), (kI 0)] 1 [⟨0, 3, (.c t27)⟩]) .leaf) fun r23 =>
 let t28 := vkV r23.2 (HP.nxQ h19)
 let h24 := HP.newQ h19 r23.1
 eff (.app 3 32 (.c t26) (.c t28)) h24 fun t29 h25 =>
 stoC t2 t29 h25 fun h26 =>
 ldI t3 h26 fun t30 =>
 let t31 := (AV.ptr (HP.nxQ h17) (Nat.add 0 1))
 ldS t31 h26 fun t32 =>
 let t33 := Int.ofNat (lenL t32)
 let t34 := wrQ .i64 (addQ t30 t33)
 stoC t3 (vI t34) h26 fun h27 =>
 ldI t3 h27 fun t17 =>
 calC D 69 [(vS t0), (vI t17)] h27 (fun t18 h28 =>
 asI .i64 t18 fun t18a =>
 stoC t3 (vI t18a) h28 fun h29 =>
 g1 t0 t2 t3 t4 h29 df) (fun ch28 gh28 => XFn.endOf x48 D (.panic ch28 ⟨(mkT [(p2, t2), (p3, t3), (p4, t4)]), gh28, df, .no⟩)))) (fun ch17 gh17 => XFn.endOf x48 D (.panic ch17 ⟨(mkT [(p2, t2), (p3, t3), (p4, t4)]), gh17, df, .no⟩))) (
 S48_0 D m t0 t2 t3 t4 h df)
def S48_1 (D : CallD) (m : Nat) : LN → AV → AV → AV → HP → List ADef → Res2 := nrec (fun _ _ _ _ _ _ => none) (fun _ g => S48_1b D m g) m
def e48_2 (k t0 h) := kN k [(p0, (vS t0))] h
def S48_2 (D : CallD) (m : Nat) (t0 : LN) (h : HP) : Res2 :=
 let t2 := AV.ptr (HP.nxQ h) 0
 let h3 := HP.newQ h (.cells true [.nils])
 let t3 := AV.ptr (HP.nxQ h3) 0
 let h4 := HP.newQ h3 (.cells true [(kI 0)])
 let t4 := AV.ptr (HP.nxQ h4) 0
 let h5 := HP.newQ h4 (.cells true [(kI 0)])
 let t7 := Int.ofNat (lenL t0)
 let t8 := ltQ (Int.ofNat 8192) t7
 br t8 (
 stoC t2 (.nils : AV) h5 fun h6 =>
 stoC t3 (vI (Int.ofNat 0)) h6 fun h7 =>
 stoC t4 (vI (Int.ofNat 6)) h7 fun h8 =>
 XFn.endOf x48 D (.ret ⟨(mkT [(p2, t2), (p3, t3), (p4, t4)]), h8, [], .no⟩)) (
 let t9 := (AV.fn 68 [] [t2, t3, t4])
 let d9 : List ADef := ⟨68, [t2, t3, t4]⟩ :: []
 calC D 69 [(vS t0), (vI (Int.ofNat 0))] h5 (fun t11 h15 =>
 asI .i64 t11 fun t11a =>
 stoC t3 (vI t11a) h15 fun h16 =>
 S48_1 D m t0 t2 t3 t4 h16 d9) (fun ch15 gh15 => XFn.endOf x48 D (.panic ch15 ⟨(mkT [(p2, t2), (p3, t3), (p4, t4)]), gh15, d9, .no⟩)))
def S48 : SFn := fun D m args h u => nou u <| popS args fun t0 args => endA args (S48_2 D m t0 h)
theorem T48_0 (hE : FX x48 D m E) : S48_0 D m = e48_0 (E c48_0 []) := by unfold S48_0; rw [hE c48_0]; kernel_rfl
theorem T48_1b (hE : FX x48 D m E) (G1) : S48_1b D m (e48_1 G1) = e48_1 (E c48_1b [.lp v48_1 G1, .blk 0, .sj v48_0 c48_0]) := by unfold S48_1b; rw [T48_0 hE, hE c48_1b]; kernel_rfl
theorem T48_1 (hE : FX x48 D m E) : S48_1 D m = e48_1 (nrec (fun _ => none) (fun _ G1 st => E c48_1b [.lp v48_1 G1, .blk 0, .sj v48_0 c48_0] st) m) :=
  nrec_emb e48_1 (fun _ _ _ _ _ _ => none) (fun g => S48_1b D m g) (fun G1 st => E c48_1b [.lp v48_1 G1, .blk 0, .sj v48_0 c48_0] st) rfl (fun g => T48_1b hE g) m
theorem T48_2 (hE : FX x48 D m E) : S48_2 D m = e48_2 (E c48_e []) := by unfold S48_2; rw [T48_1 hE, hE c48_e]; kernel_rfl
theorem X48 : XTie S48 x48 := X_of fun D m E hE args h u => by unfold S48; rw [T48_2 hE]; kernel_rfl
/- 49 -/
def c49_e : XC := (.sO [.o ⟨(some p6), .recover, none, []⟩ .v, .P p7 (.tassert 103 (.agg [(kI 0), (kI 0)]) true q6) .v, .mv p5 q7 .v, .P p8 (.ext q5 0) .v, .P p9 (.ext q5 1) .b, .al p3 (.new [(kI 0), (kI 0)]), .ss 2 q3 q8, .mv p4 q9 .b] (.sO [.mv p10 q4 .b] (.cond q10 (.s (.ops true (XL.of [.P p11 (.build [.nils] []) .v, .fa p12 0 q3, .ld p13 q12 tI, .fa p14 1 q3, .ld p15 q14 tI, .o ⟨none, (.e (.stores 1 q0 q11)), none, [⟨none, .cell q12, p13⟩, ⟨none, .cell q14, p15⟩]⟩ .v, .o ⟨none, (.e (.store q1 q13)), none, [⟨none, .cell q14, p15⟩]⟩ .v, .st q2 q15]))) (.s .skip))))
def x49 : XFn := ⟨[.v, .v, .v], true, [], c49_e⟩
def e49_0 (k : St → Res2) (t0 t1 t2 : AV) (h : HP) (u : AMode) : Res2 := k ⟨mkT [(p0, t0), (p1, t1), (p2, t2)], h, [], u⟩
def S49_0 (D : CallD) (m : Nat) (t0 t1 t2 : AV) (h : HP) (u : AMode) : Res2 :=
 recC u fun t6 u1 =>
 obQ (evP (.tassert 103 (.agg [(kI 0), (kI 0)]) true (.c t6)) .leaf) fun t7 =>
 extC t7 0 fun t8 =>
 extC t7 1 fun vt9 => asB vt9 fun t9 =>
 let t3 := AV.ptr (HP.nxQ h) 0
 let h2 := HP.newQ h (.cells true [(kI 0), (kI 0)])
 stsC 2 t3 t8 h2 fun h3 =>
 br t9 (
 let t11 := (AV.agg [(.nils : AV)])
 let t12 := (AV.ptr (HP.nxQ h) (Nat.add 0 0))
 ldI t12 h3 fun t13 =>
 let t14 := (AV.ptr (HP.nxQ h) (Nat.add 0 1))
 ldI t14 h3 fun t15 =>
 stsC 1 t0 t11 h3 fun h4 =>
 br (againE (.stores 1 q0 q11) [⟨none, .cell q12, p13⟩, ⟨none, .cell q14, p15⟩] (mkT [(p0, t0), (p15, (vI t15)), (p14, t14), (p13, (vI t13)), (p12, t12)]) h4) (
 stoC t1 (vI t13) h4 fun h5 =>
 br (againE (.store q1 q13) [⟨none, .cell q14, p15⟩] (mkT [(p1, t1), (p15, (vI t15)), (p14, t14)]) h5) (
 stoC t2 (vI t15) h5 fun h6 =>
 some (.ret (.tup []) h6, u1)) none) none) (
 some (.ret (.tup []) h3, u1))
def S49 : SFn := fun D m args h u => popV args fun t0 args => popV args fun t1 args => popV args fun t2 args => endA args (S49_0 D m t0 t1 t2 h u)
theorem T49_0 (hE : FX x49 D m E) : S49_0 D m = e49_0 (E c49_e []) := by unfold S49_0; rw [hE c49_e]; kernel_rfl
theorem X49 : XTie S49 x49 := X_of fun D m E hE args h u => by unfold S49; rw [T49_0 hE]; kernel_rfl
/- 50 -/
def c50_e : XC := (.sO [.al p2 (.new [(kI 0), (.str []), (kI 0)])] (.seq (.ops true (XL.of [.mv p3 q0 .v, .P p4 (.nilck q3) .v, .fa p5 0 q4, .ld p6 q5 .v, .mv p7 q0 .v, .P p8 (.nilck q7) .v, .fa p9 1 q8, .ld p10 q9 tI, .P p11 (.iaddr (.sl 3) q6 q10) .v, .L p12 (.cells 3 q11) .v, .ss 3 q2 q12])) (.s .ret)))
def x50 : XFn := ⟨[.v], false, [(.cells 3 p2)], c50_e⟩
def e50_0 (k t0 h) := kN k [(p0, t0)] h
def S50_0 (D : CallD) (m : Nat) (t0 : AV) (h : HP) : Res2 :=
 let t2 := AV.ptr (HP.nxQ h) 0
 let h1 := HP.newQ h (.cells true [(kI 0), (.str []), (kI 0)])
 nilckC t0 fun t4 =>
 faC 0 t4 fun t5 =>
 cellC t5 h1 fun t6 =>
 nilckC t0 fun t8 =>
 faC 1 t8 fun t9 =>
 ldI t9 h1 fun t10 =>
 iasC 3 t6 (vI t10) fun t11 =>
 cellsC 3 t11 h1 fun t12 =>
 stsC 3 t2 t12 h1 fun h2 =>
 cellsC 3 t2 h2 fun t2a =>
 some (.ret t2a h2, .no)
def S50 : SFn := fun D m args h u => nou u <| popV args fun t0 args => endA args (S50_0 D m t0 h)
theorem T50_0 (hE : FX x50 D m E) : S50_0 D m = e50_0 (E c50_e []) := by unfold S50_0; rw [hE c50_e]; kernel_rfl
theorem X50 : XTie S50 x50 := X_of fun D m E hE args h u => by unfold S50; rw [T50_0 hE]; kernel_rfl
/- 51 -/
def v51_2 : List Pos := [p0, p2, p3]
def c51_2 : XC := (.sO [.mv p81 q0 .v, .cl p82 77 [q81, (.c (.str [59]))] .v] (.sO [.L p83 (.cells 17 q3) .v, .ss 17 q2 q83] (.s .ret)))
def v51_4 : List Pos := [p0, p2, p3]
def c51_4 : XC := (.sO [.fa p76 5 q3, .ld p77 q76 tI, .bn p78 .gtr q77 (ci 0) .b] (.cond q78 (.s (.oX [.mv p79 q0 .v, .cl p80 77 [q79, (.c (.str [125]))] .v])) (.s .skip)))
def v51_6 : List Pos := [p0, p2, p3]
def c51_6 : XC := (.block 1 (.s (.ops true (XL.of [.fa p67 6 q3, .ld p68 q67 .v, .mv p69 q0 .v, .P p71 (.lenl q68) tI, .al p72 (.bsl [(kI 0), (.str []), (.str []), (.int .u32 (.ofNat 0)), (.int .u64 (.ofNat 0)), .nils, (kI 0), (kI 0)] 1 [⟨0, 8, (.c (.agg [(kI 0), (.str []), (.str []), (.int .u32 (.ofNat 0)), (.int .u64 (.ofNat 0)), .nils, (kI 0), (kI 0)]))⟩]), .o ⟨(some p70), (.call (.fn 79) [q69]), none, [⟨none, .cell q67, p68⟩]⟩ .v, .o ⟨(some p73), (.e (.app 8 96 q68 q72)), none, []⟩ .v, .P p74 (.iaddr (.sl 8) q73 q71) .v, .fa p75 6 q3, .o ⟨none, (.e (.st2 (some 8) none q74 q70 q75 q73)), none, []⟩ .v]))))
def c51_8 : XC := (.cond q66 (.s .skip) (.s (.exit 0)))
def l51_7 : XL := (XL.of [])
def v51_5 : List Pos := [p0, p2, p3]
def c51_5b : XC := (.sj v51_6 (.opq false (XL.pre [.fa p60 5 q3, .ld p61 q60 tI, .bn p62 .gtr q61 (ci 0) .b, .mv p63 q62 .b, .sp p63, .G p63 true p64 (.mov q0) .v, .o ⟨(some p65), (.call (.fn 71) [q64, (.c (.str [44]))]), (some (p63, true)), []⟩ .b, .P p66 (.pick q63 q65 (cb false)) .b, .jn p63 [p0, p2, p3, p66]] l51_7) c51_8) c51_6)
def v51_3 : List Pos := [p0, p2, p3]
def c51_3 : XC := (.seq (.ops true (XL.of [.fa p51 6 q3, .ld p52 q51 .v, .mv p53 q0 .v, .P p55 (.lenl q52) tI, .al p56 (.bsl [(kI 0), (.str []), (.str []), (.int .u32 (.ofNat 0)), (.int .u64 (.ofNat 0)), .nils, (kI 0), (kI 0)] 1 [⟨0, 8, (.c (.agg [(kI 0), (.str []), (.str []), (.int .u32 (.ofNat 0)), (.int .u64 (.ofNat 0)), .nils, (kI 0), (kI 0)]))⟩]), .o ⟨(some p54), (.call (.fn 79) [q53]), none, [⟨none, .cell q51, p52⟩]⟩ .v, .o ⟨(some p57), (.e (.app 8 96 q52 q56)), none, []⟩ .v, .P p58 (.iaddr (.sl 8) q57 q55) .v, .fa p59 6 q3, .o ⟨none, (.e (.st2 (some 8) none q58 q54 q59 q57)), none, []⟩ .v])) (.sj v51_4 (.block 0 (.loop v51_5 c51_5b)) c51_4))
def v51_1 : List Pos := [p0, p2, p3]
def c51_1 : XC := (.sO [.mv p38 q0 .v, .cl p39 78 [q38] tI, .fa p40 5 q3, .st q40 q39] (.sj v51_2 (.sO [.mv p41 q0 .v, .cl p42 71 [q41, (.c (.str [61]))] .b, .fa p43 7 q3, .st q43 q42] (.sO [.fa p44 7 q3, .ld p45 q44 .b] (.cond q45 (.sj v51_3 (.sO [.fa p46 5 q3, .ld p47 q46 tI, .bn p48 .gtr q47 (ci 0) .b] (.cond q48 (.s (.oX [.mv p49 q0 .v, .cl p50 77 [q49, (.c (.str [123]))] .v])) (.s .skip))) c51_3) (.s .skip)))) c51_2))
def v51_9 : List Pos := [p2, p3]
def c51_9 : XC := (.sO [.L p37 (.cells 17 q3) .v, .ss 17 q2 q37] (.s .ret))
def v51_0 : List Pos := [p0, p2, p3]
def c51_0 : XC := (.sO [.mv p13 q0 .v, .cl p14 50 [q13] .v, .P p15 (.field 2 1 false q14) tI, .fa p16 16 q3, .st q16 q15] (.sO [.mv p17 q0 .v, .cl p18 72 [q17] tI, .fa p19 4 q3, .st q19 q18] (.sO [.mv p20 q0 .v, .cl p21 73 [q20, (ci 1)] .s, .fa p22 3 q3, .st q22 q21] (.sj v51_1 (.sO [.mv p23 q0 .v, .cl p24 71 [q23, (.c (.str [40]))] .b] (.cond q24 (.sO [.fa p25 0 q3, .st q25 (cb true)] (.sO [.mv p26 q0 .v, .cl p27 74 [q26, q3] .v] (.sj v51_9 (.sO [.mv p28 q0 .v, .al p29 (.bsl [(.str [])] 1 [⟨0, 1, (.c (.str [123]))⟩]), .cl p30 75 [q28, q29] .b] (.cond q30 (.sO [.fa p31 7 q3, .st q31 (cb true)] (.s (.oX [.mv p32 q0 .v, .cl p33 76 [q32] .v, .fa p34 9 q3, .ss 7 q34 q33]))) (.s (.oX [.mv p35 q0 .v, .cl p36 77 [q35, (.c (.str [59]))] .v])))) c51_9))) (.s .skip))) c51_1))))
def c51_e : XC := (.sO [.al p2 (.new [(.bool false), (.bool false), (.bool false), (.str []), (kI 0), (kI 0), .nils, (.bool false), .nils, (kI 0), .nils, .nils, (.str []), (kI 0), (kI 0), (kI 0), (kI 0)])] (.sO [.al p3 (.new [(.bool false), (.bool false), (.bool false), (.str []), (kI 0), (kI 0), .nils, (.bool false), .nils, (kI 0), .nils, .nils, (.str []), (kI 0), (kI 0), (kI 0), (kI 0)])] (.sj v51_0 (.sO [.mv p4 q0 .v, .cl p5 71 [q4, (.c (.str [115, 116, 97, 116, 105, 99]))] .b, .fa p6 1 q3, .st q6 q5] (.sO [.fa p7 1 q3, .ld p8 q7 .b, .P p9 (.un .not q8) .b] (.cond q9 (.s (.oX [.mv p10 q0 .v, .cl p11 71 [q10, (.c (.str [101, 120, 116, 101, 114, 110]))] .b, .fa p12 2 q3, .st q12 q11])) (.s .skip)))) c51_0)))
def x51 : XFn := ⟨[.v], false, [(.cells 17 p2)], c51_e⟩
def e51_2 (k t0 t2 t3 h) := kN k [(p0, t0), (p2, t2), (p3, t3)] h
def S51_2 (D : CallD) (m : Nat) (t0 t2 t3 : AV) (h : HP) : Res2 :=
 cal D 77 [t0, (vS ([59] : LN))] h fun t82 h21 =>
 cellsC 17 t3 h21 fun t83 =>
 stsC 17 t2 t83 h21 fun h22 =>
 cellsC 17 t2 h22 fun t2a =>
 some (.ret t2a h22, .no)
def e51_4 (k t0 t2 t3 h) := kN k [(p0, t0), (p2, t2), (p3, t3)] h
def S51_4 (D : CallD) (m : Nat) (t0 t2 t3 : AV) (h : HP) : Res2 :=
 faC 5 t3 fun t76 =>
 ldI t76 h fun t77 =>
 let t78 := ltQ (Int.ofNat 0) t77
 br t78 (
 cal D 77 [t0, (vS ([125] : LN))] h fun t80 h29 =>
 S51_2 D m t0 t2 t3 h29) (
 S51_2 D m t0 t2 t3 h)
def e51_6 (k t0 t2 t3 h) := kN k [(p0, t0), (p2, t2), (p3, t3)] h
def S51_6 (D : CallD) (m : Nat) (g5 : AV → AV → AV → HP → Res2) (t0 t2 t3 : AV) (h : HP) : Res2 :=
 faC 6 t3 fun t67 =>
 cellC t67 h fun t68 =>
 lenC t68 fun vt71 => asI .i64 vt71 fun t71 =>
 let t72 := AV.slice (HP.nxQ h) 0 1 (.exact 1)
 let h30 := HP.newQ h (.cells true [(vI (Int.ofNat 0)), (vS ([] : LN)), (vS ([] : LN)), (vW (Int.ofNat 0)), (AV.int .u64 (Int.ofNat 0)), (.nils : AV), (vI (Int.ofNat 0)), (vI (Int.ofNat 0))])
 cal D 79 [t0] h30 fun t70 h31 =>
 br (again [⟨none, .cell q67, p68⟩] (mkT [(p68, t68), (p67, t67)]) h31) (
 eff (.app 8 96 (.c t68) (.c t72)) h31 fun t73 h32 =>
 iasC 8 t73 (vI t71) fun t74 =>
 faC 6 t3 fun t75 =>
 eff (.st2 (some 8) none (.c t74) (.c t70) (.c t75) (.c t73)) h32 fun t0a h33 =>
 g5 t0 t2 t3 h33) none
def e51_7 (k t0 t2 t3 t66 h) := kN k [(p0, t0), (p2, t2), (p3, t3), (p66, (vB t66))] h
def S51_7 (D : CallD) (m : Nat) (g5 : AV → AV → AV → HP → Res2) (t0 t2 t3 : AV) (t66 : Bool) (h : HP) : Res2 :=
 br t66 (
 S51_6 D m g5 t0 t2 t3 h) (
 S51_4 D m t0 t2 t3 h)
def e51_5 (k t0 t2 t3 h) := kN k [(p0, t0), (p2, t2), (p3, t3)] h
def S51_5b (D : CallD) (m : Nat) (g5 : AV → AV → AV → HP → Res2) (t0 t2 t3 : AV) (h : HP) : Res2 :=
 faC 5 t3 fun t60 =>
 ldI t60 h fun t61 =>
 let t62 := ltQ (Int.ofNat 0) t61
 br t62 (
 cal D 71 [t0, (vS ([44] : LN))] h fun t65 h34 =>
 asB t65 fun t65a =>
 S51_7 D m g5 t0 t2 t3 t65a h34) (
 S51_7 D m g5 t0 t2 t3 false h)
def S51_5 (D : CallD) (m : Nat) : AV → AV → AV → HP → Res2 := nrec (fun _ _ _ _ => none) (fun _ g => S51_5b D m g) m
def e51_3 (k t0 t2 t3 h) := kN k [(p0, t0), (p2, t2), (p3, t3)] h
def S51_3 (D : CallD) (m : Nat) (t0 t2 t3 : AV) (h : HP) : Res2 :=
 faC 6 t3 fun t51 =>
 cellC t51 h fun t52 =>
 lenC t52 fun vt55 => asI .i64 vt55 fun t55 =>
 let t56 := AV.slice (HP.nxQ h) 0 1 (.exact 1)
 let h25 := HP.newQ h (.cells true [(vI (Int.ofNat 0)), (vS ([] : LN)), (vS ([] : LN)), (vW (Int.ofNat 0)), (AV.int .u64 (Int.ofNat 0)), (.nils : AV), (vI (Int.ofNat 0)), (vI (Int.ofNat 0))])
 cal D 79 [t0] h25 fun t54 h26 =>
 br (again [⟨none, .cell q51, p52⟩] (mkT [(p52, t52), (p51, t51)]) h26) (
 eff (.app 8 96 (.c t52) (.c t56)) h26 fun t57 h27 =>
 iasC 8 t57 (vI t55) fun t58 =>
 faC 6 t3 fun t59 =>
 eff (.st2 (some 8) none (.c t58) (.c t54) (.c t59) (.c t57)) h27 fun t0a h28 =>
 S51_5 D m t0 t2 t3 h28) none
def e51_1 (k t0 t2 t3 h) := kN k [(p0, t0), (p2, t2), (p3, t3)] h
def S51_1 (D : CallD) (m : Nat) (t0 t2 t3 : AV) (h : HP) : Res2 :=
 cal D 78 [t0] h fun t39 h19 =>
 asI .i64 t39 fun t39a =>
 faC 5 t3 fun t40 =>
 stoC t40 (vI t39a) h19 fun h20 =>
 cal D 71 [t0, (vS ([61] : LN))] h20 fun t42 h23 =>
 asB t42 fun t42a =>
 faC 7 t3 fun t43 =>
 stoC t43 (vB t42a) h23 fun h24 =>
 faC 7 t3 fun t44 =>
 ldB t44 h24 fun t45 =>
 br t45 (
 faC 5 t3 fun t46 =>
 ldI t46 h24 fun t47 =>
 let t48 := ltQ (Int.ofNat 0) t47
 br t48 (
 cal D 77 [t0, (vS ([123] : LN))] h24 fun t50 h35 =>
 S51_3 D m t0 t2 t3 h35) (
 S51_3 D m t0 t2 t3 h24)) (
 S51_2 D m t0 t2 t3 h24)
def e51_9 (k t2 t3 h) := kN k [(p2, t2), (p3, t3)] h
def S51_9 (D : CallD) (m : Nat) (t2 t3 : AV) (h : HP) : Res2 :=
 cellsC 17 t3 h fun t37 =>
 stsC 17 t2 t37 h fun h39 =>
 cellsC 17 t2 h39 fun t2a =>
 some (.ret t2a h39, .no)
def e51_0 (k t0 t2 t3 h) := kN k [(p0, t0), (p2, t2), (p3, t3)] h
def S51_0 (D : CallD) (m : Nat) (t0 t2 t3 : AV) (h : HP) : Res2 :=
 cal D 50 [t0] h fun t14 h13 =>
 fldC 2 1 false t14 fun vt15 => asI .i64 vt15 fun t15 =>
 faC 16 t3 fun t16 =>
 stoC t16 (vI t15) h13 fun h14 =>
 cal D 72 [t0] h14 fun t18 h15 =>
 asI .i64 t18 fun t18a =>
 faC 4 t3 fun t19 =>
 stoC t19 (vI t18a) h15 fun h16 =>
 cal D 73 [t0, (vI (Int.ofNat 1))] h16 fun t21 h17 =>
 asS t21 fun t21a =>
 faC 3 t3 fun t22 =>
 stoC t22 (vS t21a) h17 fun h18 =>
 cal D 71 [t0, (vS ([40] : LN))] h18 fun t24 h36 =>
 asB t24 fun t24a =>
 br t24a (
 faC 0 t3 fun t25 =>
 stoC t25 (vB true) h36 fun h37 =>
 cal D 74 [t0, t3] h37 fun t27 h38 =>
 let t29 := AV.slice (HP.nxQ h38) 0 1 (.exact 1)
 let h40 := HP.newQ h38 (.cells true [(vS ([123] : LN))])
 cal D 75 [t0, t29] h40 fun t30 h41 =>
 asB t30 fun t30a =>
 br t30a (
 faC 7 t3 fun t31 =>
 stoC t31 (vB true) h41 fun h42 =>
 cal D 76 [t0] h42 fun t33 h43 =>
 faC 9 t3 fun t34 =>
 stsC 7 t34 t33 h43 fun h44 =>
 S51_9 D m t2 t3 h44) (
 cal D 77 [t0, (vS ([59] : LN))] h41 fun t36 h45 =>
 S51_9 D m t2 t3 h45)) (
 S51_1 D m t0 t2 t3 h36)
def e51_10 (k t0 h) := kN k [(p0, t0)] h
def S51_10 (D : CallD) (m : Nat) (t0 : AV) (h : HP) : Res2 :=
 let t2 := AV.ptr (HP.nxQ h) 0
 let h11 := HP.newQ h (.cells true [(.bool false), (.bool false), (.bool false), (.str []), (kI 0), (kI 0), .nils, (.bool false), .nils, (kI 0), .nils, .nils, (.str []), (kI 0), (kI 0), (kI 0), (kI 0)])
 let t3 := AV.ptr (HP.nxQ h11) 0
 let h12 := HP.newQ h11 (.cells true [(.bool false), (.bool false), (.bool false), (.str []), (kI 0), (kI 0), .nils, (.bool false), .nils, (kI 0), .nils, .nils, (.str []), (kI 0), (kI 0), (kI 0), (kI 0)])
 cal D 71 [t0, (vS ([115, 116, 97, 116, 105, 99] : LN))] h12 fun t5 h46 =>
 asB t5 fun t5a =>
 let t6 := (AV.ptr (HP.nxQ h11) (Nat.add 0 1))
 stoC t6 (vB t5a) h46 fun h47 =>
 let t7 := (AV.ptr (HP.nxQ h11) (Nat.add 0 1))
 ldB t7 h47 fun t8 =>
 let t9 := !t8
 br t9 (
 cal D 71 [t0, (vS ([101, 120, 116, 101, 114, 110] : LN))] h47 fun t11 h48 =>
 asB t11 fun t11a =>
 let t12 := (AV.ptr (HP.nxQ h11) (Nat.add 0 2))
 stoC t12 (vB t11a) h48 fun h49 =>
 S51_0 D m t0 t2 t3 h49) (
 S51_0 D m t0 t2 t3 h47)
def S51 : SFn := fun D m args h u => nou u <| popV args fun t0 args => endA args (S51_10 D m t0 h)
theorem T51_2 (hE : FX x51 D m E) : S51_2 D m = e51_2 (E c51_2 []) := by unfold S51_2; rw [hE c51_2]; kernel_rfl
theorem T51_4 (hE : FX x51 D m E) : S51_4 D m = e51_4 (E c51_4 [.sj v51_2 c51_2]) := by unfold S51_4; rw [T51_2 hE, hE c51_4]; kernel_rfl
theorem T51_6 (hE : FX x51 D m E) (G5) : S51_6 D m (e51_5 G5) = e51_6 (E c51_6 [.lp v51_5 G5, .blk 0, .sj v51_4 c51_4, .sj v51_2 c51_2]) := by unfold S51_6; rw [hE c51_6]; kernel_rfl
theorem T51_7 (hE : FX x51 D m E) (G5) : S51_7 D m (e51_5 G5) = e51_7 (E (.opq false l51_7 c51_8) [.sj v51_6 c51_6, .lp v51_5 G5, .blk 0, .sj v51_4 c51_4, .sj v51_2 c51_2]) := by unfold S51_7; rw [T51_6 hE G5, T51_4 hE, hE (.opq false l51_7 c51_8)]; kernel_rfl
theorem T51_5b (hE : FX x51 D m E) (G5) : S51_5b D m (e51_5 G5) = e51_5 (E c51_5b [.lp v51_5 G5, .blk 0, .sj v51_4 c51_4, .sj v51_2 c51_2]) := by unfold S51_5b; rw [T51_7 hE G5, hE c51_5b]; kernel_rfl
theorem T51_5 (hE : FX x51 D m E) : S51_5 D m = e51_5 (nrec (fun _ => none) (fun _ G5 st => E c51_5b [.lp v51_5 G5, .blk 0, .sj v51_4 c51_4, .sj v51_2 c51_2] st) m) :=
  nrec_emb e51_5 (fun _ _ _ _ => none) (fun g => S51_5b D m g) (fun G5 st => E c51_5b [.lp v51_5 G5, .blk 0, .sj v51_4 c51_4, .sj v51_2 c51_2] st) rfl (fun g => T51_5b hE g) m
theorem T51_3 (hE : FX x51 D m E) : S51_3 D m = e51_3 (E c51_3 [.sj v51_2 c51_2]) := by unfold S51_3; rw [T51_5 hE, hE c51_3]; kernel_rfl
theorem T51_1 (hE : FX x51 D m E) : S51_1 D m = e51_1 (E c51_1 []) := by unfold S51_1; rw [T51_3 hE, T51_2 hE, hE c51_1]; kernel_rfl
theorem T51_9 (hE : FX x51 D m E) : S51_9 D m = e51_9 (E c51_9 [.sj v51_1 c51_1]) := by unfold S51_9; rw [hE c51_9]; kernel_rfl
theorem T51_0 (hE : FX x51 D m E) : S51_0 D m = e51_0 (E c51_0 []) := by unfold S51_0; rw [T51_9 hE, T51_1 hE, hE c51_0]; kernel_rfl
theorem T51_10 (hE : FX x51 D m E) : S51_10 D m = e51_10 (E c51_e []) := by unfold S51_10; rw [T51_0 hE, hE c51_e]; kernel_rfl
theorem X51 : XTie S51 x51 := X_of fun D m E hE args h u => by unfold S51; rw [T51_10 hE]; kernel_rfl
/- 52 -/
def c52_e : XC := (.sO [.o ⟨(some p6), .recover, none, []⟩ .v, .P p7 (.tassert 113 (.agg [(kI 0), (kI 0)]) true q6) .v, .mv p5 q7 .v, .P p8 (.ext q5 0) .v, .P p9 (.ext q5 1) .b, .al p3 (.new [(kI 0), (kI 0)]), .ss 2 q3 q8, .mv p4 q9 .b] (.sO [.mv p10 q4 .b] (.cond q10 (.s (.ops true (XL.of [.P p11 (.build [.nils] []) .v, .fa p12 0 q3, .ld p13 q12 tI, .fa p14 1 q3, .ld p15 q14 tI, .o ⟨none, (.e (.stores 1 q0 q11)), none, [⟨none, .cell q12, p13⟩, ⟨none, .cell q14, p15⟩]⟩ .v, .o ⟨none, (.e (.store q1 q13)), none, [⟨none, .cell q14, p15⟩]⟩ .v, .st q2 q15]))) (.s .skip))))
def x52 : XFn := ⟨[.v, .v, .v], true, [], c52_e⟩
def e52_0 (k : St → Res2) (t0 t1 t2 : AV) (h : HP) (u : AMode) : Res2 := k ⟨mkT [(p0, t0), (p1, t1), (p2, t2)], h, [], u⟩
def S52_0 (D : CallD) (m : Nat) (t0 t1 t2 : AV) (h : HP) (u : AMode) : Res2 :=
 recC u fun t6 u1 =>
 obQ (evP (.tassert 113 (.agg [(kI 0), (kI 0)]) true (.c t6)) .leaf) fun t7 =>
 extC t7 0 fun t8 =>
 extC t7 1 fun vt9 => asB vt9 fun t9 =>
 let t3 := AV.ptr (HP.nxQ h) 0
 let h2 := HP.newQ h (.cells true [(kI 0), (kI 0)])
 stsC 2 t3 t8 h2 fun h3 =>
 br t9 (
 let t11 := (AV.agg [(.nils : AV)])
 let t12 := (AV.ptr (HP.nxQ h) (Nat.add 0 0))
 ldI t12 h3 fun t13 =>
 let t14 := (AV.ptr (HP.nxQ h) (Nat.add 0 1))
 ldI t14 h3 fun t15 =>
 stsC 1 t0 t11 h3 fun h4 =>
 br (againE (.stores 1 q0 q11) [⟨none, .cell q12, p13⟩, ⟨none, .cell q14, p15⟩] (mkT [(p0, t0), (p15, (vI t15)), (p14, t14), (p13, (vI t13)), (p12, t12)]) h4) (
 stoC t1 (vI t13) h4 fun h5 =>
 br (againE (.store q1 q13) [⟨none, .cell q14, p15⟩] (mkT [(p1, t1), (p15, (vI t15)), (p14, t14)]) h5) (
 stoC t2 (vI t15) h5 fun h6 =>
 some (.ret (.tup []) h6, u1)) none) none) (
 some (.ret (.tup []) h3, u1))
def S52 : SFn := fun D m args h u => popV args fun t0 args => popV args fun t1 args => popV args fun t2 args => endA args (S52_0 D m t0 t1 t2 h u)
theorem T52_0 (hE : FX x52 D m E) : S52_0 D m = e52_0 (E c52_e []) := by unfold S52_0; rw [hE c52_e]; kernel_rfl
theorem X52 : XTie S52 x52 := X_of fun D m E hE args h u => by unfold S52; rw [T52_0 hE]; kernel_rfl
/- 53 -/
def c53_e : XC := (.sO [.mv p0 (.c .nilm) .v] (.sO [.al p1 (.mkmap), .P p2 (.build [(.str []), (kI 0), (kI 0)] [⟨1, 1, (ci 1)⟩]) .v, .al p3 (.bsl [(.str []), (kI 0), (kI 0)] 1 [⟨0, 3, q2⟩]), .P p4 (.build [(.bool false), (.bool false), (.bool false), (.str []), (kI 0), (kI 0), .nils, (.bool false), .nils, (kI 0), .nils, .nils, (.str []), (kI 0), (kI 0), (kI 0), (kI 0)] [⟨0, 1, (cb true)⟩, ⟨3, 1, (.c (.str [112, 117, 116, 119]))⟩, ⟨8, 1, q3⟩]) .v, .P p5 (.build [(.bool false), (.bool false), (.bool false), (.str []), (kI 0), (kI 0), .nils, (.bool false), .nils, (kI 0), .nils, .nils, (.str []), (kI 0), (kI 0), (kI 0), (kI 0), (.str [])] [⟨0, 17, q4⟩, ⟨17, 1, (.c (.str [112, 117, 116, 119]))⟩]) .v, .o ⟨none, (.e (.mset .str q1 (.c (.str [112, 117, 116, 119])) q5)), none, []⟩ .v, .P p6 (.build [(.str []), (kI 0), (kI 0)] [⟨1, 1, (ci 2)⟩]) .v, .al p7 (.bsl [(.str []), (kI 0), (kI 0)] 1 [⟨0, 3, q6⟩]), .P p8 (.build [(.bool false), (.bool false), (.bool false), (.str []), (kI 0), (kI 0), .nils, (.bool false), .nils, (kI 0), .nils, .nils, (.str []), (kI 0), (kI 0), (kI 0), (kI 0)] [⟨0, 1, (cb true)⟩, ⟨3, 1, (.c (.str [112, 117, 116, 100]))⟩, ⟨8, 1, q7⟩]) .v, .P p9 (.build [(.bool false), (.bool false), (.bool false), (.str []), (kI 0), (kI 0), .nils, (.bool false), .nils, (kI 0), .nils, .nils, (.str []), (kI 0), (kI 0), (kI 0), (kI 0), (.str [])] [⟨0, 17, q8⟩, ⟨17, 1, (.c (.str [112, 117, 116, 100]))⟩]) .v, .o ⟨none, (.e (.mset .str q1 (.c (.str [112, 117, 116, 100])) q9)), none, []⟩ .v, .P p10 (.build [(.bool false), (.bool false), (.bool false), (.str []), (kI 0), (kI 0), .nils, (.bool false), .nils, (kI 0), .nils, .nils, (.str []), (kI 0), (kI 0), (kI 0), (kI 0)] [⟨0, 1, (cb true)⟩, ⟨3, 1, (.c (.str [103, 101, 116, 119]))⟩, ⟨4, 1, (ci 1)⟩]) .v, .P p11 (.build [(.bool false), (.bool false), (.bool false), (.str []), (kI 0), (kI 0), .nils, (.bool false), .nils, (kI 0), .nils, .nils, (.str []), (kI 0), (kI 0), (kI 0), (kI 0), (.str [])] [⟨0, 17, q10⟩, ⟨17, 1, (.c (.str [103, 101, 116, 119]))⟩]) .v, .o ⟨none, (.e (.mset .str q1 (.c (.str [103, 101, 116, 119])) q11)), none, []⟩ .v, .mv p12 q1 .v, .mv p0 q12 .v] (.s .ret)))
def x53 : XFn := ⟨[], false, [(.tmp p0)], c53_e⟩
def e53_0 (k h) := kN k [] h
def S53_0 (D : CallD) (m : Nat) (h : HP) : Res2 :=
 let t1 := AV.map (HP.nxQ h)
 let h1 := HP.newQ h (.map [] 0)
 let t2 := (AV.agg [(vS ([] : LN)), (vI (Int.ofNat 1)), (vI (Int.ofNat 0))])
 let t3 := AV.slice (HP.nxQ h1) 0 1 (.exact 1)
 let h2 := HP.newQ h1 (.cells true [(vS ([] : LN)), (vI (Int.ofNat 1)), (vI (Int.ofNat 0))])
 let t4 := (AV.agg [(vB true), (vB false), (vB false), (vS ([112, 117, 116, 119] : LN)), (vI (Int.ofNat 0)), (vI (Int.ofNat 0)), (.nils : AV), (vB false), t3, (vI (Int.ofNat 0)), (.nils : AV), (.nils : AV), (vS ([] : LN)), (vI (Int.ofNat 0)), (vI (Int.ofNat 0)), (vI (Int.ofNat 0)), (vI (Int.ofNat 0))])
 let t5 := (AV.agg [(vB true), (vB false), (vB false), (vS ([112, 117, 116, 119] : LN)), (vI (Int.ofNat 0)), (vI (Int.ofNat 0)), (.nils : AV), (vB false), t3, (vI (Int.ofNat 0)), (.nils : AV), (.nils : AV), (vS ([] : LN)), (vI (Int.ofNat 0)), (vI (Int.ofNat 0)), (vI (Int.ofNat 0)), (vI (Int.ofNat 0)), (vS ([112, 117, 116, 119] : LN))])
 eff (.mset .str (.c t1) (.c (vS ([112, 117, 116, 119] : LN))) (.c t5)) h2 fun t0 h3 =>
 let t6 := (AV.agg [(vS ([] : LN)), (vI (Int.ofNat 2)), (vI (Int.ofNat 0))])
 let t7 := AV.slice (HP.nxQ h3) 0 1 (.exact 1)
 let h4 := HP.newQ h3 (.cells true [(vS ([] : LN)), (vI (Int.ofNat 2)), (vI (Int.ofNat 0))])
 let t8 := (AV.agg [(vB true), (vB false), (vB false), (vS ([112, 117, 116, 100] : LN)), (vI (Int.ofNat 0)), (vI (Int.ofNat 0)), (.nils : AV), (vB false), t7, (vI (Int.ofNat 0)), (.nils : AV), (.nils : AV), (vS ([] : LN)), (vI (Int.ofNat 0)), (vI (Int.ofNat 0)), (vI (Int.ofNat 0)), (vI (Int.ofNat 0))])
 let t9 := (AV.agg [(vB true), (vB false), (vB false), (vS ([112, 117, 116, 100] : LN)), (vI (Int.ofNat 0)), (vI (Int.ofNat 0)), (.nils : AV), (vB false), t7, (vI (Int.ofNat 0)), (.nils : AV), (.nils : AV), (vS ([] : LN)), (vI (Int.ofNat 0)), (vI (Int.ofNat 0)), (vI (Int.ofNat 0)), (vI (Int.ofNat 0)), (vS ([112, 117, 116, 100] : LN))])
 eff (.mset .str (.c t1) (.c (vS ([112, 117, 116, 100] : LN))) (.c t9)) h4 fun t0a h5 =>
 let t10 := (AV.agg [(vB true), (vB false), (vB false), (vS ([103, 101, 116, 119] : LN)), (vI (Int.ofNat 1)), (vI (Int.ofNat 0)), (.nils : AV), (vB false), (.nils : AV), (vI (Int.ofNat 0)), (.nils : AV), (.nils : AV), (vS ([] : LN)), (vI (Int.ofNat 0)), (vI (Int.ofNat 0)), (vI (Int.ofNat 0)), (vI (Int.ofNat 0))])
 let t11 := (AV.agg [(vB true), (vB false), (vB false), (vS ([103, 101, 116, 119] : LN)), (vI (Int.ofNat 1)), (vI (Int.ofNat 0)), (.nils : AV), (vB false), (.nils : AV), (vI (Int.ofNat 0)), (.nils : AV), (.nils : AV), (vS ([] : LN)), (vI (Int.ofNat 0)), (vI (Int.ofNat 0)), (vI (Int.ofNat 0)), (vI (Int.ofNat 0)), (vS ([103, 101, 116, 119] : LN))])
 eff (.mset .str (.c t1) (.c (vS ([103, 101, 116, 119] : LN))) (.c t11)) h5 fun t0aa h6 =>
 some (.ret t1 h6, .no)
def S53 : SFn := fun D m args h u => nou u <| endA args (S53_0 D m h)
theorem T53_0 (hE : FX x53 D m E) : S53_0 D m = e53_0 (E c53_e []) := by unfold S53_0; rw [hE c53_e]; kernel_rfl
theorem X53 : XTie S53 x53 := X_of fun D m E hE args h u => by unfold S53; rw [T53_0 hE]; kernel_rfl
/- 54 -/
def v54_7 : List Pos := [p0, p4, p6]
def c54_7 : XC := (.sO [.mv p276 q0 .v, .mv p277 q0 .v, .P p278 (.nilck q277) .v, .fa p279 0 q278, .ld p280 q279 .v, .P p281 (.slice (.sl 1) q280 none (some (ci 2)) none) .v, .P p282 (.nilck q276) .v, .fa p283 0 q282, .st q283 q281] (.sO [.L p284 (.cells 17 q4) .v, .ss 17 q6 q284] (.s .ret)))
def v54_6 : List Pos := [p0, p4, p6]
def c54_6 : XC := (.sj v54_7 (.sO [.fa p263 0 q4, .ld p264 q263 .b, .mv p265 q264 .b, .ge p265 (XL.of [.G p265 true p266 (.faddr 7 q4) .v, .o ⟨(some p267), (.l (.cell q266)), (some (p265, true)), []⟩ .b, .P p268 (.pick q265 q267 (cb false)) .b]) p268 .b] (.cond q268 (.s (.oX [.mv p269 q0 .v, .fa p270 9 q4, .fa p271 2 q270, .ld p272 q271 .v, .cl p273 87 [q269, q272] .v, .fa p274 9 q4, .fa p275 2 q274, .st q275 q273])) (.s .skip))) c54_7)
def v54_8 : List Pos := [p0, p4, p6, p223, p224]
def c54_8b : XC := (.sO [.bn p225 .lss q224 q223 .b] (.seq (.cond q225 .skip (.exit 6)) (.seq (.block 7 (.seq (.oX [.mv p226 q224 tI, .mv p17 q226 tI]) (.seq (.ops true (XL.of [.fa p227 6 q4, .ld p228 q227 .v, .mv p229 q17 tI, .mv p230 q0 .v, .fa p231 6 q4, .ld p232 q231 .v, .mv p233 q17 tI, .P p234 (.iaddr (.sl 8) q232 q233) .v, .L p235 (.cells 8 q234) .v, .fa p236 4 q4, .ld p237 q236 tI, .fa p238 6 q4, .ld p239 q238 .v, .mv p240 q17 tI, .P p241 (.iaddr (.sl 8) q239 q240) .v, .fa p242 7 q241, .ld p243 q242 tI, .o ⟨(some p244), (.call (.fn 86) [q230, q235, q237, q243]), none, [⟨none, .cell q227, p228⟩]⟩ .v, .P p245 (.iaddr (.sl 8) q228 q229) .v, .ss 8 q245 q244])) (.ops true (XL.of [.fa p246 5 q4, .ld p247 q246 tI, .bn p248 .eql q247 (ci 0) .b, .mv p249 q248 .b, .ge p249 (XL.of [.G p249 false p250 (.mov q17) tI, .G p249 false p251 (.faddr 5 q4) .v, .o ⟨(some p252), (.l (.cell q251)), (some (p249, false)), []⟩ tI, .G p249 false p253 (.bin .lss q250 q252) .b, .P p254 (.pick q249 (cb true) q253) .b]) p254 .b, .fa p255 6 q4, .ld p256 q255 .v, .mv p257 q17 tI, .P p258 (.iaddr (.sl 8) q256 q257) .v, .fa p259 7 q258, .ld p260 q259 tI, .cl p261 55 [q254, (ci 1), q260] .v]))))) (.s (.oX [.bn p262 .add q224 (ci 1) tI, .mv p224 q262 tI])))))
def v54_5 : List Pos := [p0, p4, p6]
def c54_5 : XC := (.sO [.fa p217 6 q4, .ld p218 q217 .v, .cl p219 85 [q218] .v, .fa p220 6 q4, .st q220 q219] (.sj v54_6 (.sO [.fa p221 6 q4, .ld p222 q221 .v, .P p223 (.lenl q222) tI, .mv p224 (ci 0) tI] (.block 6 (.loop v54_8 c54_8b))) c54_6))
def v54_9 : List Pos := [p0, p4, p6, p174, p175, p176]
def c54_9b : XC := (.sO [.bn p177 .lss q176 q175 .b] (.seq (.cond q177 .skip (.exit 4)) (.seq (.block 5 (.seq (.oX [.mv p178 q176 tI, .P p179 (.iaddr (.sl 3) q174 q176) .v, .L p180 (.cells 3 q179) .v, .al p14 (.new [(.str []), (kI 0), (kI 0)]), .mv p13 q178 tI, .ss 3 q14 q180]) (.seq (.oX [.fa p181 1 q14, .ld p182 q181 tI, .bn p183 .neq q182 (ci 0) .b, .fa p184 2 q14, .ld p185 q184 tI, .cl p186 55 [q183, (ci 14), q185] .v]) (.seq (.ops true (XL.of [.mv p188 q0 .v, .P p189 (.nilck q188) .v, .fa p190 0 q189, .ld p191 q190 .v, .P p192 (.iaddr (.sl 1) q191 (ci 2)) .v, .ld p193 q192 .v, .fa p194 0 q14, .ld p195 q194 .s, .L p196 (.look .str (.agg [(.bool false), (.bool false), (.bool false), (.str []), (kI 0), (kI 0), .nils, (.bool false), .nils, (kI 0), .nils, .nils, (.str []), (kI 0), (kI 0), (kI 0), (kI 0), (.str [])]) true q193 q195) .v, .mv p187 q196 .v, .P p197 (.ext q187 0) .v, .P p198 (.ext q187 1) .b, .al p15 (.new [(.bool false), (.bool false), (.bool false), (.str []), (kI 0), (kI 0), .nils, (.bool false), .nils, (kI 0), .nils, .nils, (.str []), (kI 0), (kI 0), (kI 0), (kI 0), (.str [])]), .ss 18 q15 q197, .mv p16 q198 .b])) (.seq (.oX [.mv p199 q16 .b, .P p200 (.un .not q199) .b, .fa p201 2 q14, .ld p202 q201 tI, .cl p203 55 [q200, (ci 13), q202] .v]) (.ops true (XL.of [.fa p204 8 q4, .ld p205 q204 .v, .mv p206 q13 tI, .mv p207 q0 .v, .fa p208 0 q14, .ld p209 q208 .s, .fa p210 1 q14, .ld p211 q210 tI, .P p212 (.build [(.bool false), (.bool false), (.bool false), (.str []), (kI 0), (kI 0), .nils, (.bool false), .nils, (kI 0), .nils, .nils, (.str []), (kI 0), (kI 0), (kI 0), (kI 0)] [⟨3, 1, q209⟩, ⟨4, 1, q211⟩]) .v, .o ⟨(some p213), (.call (.fn 84) [q207, q212]), none, [⟨none, .cell q204, p205⟩]⟩ .s, .P p214 (.iaddr (.sl 3) q205 q206) .v, .fa p215 0 q214, .st q215 q213]))))))) (.s (.oX [.bn p216 .add q176 (ci 1) tI, .mv p176 q216 tI])))))
def c54_10 : XC := (.sO [.fa p110 3 q4, .ld p111 q110 .s, .bn p112 .neq q111 (.c (.str [109, 97, 105, 110])) .b, .mv p113 q112 .b, .ge p113 (XL.of [.G p113 false p114 (.faddr 0 q4) .v, .o ⟨(some p115), (.l (.cell q114)), (some (p113, false)), []⟩ .b, .G p113 false p116 (.mov q115) .b, .ge p116 (XL.of [.G p116 true p117 (.faddr 1 q4) .v, .o ⟨(some p118), (.l (.cell q117)), (some (p116, true)), []⟩ .b, .G p116 true p119 (.un .not q118) .b, .G p113 false p120 (.pick q116 q119 (cb false)) .b]) p120 .b, .G p113 false p121 (.mov q120) .b, .ge p121 (XL.of [.G p121 true p122 (.faddr 4 q4) .v, .o ⟨(some p123), (.l (.cell q122)), (some (p121, true)), []⟩ tI, .G p121 true p124 (.bin .eql q123 (ci 1)) .b, .G p113 false p125 (.pick q121 q124 (cb false)) .b]) p125 .b, .G p113 false p126 (.mov q125) .b, .ge p126 (XL.of [.G p126 true p127 (.faddr 8 q4) .v, .o ⟨(some p128), (.l (.cell q127)), (some (p126, true)), []⟩ .v, .G p126 true p129 (.lenl q128) tI, .G p126 true p130 (.bin .eql q129 (ci 0)) .b, .G p113 false p131 (.pick q126 q130 (cb false)) .b]) p131 .b, .P p132 (.pick q113 (cb true) q131) .b]) p132 .b, .fa p133 16 q4, .ld p134 q133 tI, .cl p135 55 [q132, (ci 14), q134] .v] (.seq (.ops true (XL.of [.mv p136 q0 .v, .P p137 (.nilck q136) .v, .fa p138 0 q137, .ld p139 q138 .v, .P p140 (.iaddr (.sl 1) q139 (ci 1)) .v, .ld p141 q140 .v, .fa p142 3 q4, .ld p143 q142 .s, .L p144 (.cells 17 q4) .v, .fa p145 3 q4, .ld p146 q145 .s, .P p147 (.build [(.bool false), (.bool false), (.bool false), (.str []), (kI 0), (kI 0), .nils, (.bool false), .nils, (kI 0), .nils, .nils, (.str []), (kI 0), (kI 0), (kI 0), (kI 0), (.str [])] [⟨0, 17, q144⟩, ⟨17, 1, q146⟩]) .v, .o ⟨none, (.e (.mset .str q141 q143 q147)), none, []⟩ .v])) (.sO [.mv p148 q0 .v, .mv p149 q0 .v, .P p150 (.nilck q149) .v, .fa p151 0 q150, .ld p152 q151 .v, .al p153 (.mkmap), .al p154 (.bsl [.nilm] 1 [⟨0, 1, q153⟩]), .o ⟨(some p155), (.e (.app 1 8 q152 q154)), none, []⟩ .v, .P p156 (.nilck q148) .v, .fa p157 0 q156, .st q157 q155] (.sO [.mv p158 q0 .v, .mv p159 q0 .v, .mv p160 q0 .v, .fa p161 4 q4, .ld p162 q161 tI, .P p163 (.nilck q158) .v, .fa p164 1 q163, .st q164 q162, .P p165 (.nilck q159) .v, .fa p166 2 q165, .st q166 (ci 0), .P p167 (.nilck q160) .v, .fa p168 3 q167, .st q168 (ci 0)] (.sO [.fa p169 8 q4, .ld p170 q169 .v, .cl p171 83 [q170] .v, .fa p172 8 q4, .st q172 q171] (.sj v54_5 (.sO [.fa p173 8 q4, .ld p174 q173 .v, .P p175 (.lenl q174) tI, .mv p176 (ci 0) tI] (.block 4 (.loop v54_9 c54_9b))) c54_5))))))
def l54_4 : XL := (XL.of [.cl p109 55 [q106, (ci 14), q108] .v])
def l54_3 : XL := (XL.pre [.G p83 false p97 (.mov q96) .b, .ge p97 (XL.of [.G p97 true p98 (.faddr 2 q4) .v, .o ⟨(some p99), (.l (.cell q98)), (some (p97, true)), []⟩ .b, .G p97 true p100 (.mov q99) .b, .ge p100 (XL.of [.G p100 true p101 (.faddr 7 q4) .v, .o ⟨(some p102), (.l (.cell q101)), (some (p100, true)), []⟩ .b, .G p97 true p103 (.pick q100 q102 (cb false)) .b]) p103 .b, .G p97 true p104 (.un .not q103) .b, .G p83 false p105 (.pick q97 q104 (cb false)) .b]) p105 .b, .P p106 (.pick q83 (cb true) q105) .b, .jn p83 [p0, p4, p6, p106, p108]] l54_4)
def l54_2 : XL := (XL.pre [.G p83 false p96 (.pick q87 q95 (cb false)) .b, .jn p87 [p0, p4, p6, p83, p96, p108]] l54_3)
def v54_1 : List Pos := [p0, p4, p6]
def c54_1 : XC := (.opq true (XL.pre [.fa p81 0 q4, .ld p82 q81 .b, .mv p83 q82 .b, .sp p83, .G p83 false p84 (.faddr 4 q4) .v, .o ⟨(some p85), (.l (.cell q84)), (some (p83, false)), []⟩ tI, .G p83 false p86 (.bin .neq q85 (ci 0)) .b, .G p83 false p87 (.mov q86) .b, .sp p87, .G p87 true p88 (.faddr 5 q4) .v, .o ⟨(some p89), (.l (.cell q88)), (some (p87, true)), []⟩ tI, .G p87 true p90 (.bin .eql q89 (ci 0)) .b, .G p87 true p91 (.mov q90) .b, .sp p91, .G p91 false p92 (.faddr 4 q4) .v, .o ⟨(some p93), (.l (.cell q92)), (some (p91, false)), []⟩ tI, .fa p107 16 q4, .ld p108 q107 tI, .o ⟨(some p94), (.call (.fn 82) [q93]), (some (p91, false)), [⟨none, .cell q107, p108⟩]⟩ .b, .G p87 true p95 (.pick q91 (cb true) q94) .b, .jn p91 [p0, p4, p6, p83, p87, p95, p108]] l54_2) c54_10)
def v54_12 : List Pos := [p0, p4, p6, p61, p62, p63]
def c54_12 : XC := (.s (.oX [.bn p80 .add q63 (ci 1) tI, .mv p63 q80 tI]))
def l54_13 : XL := (XL.of [.cl p79 55 [q76, (ci 14), q78] .v])
def v54_11 : List Pos := [p0, p4, p6, p61, p62, p63]
def c54_11b : XC := (.sO [.bn p64 .lss q63 q62 .b] (.seq (.cond q64 .skip (.exit 2)) (.sj v54_12 (.block 3 (.sO [.P p65 (.iaddr (.sl 17) q61 q63) .v, .L p66 (.cells 17 q65) .v, .al p12 (.new [(.bool false), (.bool false), (.bool false), (.str []), (kI 0), (kI 0), .nils, (.bool false), .nils, (kI 0), .nils, .nils, (.str []), (kI 0), (kI 0), (kI 0), (kI 0)]), .ss 17 q12 q66] (.ops true (XL.pre [.fa p67 3 q12, .ld p68 q67 .s, .fa p69 3 q4, .ld p70 q69 .s, .bn p71 .neq q68 q70 .b, .mv p72 q71 .b, .sp p72, .o ⟨(some p73), (.l (.cells 17 q12)), (some (p72, false)), []⟩ .v, .o ⟨(some p74), (.l (.cells 17 q4)), (some (p72, false)), []⟩ .v, .fa p77 16 q4, .ld p78 q77 tI, .o ⟨(some p75), (.call (.fn 81) [q73, q74]), (some (p72, false)), [⟨none, .cell q77, p78⟩]⟩ .b, .P p76 (.pick q72 (cb true) q75) .b, .jn p72 [p0, p4, p6, p61, p62, p63, p76, p78]] l54_13)))) c54_12)))
def v54_0 : List Pos := [p0, p2, p4, p6]
def c54_0 : XC := (.sj v54_1 (.sO [.mv p61 q2 .v, .P p62 (.lenl q61) tI, .mv p63 (ci 0) tI] (.block 2 (.loop v54_11 c54_11b))) c54_1)
def v54_15 : List Pos := [p0, p2, p4, p6, p30, p31, p32]
def c54_15 : XC := (.s (.oX [.bn p60 .add q32 (ci 1) tI, .mv p32 q60 tI]))
def l54_18 : XL := (XL.of [.cl p59 55 [q56, (ci 13), q58] .v])
def l54_17 : XL := (XL.pre [.P p56 (.pick q41 (cb true) q55) .b, .jn p41 [p0, p2, p4, p6, p30, p31, p32, p56, p58]] l54_18)
def l54_16 : XL := (XL.pre [.G p47 true p54 (.un .not q53) .b, .G p41 false p55 (.pick q47 q54 (cb false)) .b, .jn p47 [p0, p2, p4, p6, p30, p31, p32, p41, p55, p58]] l54_17)
def v54_14 : List Pos := [p0, p2, p4, p6, p30, p31, p32]
def c54_14b : XC := (.sO [.bn p33 .lss q32 q31 .b] (.seq (.cond q33 .skip (.exit 0)) (.sj v54_15 (.block 1 (.sO [.P p34 (.iaddr (.sl 17) q30 q32) .v, .L p35 (.cells 17 q34) .v, .al p10 (.new [(.bool false), (.bool false), (.bool false), (.str []), (kI 0), (kI 0), .nils, (.bool false), .nils, (kI 0), .nils, .nils, (.str []), (kI 0), (kI 0), (kI 0), (kI 0)]), .ss 17 q10 q35] (.ops true (XL.pre [.fa p36 3 q10, .ld p37 q36 .s, .fa p38 3 q4, .ld p39 q38 .s, .bn p40 .neq q37 q39 .b, .mv p41 q40 .b, .sp p41, .G p41 false p42 (.faddr 0 q10) .v, .o ⟨(some p43), (.l (.cell q42)), (some (p41, false)), []⟩ .b, .G p41 false p44 (.faddr 0 q4) .v, .o ⟨(some p45), (.l (.cell q44)), (some (p41, false)), []⟩ .b, .G p41 false p46 (.eqb false q43 q45) .b, .G p41 false p47 (.mov q46) .b, .sp p47, .o ⟨(some p48), (.l (.cells 17 q10)), (some (p47, true)), []⟩ .v, .fa p57 16 q4, .ld p58 q57 tI, .o ⟨(some p49), (.call (.fn 80) [q48]), (some (p47, true)), [⟨none, .cell q57, p58⟩]⟩ .b, .G p47 true p50 (.mov q49) .b, .sp p50, .o ⟨(some p51), (.l (.cells 17 q4)), (some (p50, true)), []⟩ .v, .o ⟨(some p52), (.call (.fn 80) [q51]), (some (p50, true)), [⟨none, .cell q57, p58⟩]⟩ .b, .G p47 true p53 (.pick q50 q52 (cb false)) .b, .jn p50 [p0, p2, p4, p6, p30, p31, p32, p41, p47, p53, p58]] l54_16)))) c54_15)))
def c54_e : XC := (.sO [.al p4 (.box q1), .al p6 (.new [(.bool false), (.bool false), (.bool false), (.str []), (kI 0), (kI 0), .nils, (.bool false), .nils, (kI 0), .nils, .nils, (.str []), (kI 0), (kI 0), (kI 0), (kI 0)])] (.seq (.ops true (XL.of [.fa p20 3 q4, .ld p21 q20 .s, .al p7 (.new [(.bool false), (.bool false), (.bool false), (.str []), (kI 0), (kI 0), .nils, (.bool false), .nils, (kI 0), .nils, .nils, (.str []), (kI 0), (kI 0), (kI 0), (kI 0), (.str [])]), .o ⟨(some p19), (.call (.fn 53) []), none, [⟨none, .cell q20, p21⟩]⟩ .v, .L p22 (.look .str (.agg [(.bool false), (.bool false), (.bool false), (.str []), (kI 0), (kI 0), .nils, (.bool false), .nils, (kI 0), .nils, .nils, (.str []), (kI 0), (kI 0), (kI 0), (kI 0), (.str [])]) true q19 q21) .v, .mv p18 q22 .v, .P p23 (.ext q18 0) .v, .P p24 (.ext q18 1) .b, .ss 18 q7 q23, .mv p8 q24 .b])) (.sO [.mv p25 q8 .b, .P p26 (.un .not q25) .b, .fa p27 16 q4, .ld p28 q27 tI, .cl p29 55 [q26, (ci 13), q28] .v] (.sj v54_0 (.sO [.mv p30 q2 .v, .P p31 (.lenl q30) tI, .mv p32 (ci 0) tI] (.block 0 (.loop v54_14 c54_14b))) c54_0))))
def x54 : XFn := ⟨[.v, .v, .v], false, [(.cells 17 p6)], c54_e⟩
def e54_7 (k t0 t4 t6 h) := kN k [(p0, t0), (p4, t4), (p6, t6)] h
def S54_7 (D : CallD) (m : Nat) (t0 t4 t6 : AV) (h : HP) : Res2 :=
 nilckC t0 fun t278 =>
 faC 0 t278 fun t279 =>
 cellC t279 h fun t280 =>
 obQ (evP (.slice (.sl 1) (.c t280) none (some (.c (vI (Int.ofNat 2)))) none) .leaf) fun t281 =>
 nilckC t0 fun t282 =>
 faC 0 t282 fun t283 =>
 stoC t283 t281 h fun h40 =>
 cellsC 17 t4 h40 fun t284 =>
 stsC 17 t6 t284 h40 fun h41 =>
 cellsC 17 t6 h41 fun t6a =>
 some (.ret t6a h41, .no)
def e54_6 (k t0 t4 t6 h) := kN k [(p0, t0), (p4, t4), (p6, t6)] h
def S54_6 (D : CallD) (m : Nat) (t0 t4 t6 : AV) (h : HP) : Res2 :=
 faC 0 t4 fun t263 =>
 ldB t263 h fun t264 =>
 obB (brV t264 (
 faCV 7 t4 fun t266 =>
 ldBV t266 h fun t267 =>
 some (vB t267)) (
 some (vB false))) fun t268 =>
 br t268 (
 faC 9 t4 fun t270 =>
 faC 2 t270 fun t271 =>
 cellC t271 h fun t272 =>
 cal D 87 [t0, t272] h fun t273 h42 =>
 faC 9 t4 fun t274 =>
 faC 2 t274 fun t275 =>
 stoC t275 t273 h42 fun h43 =>
 S54_7 D m t0 t4 t6 h43) (
 S54_7 D m t0 t4 t6 h)
def e54_8 (k t0 t4 t6 t223 t224 h) := kN k [(p0, t0), (p4, t4), (p6, t6), (p223, (vI t223)), (p224, (vI t224))] h
def S54_8b (D : CallD) (m : Nat) (g8 : AV → AV → AV → Int → Int → HP → Res2) (t0 t4 t6 : AV) (t223 t224 : Int) (h : HP) : Res2 :=
 let t225 := ltQ t224 t223
 br t225 (
 faC 6 t4 fun t227 =>
 cellC t227 h fun t228 =>
 faC 6 t4 fun t231 =>
 cellC t231 h fun t232 =>
 iasC 8 t232 (vI t224) fun t234 =>
 cellsC 8 t234 h fun t235 =>
 faC 4 t4 fun t236 =>
 ldI t236 h fun t237 =>
 faC 6 t4 fun t238 =>
 cellC t238 h fun t239 =>
 iasC 8 t239 (vI t224) fun t241 =>
 faC 7 t241 fun t242 =>
 ldI t242 h fun t243 =>
 cal D 86 [t0, t235, (vI t237), (vI t243)] h fun t244 h44 =>
 br (again [⟨none, .cell q227, p228⟩] (mkT [(p228, t228), (p227, t227)]) h44) (
 iasC 8 t228 (vI t224) fun t245 =>
 stsC 8 t245 t244 h44 fun h45 =>
 faC 5 t4 fun t246 =>
 ldI t246 h45 fun t247 =>
 let t248 := eqQ t247 (Int.ofNat 0)
 obB (brV t248 (
 some (vB true)) (
 faCV 5 t4 fun t251 =>
 ldIV t251 h45 fun t252 =>
 let t253 := ltQ t224 t252
 some (vB t253))) fun t254 =>
 faC 6 t4 fun t255 =>
 cellC t255 h45 fun t256 =>
 iasC 8 t256 (vI t224) fun t258 =>
 faC 7 t258 fun t259 =>
 ldI t259 h45 fun t260 =>
 cal D 55 [(vB t254), (vI (Int.ofNat 1)), (vI t260)] h45 fun t261 h46 =>
 let t262 := wrQ .i64 (addQ t224 (Int.ofNat 1))
 g8 t0 t4 t6 t223 t262 h46) none) (
 S54_6 D m t0 t4 t6 h)
def S54_8 (D : CallD) (m : Nat) : AV → AV → AV → Int → Int → HP → Res2 := nrec (fun _ _ _ _ _ _ => none) (fun _ g => S54_8b D m g) m
def e54_5 (k t0 t4 t6 h) := kN k [(p0, t0), (p4, t4), (p6, t6)] h
def S54_5 (D : CallD) (m : Nat) (t0 t4 t6 : AV) (h : HP) : Res2 :=
 faC 6 t4 fun t217 =>
 cellC t217 h fun t218 =>
 cal D 85 [t218] h fun t219 h38 =>
 faC 6 t4 fun t220 =>
 stoC t220 t219 h38 fun h39 =>
 faC 6 t4 fun t221 =>
 cellC t221 h39 fun t222 =>
 lenC t222 fun vt223 => asI .i64 vt223 fun t223 =>
 S54_8 D m t0 t4 t6 t223 (Int.ofNat 0) h39
def e54_9 (k t0 t4 t6 t174 t175 t176 h) := kN k [(p0, t0), (p4, t4), (p6, t6), (p174, t174), (p175, (vI t175)), (p176, (vI t176))] h
def S54_9b (D : CallD) (m : Nat) (g9 : AV → AV → AV → AV → Int → Int → HP → Res2) (t0 t4 t6 t174 : AV) (t175 t176 : Int) (h : HP) : Res2 :=
 let t177 := ltQ t176 t175
 br t177 (
 iasC 3 t174 (vI t176) fun t179 =>
 cellsC 3 t179 h fun t180 =>
 let t14 := AV.ptr (HP.nxQ h) 0
 let h47 := HP.newQ h (.cells true [(.str []), (kI 0), (kI 0)])
 stsC 3 t14 t180 h47 fun h48 =>
 let t181 := (AV.ptr (HP.nxQ h) (Nat.add 0 1))
 ldI t181 h48 fun t182 =>
 let t183 := notQ (eqQ t182 (Int.ofNat 0))
 let t184 := (AV.ptr (HP.nxQ h) (Nat.add 0 2))
 ldI t184 h48 fun t185 =>
 cal D 55 [(vB t183), (vI (Int.ofNat 14)), (vI t185)] h48 fun t186 h49 =>
 nilckC t0 fun t189 =>
 faC 0 t189 fun t190 =>
 cellC t190 h49 fun t191 =>
 iasC 1 t191 (vI (Int.ofNat 2)) fun t192 =>
 cellC t192 h49 fun t193 =>
 let t194 := (AV.ptr (HP.nxQ h) (Nat.add 0 0))
 ldS t194 h49 fun t195 =>
 obQ (evL (.look .str (.agg [(.bool false), (.bool false), (.bool false), (.str []), (kI 0), (kI 0), .nils, (.bool false), .nils, (kI 0), .nils, .nils, (.str []), (kI 0), (kI 0), (kI 0), (kI 0), (.str [])]) true (.c t193) (.c (vS t195))) .leaf h49) fun t196 =>
 extC t196 0 fun t197 =>
 extC t196 1 fun vt198 => asB vt198 fun t198 =>
 let t15 := AV.ptr (HP.nxQ h49) 0
 let h50 := HP.newQ h49 (.cells true [(.bool false), (.bool false), (.bool false), (.str []), (kI 0), (kI 0), .nils, (.bool false), .nils, (kI 0), .nils, .nils, (.str []), (kI 0), (kI 0), (kI 0), (kI 0), (.str [])])
 stsC 18 t15 t197 h50 fun h51 =>
 let t200 := !t198
 let t201 := (AV.ptr (HP.nxQ h) (Nat.add 0 2))
 ldI t201 h51 fun t202 =>
 cal D 55 [(vB t200), (vI (Int.ofNat 13)), (vI t202)] h51 fun t203 h52 =>
 faC 8 t4 fun t204 =>
 cellC t204 h52 fun t205 =>
 let t208 := (AV.ptr (HP.nxQ h) (Nat.add 0 0))
 ldS t208 h52 fun t209 =>
 let t210 := (AV.ptr (HP.nxQ h) (Nat.add 0 1))
 ldI t210 h52 fun t211 =>
 let t212 := (AV.agg [(vB false), (vB false), (vB false), (vS t209), (vI t211), (vI (Int.ofNat 0)), (.nils : AV), (vB false), (.nils : AV), (vI (Int.ofNat 0)), (.nils : AV), (.nils : AV), (vS ([] : LN)), (vI (Int.ofNat 0)), (vI (Int.ofNat 0)), (vI (Int.ofNat 0)), (vI (Int.ofNat 0))])
 cal D 84 [t0, t212] h52 fun t213 h53 =>
 br (again [⟨none, .cell q204, p205⟩] (mkT [(p205, t205), (p204, t204)]) h53) (
 asS t213 fun t213a =>
 iasC 3 t205 (vI t176) fun t214 =>
 faC 0 t214 fun t215 =>
 stoC t215 (vS t213a) h53 fun h54 =>
 let t216 := wrQ .i64 (addQ t176 (Int.ofNat 1))
 g9 t0 t4 t6 t174 t175 t216 h54) none) (
 S54_5 D m t0 t4 t6 h)
def S54_9 (D : CallD) (m : Nat) : AV → AV → AV → AV → Int → Int → HP → Res2 := nrec (fun _ _ _ _ _ _ _ => none) (fun _ g => S54_9b D m g) m
def e54_4 (k t0 t4 t6 t106 t108 h) := kN k [(p0, t0), (p4, t4), (p6, t6), (p106, (vB t106)), (p108, (vI t108))] h
def S54_4 (D : CallD) (m : Nat) (t0 t4 t6 : AV) (t106 : Bool) (t108 : Int) (h : HP) : Res2 :=
 cal D 55 [(vB t106), (vI (Int.ofNat 14)), (vI t108)] h fun t109 h26 =>
 faC 3 t4 fun t110 =>
 ldS t110 h26 fun t111 =>
 let t112 := !(eqL t111 ([109, 97, 105, 110] : LN))
 obB (brV t112 (
 some (vB true)) (
 faCV 0 t4 fun t114 =>
 ldBV t114 h26 fun t115 =>
 obBV (brV t115 (
 faCV 1 t4 fun t117 =>
 ldBV t117 h26 fun t118 =>
 let t119 := !t118
 some (vB t119)) (
 some (vB false))) fun t120 =>
 obBV (brV t120 (
 faCV 4 t4 fun t122 =>
 ldIV t122 h26 fun t123 =>
 let t124 := eqQ t123 (Int.ofNat 1)
 some (vB t124)) (
 some (vB false))) fun t125 =>
 obBV (brV t125 (
 faCV 8 t4 fun t127 =>
 cellCV t127 h26 fun t128 =>
 lenCV t128 fun vt129 => asIV .i64 vt129 fun t129 =>
 let t130 := eqQ t129 (Int.ofNat 0)
 some (vB t130)) (
 some (vB false))) fun t131 =>
 some (vB t131))) fun t132 =>
 faC 16 t4 fun t133 =>
 ldI t133 h26 fun t134 =>
 cal D 55 [(vB t132), (vI (Int.ofNat 14)), (vI t134)] h26 fun t135 h27 =>
 nilckC t0 fun t137 =>
 faC 0 t137 fun t138 =>
 cellC t138 h27 fun t139 =>
 iasC 1 t139 (vI (Int.ofNat 1)) fun t140 =>
 cellC t140 h27 fun t141 =>
 faC 3 t4 fun t142 =>
 ldS t142 h27 fun t143 =>
 cellsC 17 t4 h27 fun t144 =>
 faC 3 t4 fun t145 =>
 ldS t145 h27 fun t146 =>
 obQ (evP (.build [(.bool false), (.bool false), (.bool false), (.str []), (kI 0), (kI 0), .nils, (.bool false), .nils, (kI 0), .nils, .nils, (.str []), (kI 0), (kI 0), (kI 0), (kI 0), (.str [])] [⟨0, 17, (.c t144)⟩, ⟨17, 1, (.c (vS t146))⟩]) .leaf) fun t147 =>
 eff (.mset .str (.c t141) (.c (vS t143)) (.c t147)) h27 fun t0a h28 =>
 nilckC t0 fun t150 =>
 faC 0 t150 fun t151 =>
 cellC t151 h28 fun t152 =>
 let t153 := AV.map (HP.nxQ h28)
 let h29 := HP.newQ h28 (.map [] 0)
 let t154 := AV.slice (HP.nxQ h29) 0 1 (.exact 1)
 let h30 := HP.newQ h29 (.cells true [t153])
 eff (.app 1 8 (.c t152) (.c t154)) h30 fun t155 h31 =>
 nilckC t0 fun t156 =>
 faC 0 t156 fun t157 =>
 stoC t157 t155 h31 fun h32 =>
 faC 4 t4 fun t161 =>
 ldI t161 h32 fun t162 =>
 nilckC t0 fun t163 =>
 faC 1 t163 fun t164 =>
 stoC t164 (vI t162) h32 fun h33 =>
 nilckC t0 fun t165 =>
 faC 2 t165 fun t166 =>
 stoC t166 (vI (Int.ofNat 0)) h33 fun h34 =>
 nilckC t0 fun t167 =>
 faC 3 t167 fun t168 =>
 stoC t168 (vI (Int.ofNat 0)) h34 fun h35 =>
 faC 8 t4 fun t169 =>
 cellC t169 h35 fun t170 =>
 cal D 83 [t170] h35 fun t171 h36 =>
 faC 8 t4 fun t172 =>
 stoC t172 t171 h36 fun h37 =>
 faC 8 t4 fun t173 =>
 cellC t173 h37 fun t174 =>
 lenC t174 fun vt175 => asI .i64 vt175 fun t175 =>
 S54_9 D m t0 t4 t6 t174 t175 (Int.ofNat 0) h37
def e54_3 (k t0 t4 t6 t96 t108 h) := kN k [(p0, t0), (p4, t4), (p6, t6), (p83, .bool false), (p96, (vB t96)), (p108, (vI t108))] h
def S54_3 (D : CallD) (m : Nat) (t0 t4 t6 : AV) (t96 : Bool) (t108 : Int) (h : HP) : Res2 :=
 obB (brV t96 (
 faCV 2 t4 fun t98 =>
 ldBV t98 h fun t99 =>
 obBV (brV t99 (
 faCV 7 t4 fun t101 =>
 ldBV t101 h fun t102 =>
 some (vB t102)) (
 some (vB false))) fun t103 =>
 let t104 := !t103
 some (vB t104)) (
 some (vB false))) fun t105 =>
 S54_4 D m t0 t4 t6 t105 t108 h
def e54_2 (k t0 t4 t6 t87 t95 t108 h) := kN k [(p0, t0), (p4, t4), (p6, t6), (p83, .bool false), (p87, (vB t87)), (p95, (vB t95)), (p108, (vI t108))] h
def S54_2 (D : CallD) (m : Nat) (t0 t4 t6 : AV) (t87 t95 : Bool) (t108 : Int) (h : HP) : Res2 :=
 obB (brV t87 (some (vB t95)) (some (vB false))) fun t96 =>
 S54_3 D m t0 t4 t6 t96 t108 h
def e54_1 (k t0 t4 t6 h) := kN k [(p0, t0), (p4, t4), (p6, t6)] h
def S54_1 (D : CallD) (m : Nat) (t0 t4 t6 : AV) (h : HP) : Res2 :=
 faC 0 t4 fun t81 =>
 ldB t81 h fun t82 =>
 br t82 (
 faC 16 t4 fun t107 =>
 ldI t107 h fun t108 =>
 S54_4 D m t0 t4 t6 true t108 h) (
 faC 4 t4 fun t84 =>
 ldI t84 h fun t85 =>
 let t86 := notQ (eqQ t85 (Int.ofNat 0))
 br t86 (
 faC 5 t4 fun t88 =>
 ldI t88 h fun t89 =>
 let t90 := eqQ t89 (Int.ofNat 0)
 br t90 (
 faC 16 t4 fun t107 =>
 ldI t107 h fun t108 =>
 S54_2 D m t0 t4 t6 true true t108 h) (
 faC 4 t4 fun t92 =>
 ldI t92 h fun t93 =>
 faC 16 t4 fun t107 =>
 ldI t107 h fun t108 =>
 cal D 82 [(vI t93)] h fun t94 h55 =>
 br (again [⟨none, .cell q107, p108⟩] (mkT [(p108, (vI t108)), (p107, t107)]) h55) (
 asB t94 fun t94a =>
 S54_2 D m t0 t4 t6 true t94a t108 h55) none)) (
 faC 16 t4 fun t107 =>
 ldI t107 h fun t108 =>
 S54_3 D m t0 t4 t6 false t108 h))
def e54_12 (k t0 t4 t6 t61 t62 t63 h) := kN k [(p0, t0), (p4, t4), (p6, t6), (p61, t61), (p62, (vI t62)), (p63, (vI t63))] h
def S54_12 (D : CallD) (m : Nat) (g11 : AV → AV → AV → AV → Int → Int → HP → Res2) (t0 t4 t6 t61 : AV) (t62 t63 : Int) (h : HP) : Res2 :=
 let t80 := wrQ .i64 (addQ t63 (Int.ofNat 1))
 g11 t0 t4 t6 t61 t62 t80 h
def e54_13 (k t0 t4 t6 t61 t62 t63 t76 t78 h) := kN k [(p0, t0), (p4, t4), (p6, t6), (p61, t61), (p62, (vI t62)), (p63, (vI t63)), (p76, (vB t76)), (p78, (vI t78))] h
def S54_13 (D : CallD) (m : Nat) (g11 : AV → AV → AV → AV → Int → Int → HP → Res2) (t0 t4 t6 t61 : AV) (t62 t63 : Int) (t76 : Bool) (t78 : Int) (h : HP) : Res2 :=
 cal D 55 [(vB t76), (vI (Int.ofNat 14)), (vI t78)] h fun t79 h58 =>
 S54_12 D m g11 t0 t4 t6 t61 t62 t63 h58
def e54_11 (k t0 t4 t6 t61 t62 t63 h) := kN k [(p0, t0), (p4, t4), (p6, t6), (p61, t61), (p62, (vI t62)), (p63, (vI t63))] h
def S54_11b (D : CallD) (m : Nat) (g11 : AV → AV → AV → AV → Int → Int → HP → Res2) (t0 t4 t6 t61 : AV) (t62 t63 : Int) (h : HP) : Res2 :=
 let t64 := ltQ t63 t62
 br t64 (
 iasC 17 t61 (vI t63) fun t65 =>
 cellsC 17 t65 h fun t66 =>
 let t12 := AV.ptr (HP.nxQ h) 0
 let h56 := HP.newQ h (.cells true [(.bool false), (.bool false), (.bool false), (.str []), (kI 0), (kI 0), .nils, (.bool false), .nils, (kI 0), .nils, .nils, (.str []), (kI 0), (kI 0), (kI 0), (kI 0)])
 stsC 17 t12 t66 h56 fun h57 =>
 let t67 := (AV.ptr (HP.nxQ h) (Nat.add 0 3))
 ldS t67 h57 fun t68 =>
 faC 3 t4 fun t69 =>
 ldS t69 h57 fun t70 =>
 let t71 := !(eqL t68 t70)
 br t71 (
 faC 16 t4 fun t77 =>
 ldI t77 h57 fun t78 =>
 S54_13 D m g11 t0 t4 t6 t61 t62 t63 true t78 h57) (
 cellsC 17 t12 h57 fun t73 =>
 cellsC 17 t4 h57 fun t74 =>
 faC 16 t4 fun t77 =>
 ldI t77 h57 fun t78 =>
 cal D 81 [t73, t74] h57 fun t75 h59 =>
 br (again [⟨none, .cell q77, p78⟩] (mkT [(p78, (vI t78)), (p77, t77)]) h59) (
 asB t75 fun t75a =>
 S54_13 D m g11 t0 t4 t6 t61 t62 t63 t75a t78 h59) none)) (
 S54_1 D m t0 t4 t6 h)
def S54_11 (D : CallD) (m : Nat) : AV → AV → AV → AV → Int → Int → HP → Res2 := nrec (fun _ _ _ _ _ _ _ => none) (fun _ g => S54_11b D m g) m
def e54_0 (k t0 t2 t4 t6 h) := kN k [(p0, t0), (p2, t2), (p4, t4), (p6, t6)] h
def S54_0 (D : CallD) (m : Nat) (t0 t2 t4 t6 : AV) (h : HP) : Res2 :=
 lenC t2 fun vt62 => asI .i64 vt62 fun t62 =>
 S54_11 D m t0 t4 t6 t2 t62 (Int.ofNat 0) h
def e54_15 (k t0 t2 t4 t6 t30 t31 t32 h) := kN k [(p0, t0), (p2, t2), (p4, t4), (p6, t6), (p30, t30), (p31, (vI t31)), (p32, (vI t32))] h
def S54_15 (D : CallD) (m : Nat) (g14 : AV → AV → AV → AV → AV → Int → Int → HP → Res2) (t0 t2 t4 t6 t30 : AV) (t31 t32 : Int) (h : HP) : Res2 :=
 let t60 := wrQ .i64 (addQ t32 (Int.ofNat 1))
 g14 t0 t2 t4 t6 t30 t31 t60 h
def e54_18 (k t0 t2 t4 t6 t30 t31 t32 t56 t58 h) := kN k [(p0, t0), (p2, t2), (p4, t4), (p6, t6), (p30, t30), (p31, (vI t31)), (p32, (vI t32)), (p56, (vB t56)), (p58, (vI t58))] h
def S54_18 (D : CallD) (m : Nat) (g14 : AV → AV → AV → AV → AV → Int → Int → HP → Res2) (t0 t2 t4 t6 t30 : AV) (t31 t32 : Int) (t56 : Bool) (t58 : Int) (h : HP) : Res2 :=
 cal D 55 [(vB t56), (vI (Int.ofNat 13)), (vI t58)] h fun t59 h62 =>
 S54_15 D m g14 t0 t2 t4 t6 t30 t31 t32 h62
def e54_17 (k t0 t2 t4 t6 t30 t31 t32 t41 t55 t58 h) := kN k [(p0, t0), (p2, t2), (p4, t4), (p6, t6), (p30, t30), (p31, (vI t31)), (p32, (vI t32)), (p41, (vB t41)), (p55, (vB t55)), (p58, (vI t58))] h
def S54_17 (D : CallD) (m : Nat) (g14 : AV → AV → AV → AV → AV → Int → Int → HP → Res2) (t0 t2 t4 t6 t30 : AV) (t31 t32 : Int) (t41 t55 : Bool) (t58 : Int) (h : HP) : Res2 :=
 obB (brV t41 (some (vB true)) (some (vB t55))) fun t56 =>
 S54_18 D m g14 t0 t2 t4 t6 t30 t31 t32 t56 t58 h
def e54_16 (k t0 t2 t4 t6 t30 t31 t32 t53 t58 h) := kN k [(p0, t0), (p2, t2), (p4, t4), (p6, t6), (p30, t30), (p31, (vI t31)), (p32, (vI t32)), (p41, .bool false), (p47, .bool true), (p53, (vB t53)), (p58, (vI t58))] h
def S54_16 (D : CallD) (m : Nat) (g14 : AV → AV → AV → AV → AV → Int → Int → HP → Res2) (t0 t2 t4 t6 t30 : AV) (t31 t32 : Int) (t53 : Bool) (t58 : Int) (h : HP) : Res2 :=
 let t54 := !t53
 S54_17 D m g14 t0 t2 t4 t6 t30 t31 t32 false t54 t58 h
def e54_14 (k t0 t2 t4 t6 t30 t31 t32 h) := kN k [(p0, t0), (p2, t2), (p4, t4), (p6, t6), (p30, t30), (p31, (vI t31)), (p32, (vI t32))] h
def S54_14b (D : CallD) (m : Nat) (g14 : AV → AV → AV → AV → AV → Int → Int → HP → Res2) (t0 t2 t4 t6 t30 : AV) (t31 t32 : Int) (h : HP) : Res2 :=
 let t33 := ltQ t32 t31
 br t33 (
 iasC 17 t30 (vI t32) fun t34 =>
 cellsC 17 t34 h fun t35 =>
 let t10 := AV.ptr (HP.nxQ h) 0
 let h60 := HP.newQ h (.cells true [(.bool false), (.bool false), (.bool false), (.str []), (kI 0), (kI 0), .nils, (.bool false), .nils, (kI 0), .nils, .nils, (.str []), (kI 0), (kI 0), (kI 0), (kI 0)])
 stsC 17 t10 t35 h60 fun h61 =>
 let t36 := (AV.ptr (HP.nxQ h) (Nat.add 0 3))
 ldS t36 h61 fun t37 =>
 faC 3 t4 fun t38 =>
 ldS t38 h61 fun t39 =>
 let t40 := !(eqL t37 t39)
 br t40 (
 faC 16 t4 fun t57 =>
 ldI t57 h61 fun t58 =>
 S54_18 D m g14 t0 t2 t4 t6 t30 t31 t32 true t58 h61) (
 let t42 := (AV.ptr (HP.nxQ h) (Nat.add 0 0))
 ldB t42 h61 fun t43 =>
 faC 0 t4 fun t44 =>
 ldB t44 h61 fun t45 =>
 let t46 := ((t43 == t45) != false)
 br t46 (
 cellsC 17 t10 h61 fun t48 =>
 faC 16 t4 fun t57 =>
 ldI t57 h61 fun t58 =>
 cal D 80 [t48] h61 fun t49 h63 =>
 br (again [⟨none, .cell q57, p58⟩] (mkT [(p58, (vI t58)), (p57, t57)]) h63) (
 asB t49 fun t49a =>
 br t49a (
 cellsC 17 t4 h63 fun t51 =>
 cal D 80 [t51] h63 fun t52 h64 =>
 br (again [⟨none, .cell q57, p58⟩] (mkT [(p58, (vI t58)), (p57, t57)]) h64) (
 asB t52 fun t52a =>
 S54_16 D m g14 t0 t2 t4 t6 t30 t31 t32 t52a t58 h64) none) (
 S54_16 D m g14 t0 t2 t4 t6 t30 t31 t32 false t58 h63)) none) (
 faC 16 t4 fun t57 =>
 ldI t57 h61 fun t58 =>
 S54_17 D m g14 t0 t2 t4 t6 t30 t31 t32 false false t58 h61))) (
 S54_0 D m t0 t2 t4 t6 h)
def S54_14 (D : CallD) (m : Nat) : AV → AV → AV → AV → AV → Int → Int → HP → Res2 := nrec (fun _ _ _ _ _ _ _ _ => none) (fun _ g => S54_14b D m g) m
def e54_19 (k t0 t1 t2 h) := kN k [(p0, t0), (p1, t1), (p2, t2)] h
def S54_19 (D : CallD) (m : Nat) (t0 t1 t2 : AV) (h : HP) : Res2 :=
 let t4 := AV.ptr (HP.nxQ h) 0
 let h20 := HP.newQ h (.cells true (AV.cells t1))
 let t6 := AV.ptr (HP.nxQ h20) 0
 let h21 := HP.newQ h20 (.cells true [(.bool false), (.bool false), (.bool false), (.str []), (kI 0), (kI 0), .nils, (.bool false), .nils, (kI 0), .nils, .nils, (.str []), (kI 0), (kI 0), (kI 0), (kI 0)])
 let t20 := (AV.ptr (HP.nxQ h) (Nat.add 0 3))
 ldS t20 h21 fun t21 =>
 let t7 := AV.ptr (HP.nxQ h21) 0
 let h22 := HP.newQ h21 (.cells true [(.bool false), (.bool false), (.bool false), (.str []), (kI 0), (kI 0), .nils, (.bool false), .nils, (kI 0), .nils, .nils, (.str []), (kI 0), (kI 0), (kI 0), (kI 0), (.str [])])
 cal D 53 [] h22 fun t19 h23 =>
 br (again [⟨none, .cell q20, p21⟩] (mkT [(p21, (vS t21)), (p20, t20)]) h23) (
 obQ (evL (.look .str (.agg [(.bool false), (.bool false), (.bool false), (.str []), (kI 0), (kI 0), .nils, (.bool false), .nils, (kI 0), .nils, .nils, (.str []), (kI 0), (kI 0), (kI 0), (kI 0), (.str [])]) true (.c t19) (.c (vS t21))) .leaf h23) fun t22 =>
 extC t22 0 fun t23 =>
 extC t22 1 fun vt24 => asB vt24 fun t24 =>
 stsC 18 t7 t23 h23 fun h24 =>
 let t26 := !t24
 let t27 := (AV.ptr (HP.nxQ h) (Nat.add 0 16))
 ldI t27 h24 fun t28 =>
 cal D 55 [(vB t26), (vI (Int.ofNat 13)), (vI t28)] h24 fun t29 h25 =>
 lenC t2 fun vt31 => asI .i64 vt31 fun t31 =>
 S54_14 D m t0 t2 t4 t6 t2 t31 (Int.ofNat 0) h25) none
def S54 : SFn := fun D m args h u => nou u <| popV args fun t0 args => popV args fun t1 args => popV args fun t2 args => endA args (S54_19 D m t0 t1 t2 h)
theorem T54_7 (hE : FX x54 D m E) : S54_7 D m = e54_7 (E c54_7 []) := by unfold S54_7; rw [hE c54_7]; kernel_rfl
theorem T54_6 (hE : FX x54 D m E) : S54_6 D m = e54_6 (E c54_6 []) := by unfold S54_6; rw [T54_7 hE, hE c54_6]; kernel_rfl
theorem T54_8b (hE : FX x54 D m E) (G8) : S54_8b D m (e54_8 G8) = e54_8 (E c54_8b [.lp v54_8 G8, .blk 6, .sj v54_6 c54_6]) := by unfold S54_8b; rw [T54_6 hE, hE c54_8b]; kernel_rfl
theorem T54_8 (hE : FX x54 D m E) : S54_8 D m = e54_8 (nrec (fun _ => none) (fun _ G8 st => E c54_8b [.lp v54_8 G8, .blk 6, .sj v54_6 c54_6] st) m) :=
  nrec_emb e54_8 (fun _ _ _ _ _ _ => none) (fun g => S54_8b D m g) (fun G8 st => E c54_8b [.lp v54_8 G8, .blk 6, .sj v54_6 c54_6] st) rfl (fun g => T54_8b hE g) m
theorem T54_5 (hE : FX x54 D m E) : S54_5 D m = e54_5 (E c54_5 []) := by unfold S54_5; rw [T54_8 hE, hE c54_5]; kernel_rfl
theorem T54_9b (hE : FX x54 D m E) (G9) : S54_9b D m (e54_9 G9) = e54_9 (E c54_9b [.lp v54_9 G9, .blk 4, .sj v54_5 c54_5]) := by unfold S54_9b; rw [T54_5 hE, hE c54_9b]; kernel_rfl
theorem T54_9 (hE : FX x54 D m E) : S54_9 D m = e54_9 (nrec (fun _ => none) (fun _ G9 st => E c54_9b [.lp v54_9 G9, .blk 4, .sj v54_5 c54_5] st) m) :=
  nrec_emb e54_9 (fun _ _ _ _ _ _ _ => none) (fun g => S54_9b D m g) (fun G9 st => E c54_9b [.lp v54_9 G9, .blk 4, .sj v54_5 c54_5] st) rfl (fun g => T54_9b hE g) m
theorem T54_4 (hE : FX x54 D m E) : S54_4 D m = e54_4 (E (.opq true l54_4 c54_10) []) := by unfold S54_4; rw [T54_9 hE, hE (.opq true l54_4 c54_10)]; kernel_rfl
theorem T54_3 (hE : FX x54 D m E) : S54_3 D m = e54_3 (E (.opq true l54_3 c54_10) []) := by unfold S54_3; rw [T54_4 hE, hE (.opq true l54_3 c54_10)]; kernel_rfl
theorem T54_2 (hE : FX x54 D m E) : S54_2 D m = e54_2 (E (.opq true l54_2 c54_10) []) := by unfold S54_2; rw [T54_3 hE, hE (.opq true l54_2 c54_10)]; kernel_rfl
theorem T54_1 (hE : FX x54 D m E) : S54_1 D m = e54_1 (E c54_1 []) := by unfold S54_1; rw [T54_4 hE, T54_2 hE, T54_3 hE, hE c54_1]; kernel_rfl
theorem T54_12 (hE : FX x54 D m E) (G11) : S54_12 D m (e54_11 G11) = e54_12 (E c54_12 [.lp v54_11 G11, .blk 2, .sj v54_1 c54_1]) := by unfold S54_12; rw [hE c54_12]; kernel_rfl
theorem T54_13 (hE : FX x54 D m E) (G11) : S54_13 D m (e54_11 G11) = e54_13 (E (.ops true l54_13) [.blk 3, .sj v54_12 c54_12, .lp v54_11 G11, .blk 2, .sj v54_1 c54_1]) := by unfold S54_13; rw [T54_12 hE G11, hE (.ops true l54_13)]; kernel_rfl
theorem T54_11b (hE : FX x54 D m E) (G11) : S54_11b D m (e54_11 G11) = e54_11 (E c54_11b [.lp v54_11 G11, .blk 2, .sj v54_1 c54_1]) := by unfold S54_11b; rw [T54_13 hE G11, T54_1 hE, hE c54_11b]; kernel_rfl
theorem T54_11 (hE : FX x54 D m E) : S54_11 D m = e54_11 (nrec (fun _ => none) (fun _ G11 st => E c54_11b [.lp v54_11 G11, .blk 2, .sj v54_1 c54_1] st) m) :=
  nrec_emb e54_11 (fun _ _ _ _ _ _ _ => none) (fun g => S54_11b D m g) (fun G11 st => E c54_11b [.lp v54_11 G11, .blk 2, .sj v54_1 c54_1] st) rfl (fun g => T54_11b hE g) m
theorem T54_0 (hE : FX x54 D m E) : S54_0 D m = e54_0 (E c54_0 []) := by unfold S54_0; rw [T54_11 hE, hE c54_0]; kernel_rfl
theorem T54_15 (hE : FX x54 D m E) (G14) : S54_15 D m (e54_14 G14) = e54_15 (E c54_15 [.lp v54_14 G14, .blk 0, .sj v54_0 c54_0]) := by unfold S54_15; rw [hE c54_15]; kernel_rfl
theorem T54_18 (hE : FX x54 D m E) (G14) : S54_18 D m (e54_14 G14) = e54_18 (E (.ops true l54_18) [.blk 1, .sj v54_15 c54_15, .lp v54_14 G14, .blk 0, .sj v54_0 c54_0]) := by unfold S54_18; rw [T54_15 hE G14, hE (.ops true l54_18)]; kernel_rfl
theorem T54_17 (hE : FX x54 D m E) (G14) : S54_17 D m (e54_14 G14) = e54_17 (E (.ops true l54_17) [.blk 1, .sj v54_15 c54_15, .lp v54_14 G14, .blk 0, .sj v54_0 c54_0]) := by unfold S54_17; rw [T54_18 hE G14, hE (.ops true l54_17)]; kernel_rfl
theorem T54_16 (hE : FX x54 D m E) (G14) : S54_16 D m (e54_14 G14) = e54_16 (E (.ops true l54_16) [.blk 1, .sj v54_15 c54_15, .lp v54_14 G14, .blk 0, .sj v54_0 c54_0]) := by unfold S54_16; rw [T54_17 hE G14, hE (.ops true l54_16)]; kernel_rfl
theorem T54_14b (hE : FX x54 D m E) (G14) : S54_14b D m (e54_14 G14) = e54_14 (E c54_14b [.lp v54_14 G14, .blk 0, .sj v54_0 c54_0]) := by unfold S54_14b; rw [T54_18 hE G14, T54_16 hE G14, T54_17 hE G14, T54_0 hE, hE c54_14b]; kernel_rfl
theorem T54_14 (hE : FX x54 D m E) : S54_14 D m = e54_14 (nrec (fun _ => none) (fun _ G14 st => E c54_14b [.lp v54_14 G14, .blk 0, .sj v54_0 c54_0] st) m) :=
  nrec_emb e54_14 (fun _ _ _ _ _ _ _ _ => none) (fun g => S54_14b D m g) (fun G14 st => E c54_14b [.lp v54_14 G14, .blk 0, .sj v54_0 c54_0] st) rfl (fun g => T54_14b hE g) m
theorem T54_19 (hE : FX x54 D m E) : S54_19 D m = e54_19 (E c54_e []) := by unfold S54_19; rw [T54_14 hE, hE c54_e]; kernel_rfl
theorem X54 : XTie S54 x54 := X_of fun D m E hE args h u => by unfold S54; rw [T54_19 hE]; kernel_rfl
/- 55 -/
def c55_e : XC := (.sO [.mv p6 q0 .b, .P p7 (.un .not q6) .b] (.cond q7 (.s (.oX [.mv p8 q2 tI, .mv p9 q1 tI, .P p10 (.build [(kI 0), (kI 0)] [⟨0, 1, q8⟩, ⟨1, 1, q9⟩]) .v, .P p11 (.mkif 113 q10) .v, .o ⟨none, (.panic q11), none, []⟩ .v])) (.s .skip)))
def x55 : XFn := ⟨[.b, tI, tI], false, [], c55_e⟩
def e55_0 (k t0 t1 t2 h) := kN k [(p0, (vB t0)), (p1, (vI t1)), (p2, (vI t2))] h
def S55_0 (D : CallD) (m : Nat) (t0 : Bool) (t1 t2 : Int) (h : HP) : Res2 :=
 let t7 := !t0
 br t7 (
 let t10 := (AV.agg [(vI t2), (vI t1)])
 let t11 := (AV.iface 113 t10)
 some (.pan [(.iface 113 t10, false)] h, .no)) (
 some (.ret (.tup []) h, .no))
def S55 : SFn := fun D m args h u => nou u <| popB args fun t0 args => popI .i64 args fun t1 args => popI .i64 args fun t2 args => endA args (S55_0 D m t0 t1 t2 h)
theorem T55_0 (hE : FX x55 D m E) : S55_0 D m = e55_0 (E c55_e []) := by unfold S55_0; rw [hE c55_e]; kernel_rfl
theorem X55 : XTie S55 x55 := X_of fun D m E hE args h u => by unfold S55; rw [T55_0 hE]; kernel_rfl
/- 58 -/
def c58_e : XC := (.sO [.o ⟨(some p6), .recover, none, []⟩ .v, .P p7 (.tassert 127 (.agg [(kI 0)]) true q6) .v, .mv p5 q7 .v, .P p8 (.ext q5 0) .v, .P p9 (.ext q5 1) .b, .al p3 (.new [(kI 0)]), .ss 1 q3 q8, .mv p4 q9 .b] (.sO [.mv p10 q4 .b] (.cond q10 (.s (.ops true (XL.of [.P p11 (.build [(kI 0), (.int .u32 (.ofNat 0)), (.int .u64 (.ofNat 0)), (.str []), (kI 0)] []) .v, .fa p12 0 q3, .ld p13 q12 tI, .o ⟨none, (.e (.stores 5 q0 q11)), none, [⟨none, .cell q12, p13⟩]⟩ .v, .st q1 q13, .st q2 (ci 15)]))) (.s .skip))))
def x58 : XFn := ⟨[.v, .v, .v], true, [], c58_e⟩
def e58_0 (k : St → Res2) (t0 t1 t2 : AV) (h : HP) (u : AMode) : Res2 := k ⟨mkT [(p0, t0), (p1, t1), (p2, t2)], h, [], u⟩
def S58_0 (D : CallD) (m : Nat) (t0 t1 t2 : AV) (h : HP) (u : AMode) : Res2 :=
 recC u fun t6 u1 =>
 obQ (evP (.tassert 127 (.agg [(kI 0)]) true (.c t6)) .leaf) fun t7 =>
 extC t7 0 fun t8 =>
 extC t7 1 fun vt9 => asB vt9 fun t9 =>
 let t3 := AV.ptr (HP.nxQ h) 0
 let h2 := HP.newQ h (.cells true [(kI 0)])
 stsC 1 t3 t8 h2 fun h3 =>
 br t9 (
 let t11 := (AV.agg [(vI (Int.ofNat 0)), (vW (Int.ofNat 0)), (AV.int .u64 (Int.ofNat 0)), (vS ([] : LN)), (vI (Int.ofNat 0))])
 let t12 := (AV.ptr (HP.nxQ h) (Nat.add 0 0))
 ldI t12 h3 fun t13 =>
 stsC 5 t0 t11 h3 fun h4 =>
 br (againE (.stores 5 q0 q11) [⟨none, .cell q12, p13⟩] (mkT [(p0, t0), (p13, (vI t13)), (p12, t12)]) h4) (
 stoC t1 (vI t13) h4 fun h5 =>
 stoC t2 (vI (Int.ofNat 15)) h5 fun h6 =>
 some (.ret (.tup []) h6, u1)) none) (
 some (.ret (.tup []) h3, u1))
def S58 : SFn := fun D m args h u => popV args fun t0 args => popV args fun t1 args => popV args fun t2 args => endA args (S58_0 D m t0 t1 t2 h u)
theorem T58_0 (hE : FX x58 D m E) : S58_0 D m = e58_0 (E c58_e []) := by unfold S58_0; rw [hE c58_e]; kernel_rfl
theorem X58 : XTie S58 x58 := X_of fun D m E hE args h u => by unfold S58; rw [T58_0 hE]; kernel_rfl
/- 59 -/
def v59_0 : List Pos := [p3, p4]
def c59_0 : XC := (.s (.oX [.fa p147 7 q3, .ld p148 q147 tI, .P p149 (.build [(kI 0)] [⟨0, 1, q148⟩]) .v, .P p150 (.mkif 127 q149) .v, .o ⟨none, (.panic q150), none, []⟩ .v]))
def c59_2 : XC := (.cond q38 (.sO [.fa p39 6 q3, .ld p40 q39 tI, .fa p41 2 q3, .ld p42 q41 .s, .P p43 (.build [(kI 0), (.int .u32 (.ofNat 0)), (.int .u64 (.ofNat 0)), (.str []), (kI 0)] [⟨0, 1, q40⟩, ⟨3, 1, q42⟩]) .v, .ss 5 q4 q43] (.s .ret)) (.s .skip))
def l59_1 : XL := (XL.of [])
def v59_4 : List Pos := [p2, p3, p4, p137, p138, p139]
def c59_4b : XC := (.sO [.bn p140 .lss q139 q138 .b] (.seq (.cond q140 .skip (.exit 1)) (.seq (.block 2 (.seq (.oX [.P p141 (.iaddr (.sl 8) q137 q139) .v, .L p142 (.cells 8 q141) .v, .al p12 (.new [(kI 0), (.str []), (.str []), (.int .u32 (.ofNat 0)), (.int .u64 (.ofNat 0)), .nils, (kI 0), (kI 0)]), .ss 8 q12 q142]) (.oX [.L p143 (.cells 1 q2) .v, .L p144 (.cells 8 q12) .v, .cl p145 59 [q143, q144] .v]))) (.s (.oX [.bn p146 .add q139 (ci 1) tI, .mv p139 q146 tI])))))
def v59_3 : List Pos := [p2, p3, p4, p132]
def c59_3 : XC := (.cond q132 (.sO [.fa p136 5 q3, .ld p137 q136 .v, .P p138 (.lenl q137) tI, .mv p139 (ci 0) tI] (.block 1 (.loop v59_4 c59_4b))) (.s .skip))
def c59_e : XC := (.sO [.al p2 (.box q0), .al p3 (.box q1), .al p4 (.new [(kI 0), (.int .u32 (.ofNat 0)), (.int .u64 (.ofNat 0)), (.str []), (kI 0)])] (.sj v59_0 (.sO [.fa p13 0 q3, .ld p14 q13 tI] (.block 0 (.sO [.bn p16 .eql q14 (ci 1) .b, .mv p15 q16 .b] (.cond q15 (.sO [.fa p17 6 q3, .ld p18 q17 tI, .fa p19 3 q3, .ld p20 q19 tW, .P p21 (.build [(kI 0), (.int .u32 (.ofNat 0)), (.int .u64 (.ofNat 0)), (.str []), (kI 0)] [⟨0, 1, q18⟩, ⟨1, 1, q20⟩]) .v, .ss 5 q4 q21] (.s .ret)) (.sO [.bn p23 .eql q14 (ci 2) .b, .mv p22 q23 .b] (.cond q22 (.sO [.fa p24 4 q3, .ld p25 q24 (.i .u64), .P p26 (.build [(kI 0), (.int .u32 (.ofNat 0)), (.int .u64 (.ofNat 0)), (.str []), (kI 0)] [⟨0, 1, (ci 2)⟩, ⟨2, 1, q25⟩]) .v, .ss 5 q4 q26] (.s .ret)) (.sO [.bn p28 .eql q14 (ci 3) .b, .mv p27 q28 .b] (.cond q27 (.opq false (XL.pre [.fa p29 3 q3, .ld p30 q29 tW, .bn p31 .eql q30 (.c (.int .u32 (.ofNat 1))) .b, .mv p32 q31 .b, .sp p32, .o ⟨(some p33), (.l (.cells 1 q2)), (some (p32, true)), []⟩ .v, .G p32 true p34 (.faddr 2 q3) .v, .o ⟨(some p35), (.l (.cell q34)), (some (p32, true)), []⟩ .s, .o ⟨(some p36), (.call (.fn 89) [q33, q35]), (some (p32, true)), []⟩ tI, .G p32 true p37 (.bin .gtr q36 (ci 0)) .b, .P p38 (.pick q32 q37 (cb false)) .b, .jn p32 [p3, p4, p38]] l59_1) c59_2) (.sO [.bn p45 .eql q14 (ci 4) .b, .mv p44 q45 .b] (.cond q44 (.seq (.seq (.oX [.fa p46 1 q3, .ld p47 q46 .s, .bn p48 .eql q47 (.c (.str [38])) .b]) (.cond q48 (.seq (.oX [.L p49 (.cells 1 q2) .v, .L p50 (.cells 8 q3) .v, .cl p51 90 [q49, q50] .v, .ss 5 q4 q51]) .ret) .skip)) (.seq (.ops true (XL.of [.fa p53 1 q3, .ld p54 q53 .s, .L p55 (.cells 1 q2) .v, .fa p56 5 q3, .ld p57 q56 .v, .P p58 (.iaddr (.sl 8) q57 (ci 0)) .v, .L p59 (.cells 8 q58) .v, .al p5 (.new [(kI 0), (.int .u32 (.ofNat 0)), (.int .u64 (.ofNat 0)), (.str []), (kI 0)]), .o ⟨(some p60), (.call (.fn 59) [q55, q59]), none, [⟨none, .cell q53, p54⟩]⟩ .v, .cl p61 9 [q54, q60] .v, .mv p52 q61 .v, .P p62 (.ext q52 0) .v, .P p63 (.ext q52 1) tI, .ss 5 q5 q62, .mv p6 q63 tI])) (.sO [.mv p64 q6 tI, .bn p65 .eql q64 (ci 0) .b] (.cond q65 (.sO [.L p66 (.cells 5 q5) .v, .ss 5 q4 q66] (.s .ret)) (.s .skip))))) (.sO [.bn p68 .eql q14 (ci 5) .b, .mv p67 q68 .b] (.cond q67 (.seq (.ops true (XL.of [.L p69 (.cells 1 q2) .v, .fa p70 5 q3, .ld p71 q70 .v, .P p72 (.iaddr (.sl 8) q71 (ci 0)) .v, .L p73 (.cells 8 q72) .v, .L p75 (.cells 1 q2) .v, .fa p76 5 q3, .ld p77 q76 .v, .P p78 (.iaddr (.sl 8) q77 (ci 1)) .v, .L p79 (.cells 8 q78) .v, .al p7 (.new [(kI 0), (.int .u32 (.ofNat 0)), (.int .u64 (.ofNat 0)), (.str []), (kI 0)]), .al p8 (.new [(kI 0), (.int .u32 (.ofNat 0)), (.int .u64 (.ofNat 0)), (.str []), (kI 0)]), .o ⟨(some p74), (.call (.fn 59) [q69, q73]), none, [⟨none, .cells 1 q2, p75⟩, ⟨none, .cell q76, p77⟩, ⟨none, .cells 8 q78, p79⟩]⟩ .v, .cl p80 59 [q75, q79] .v, .ss 5 q7 q74, .ss 5 q8 q80])) (.seq (.seq (.oX [.fa p81 0 q7, .ld p82 q81 tI, .cl p83 91 [q82] .b, .mv p84 q83 .b, .ge p84 (XL.of [.G p84 true p85 (.faddr 0 q8) .v, .o ⟨(some p86), (.l (.cell q85)), (some (p84, true)), []⟩ tI, .G p84 true p87 (.bin .eql q86 (ci 1)) .b, .P p88 (.pick q84 q87 (cb false)) .b]) p88 .b, .mv p89 q88 .b, .ge p89 (XL.of [.G p89 true p90 (.faddr 1 q3) .v, .o ⟨(some p91), (.l (.cell q90)), (some (p89, true)), []⟩ .s, .G p89 true p92 (.bin .eql q91 (.c (.str [43]))) .b, .G p89 true p93 (.mov q92) .b, .ge p93 (XL.of [.G p93 false p94 (.faddr 1 q3) .v, .o ⟨(some p95), (.l (.cell q94)), (some (p93, false)), []⟩ .s, .G p93 false p96 (.bin .eql q95 (.c (.str [45]))) .b, .G p89 true p97 (.pick q93 (cb true) q96) .b]) p97 .b, .P p98 (.pick q89 q97 (cb false)) .b]) p98 .b]) (.cond q98 (.seq (.oX [.L p99 (.cells 1 q2) .v, .L p100 (.cells 5 q7) .v, .fa p101 1 q8, .ld p102 q101 tW, .fa p103 1 q3, .ld p104 q103 .s, .bn p105 .eql q104 (.c (.str [45])) .b, .fa p106 7 q3, .ld p107 q106 tI, .cl p108 92 [q99, q100, q102, q105, q107] .v, .ss 5 q4 q108]) .ret) .skip)) (.sO [.fa p110 1 q3, .ld p111 q110 .s, .L p112 (.cells 5 q7) .v, .L p113 (.cells 5 q8) .v, .cl p114 7 [q111, q112, q113] .v, .mv p109 q114 .v, .P p115 (.ext q109 0) .v, .P p116 (.ext q109 1) tI, .al p9 (.new [(kI 0), (.int .u32 (.ofNat 0)), (.int .u64 (.ofNat 0)), (.str []), (kI 0)]), .ss 5 q9 q115, .mv p10 q116 tI] (.sO [.mv p117 q10 tI, .bn p118 .eql q117 (ci 0) .b] (.cond q118 (.sO [.L p119 (.cells 5 q9) .v, .ss 5 q4 q119] (.s .ret)) (.s .skip)))))) (.sO [.bn p121 .eql q14 (ci 9) .b, .mv p120 q121 .b] (.cond q120 (.seq (.ops true (XL.of [.L p122 (.cells 1 q2) .v, .fa p123 5 q3, .ld p124 q123 .v, .P p125 (.iaddr (.sl 8) q124 (ci 0)) .v, .L p126 (.cells 8 q125) .v, .fa p128 3 q3, .ld p129 q128 tW, .P p130 (.conv (.ii .i64) q129) tI, .o ⟨(some p127), (.call (.fn 59) [q122, q126]), none, [⟨none, .cell q128, p129⟩]⟩ .v, .cl p131 93 [q127, q130] .v, .ss 5 q4 q131])) (.s .ret)) (.sj v59_3 (.sO [.bn p133 .eql q14 (ci 6) .b, .mv p132 q133 .b] (.cond q132 (.s .skip) (.sO [.bn p134 .eql q14 (ci 7) .b, .mv p132 q134 .b] (.cond q132 (.s .skip) (.s (.oX [.bn p135 .eql q14 (ci 8) .b, .mv p132 q135 .b])))))) c59_3))))))))))))))) c59_0))
def x59 : XFn := ⟨[.v, .v], false, [(.cells 5 p4)], c59_e⟩
def e59_0 (k t3 t4 h) := kN k [(p3, t3), (p4, t4)] h
def S59_0 (D : CallD) (m : Nat) (t3 t4 : AV) (h : HP) : Res2 :=
 faC 7 t3 fun t147 =>
 ldI t147 h fun t148 =>
 let t149 := (AV.agg [(vI t148)])
 let t150 := (AV.iface 127 t149)
 some (.pan [(.iface 127 t149, false)] h, .no)
def e59_1 (k t3 t4 t38 h) := kN k [(p3, t3), (p4, t4), (p38, (vB t38))] h
def S59_1 (D : CallD) (m : Nat) (t3 t4 : AV) (t38 : Bool) (h : HP) : Res2 :=
 br t38 (
 faC 6 t3 fun t39 =>
 ldI t39 h fun t40 =>
 faC 2 t3 fun t41 =>
 ldS t41 h fun t42 =>
 let t43 := (AV.agg [(vI t40), (vW (Int.ofNat 0)), (AV.int .u64 (Int.ofNat 0)), (vS t42), (vI (Int.ofNat 0))])
 stsC 5 t4 t43 h fun h12 =>
 cellsC 5 t4 h12 fun t4a =>
 some (.ret t4a h12, .no)) (
 S59_0 D m t3 t4 h)
def e59_4 (k t2 t3 t4 t137 t138 t139 h) := kN k [(p2, t2), (p3, t3), (p4, t4), (p137, t137), (p138, (vI t138)), (p139, (vI t139))] h
def S59_4b (D : CallD) (m : Nat) (g4 : AV → AV → AV → AV → Int → Int → HP → Res2) (t2 t3 t4 t137 : AV) (t138 t139 : Int) (h : HP) : Res2 :=
 let t140 := ltQ t139 t138
 br t140 (
 iasC 8 t137 (vI t139) fun t141 =>
 cellsC 8 t141 h fun t142 =>
 let t12 := AV.ptr (HP.nxQ h) 0
 let h36 := HP.newQ h (.cells true [(kI 0), (.str []), (.str []), (.int .u32 (.ofNat 0)), (.int .u64 (.ofNat 0)), .nils, (kI 0), (kI 0)])
 stsC 8 t12 t142 h36 fun h37 =>
 cellsC 1 t2 h37 fun t143 =>
 cellsC 8 t12 h37 fun t144 =>
 cal D 59 [t143, t144] h37 fun t145 h38 =>
 let t146 := wrQ .i64 (addQ t139 (Int.ofNat 1))
 g4 t2 t3 t4 t137 t138 t146 h38) (
 S59_0 D m t3 t4 h)
def S59_4 (D : CallD) (m : Nat) : AV → AV → AV → AV → Int → Int → HP → Res2 := nrec (fun _ _ _ _ _ _ _ => none) (fun _ g => S59_4b D m g) m
def e59_3 (k t2 t3 t4 t132 h) := kN k [(p2, t2), (p3, t3), (p4, t4), (p132, (vB t132))] h
def S59_3 (D : CallD) (m : Nat) (t2 t3 t4 : AV) (t132 : Bool) (h : HP) : Res2 :=
 br t132 (
 faC 5 t3 fun t136 =>
 cellC t136 h fun t137 =>
 lenC t137 fun vt138 => asI .i64 vt138 fun t138 =>
 S59_4 D m t2 t3 t4 t137 t138 (Int.ofNat 0) h) (
 S59_0 D m t3 t4 h)
def e59_5 (k t0 t1 h) := kN k [(p0, t0), (p1, t1)] h
def S59_5 (D : CallD) (m : Nat) (t0 t1 : AV) (h : HP) : Res2 :=
 let t2 := AV.ptr (HP.nxQ h) 0
 let h6 := HP.newQ h (.cells true (AV.cells t0))
 let t3 := AV.ptr (HP.nxQ h6) 0
 let h7 := HP.newQ h6 (.cells true (AV.cells t1))
 let t4 := AV.ptr (HP.nxQ h7) 0
 let h8 := HP.newQ h7 (.cells true [(kI 0), (.int .u32 (.ofNat 0)), (.int .u64 (.ofNat 0)), (.str []), (kI 0)])
 let t13 := (AV.ptr (HP.nxQ h6) (Nat.add 0 0))
 ldI t13 h8 fun t14 =>
 let t16 := eqQ t14 (Int.ofNat 1)
 br t16 (
 let t17 := (AV.ptr (HP.nxQ h6) (Nat.add 0 6))
 ldI t17 h8 fun t18 =>
 let t19 := (AV.ptr (HP.nxQ h6) (Nat.add 0 3))
 ldW t19 h8 fun t20 =>
 let t21 := (AV.agg [(vI t18), (vW t20), (AV.int .u64 (Int.ofNat 0)), (vS ([] : LN)), (vI (Int.ofNat 0))])
 stsC 5 t4 t21 h8 fun h9 =>
 cellsC 5 t4 h9 fun t4a =>
 some (.ret t4a h9, .no)) (
 let t23 := eqQ t14 (Int.ofNat 2)
 br t23 (
 let t24 := (AV.ptr (HP.nxQ h6) (Nat.add 0 4))
 cellC t24 h8 fun vt25 => asI .u64 vt25 fun t25 =>
 let t26 := (AV.agg [(vI (Int.ofNat 2)), (vW (Int.ofNat 0)), (AV.int .u64 t25), (vS ([] : LN)), (vI (Int.ofNat 0))])
 stsC 5 t4 t26 h8 fun h10 =>
 cellsC 5 t4 h10 fun t4a =>
 some (.ret t4a h10, .no)) (
 let t28 := eqQ t14 (Int.ofNat 3)
 br t28 (
 let t29 := (AV.ptr (HP.nxQ h6) (Nat.add 0 3))
 ldW t29 h8 fun t30 =>
 binC .eql (vW t30) (vW (Int.ofNat 1)) fun vt31 => asB vt31 fun t31 =>
 br t31 (
 cellsC 1 t2 h8 fun t33 =>
 let t34 := (AV.ptr (HP.nxQ h6) (Nat.add 0 2))
 ldS t34 h8 fun t35 =>
 cal D 89 [t33, (vS t35)] h8 fun t36 h11 =>
 asI .i64 t36 fun t36a =>
 let t37 := ltQ (Int.ofNat 0) t36a
 S59_1 D m t3 t4 t37 h11) (
 S59_1 D m t3 t4 false h8)) (
 let t45 := eqQ t14 (Int.ofNat 4)
 br t45 (
 let t46 := (AV.ptr (HP.nxQ h6) (Nat.add 0 1))
 ldS t46 h8 fun t47 =>
 let t48 := eqL t47 ([38] : LN)
 br t48 (
 cellsC 1 t2 h8 fun t49 =>
 cellsC 8 t3 h8 fun t50 =>
 cal D 90 [t49, t50] h8 fun t51 h13 =>
 stsC 5 t4 t51 h13 fun h14 =>
 cellsC 5 t4 h14 fun t4a =>
 some (.ret t4a h14, .no)) (
 let t53 := (AV.ptr (HP.nxQ h6) (Nat.add 0 1))
 ldS t53 h8 fun t54 =>
 cellsC 1 t2 h8 fun t55 =>
 let t56 := (AV.ptr (HP.nxQ h6) (Nat.add 0 5))
 cellC t56 h8 fun t57 =>
 iasC 8 t57 (vI (Int.ofNat 0)) fun t58 =>
 cellsC 8 t58 h8 fun t59 =>
 let t5 := AV.ptr (HP.nxQ h8) 0
 let h15 := HP.newQ h8 (.cells true [(kI 0), (.int .u32 (.ofNat 0)), (.int .u64 (.ofNat 0)), (.str []), (kI 0)])
 cal D 59 [t55, t59] h15 fun t60 h16 =>
 br (again [⟨none, .cell q53, p54⟩] (mkT [(p54, (vS t54)), (p53, t53)]) h16) (
 cal D 9 [(vS t54), t60] h16 fun t61 h17 =>
 extC t61 0 fun t62 =>
 extC t61 1 fun vt63 => asI .i64 vt63 fun t63 =>
 stsC 5 t5 t62 h17 fun h18 =>
 let t65 := eqQ t63 (Int.ofNat 0)
 br t65 (
 cellsC 5 t5 h18 fun t66 =>
 stsC 5 t4 t66 h18 fun h19 =>
 cellsC 5 t4 h19 fun t4a =>
 some (.ret t4a h19, .no)) (
 S59_0 D m t3 t4 h18)) none)) (
 let t68 := eqQ t14 (Int.ofNat 5)
 br t68 (
 cellsC 1 t2 h8 fun t69 =>
 let t70 := (AV.ptr (HP.nxQ h6) (Nat.add 0 5))
 cellC t70 h8 fun t71 =>
 iasC 8 t71 (vI (Int.ofNat 0)) fun t72 =>
 cellsC 8 t72 h8 fun t73 =>
 cellsC 1 t2 h8 fun t75 =>
 let t76 := (AV.ptr (HP.nxQ h6) (Nat.add 0 5))
 cellC t76 h8 fun t77 =>
 iasC 8 t77 (vI (Int.ofNat 1)) fun t78 =>
 cellsC 8 t78 h8 fun t79 =>
 let t7 := AV.ptr (HP.nxQ h8) 0
 let h20 := HP.newQ h8 (.cells true [(kI 0), (.int .u32 (.ofNat 0)), (.int .u64 (.ofNat 0)), (.str []), (kI 0)])
 let t8 := AV.ptr (HP.nxQ h20) 0
 let h21 := HP.newQ h20 (.cells true [(kI 0), (.int .u32 (.ofNat 0)), (.int .u64 (.ofNat 0)), (.str []), (kI 0)])
 cal D 59 [t69, t73] h21 fun t74 h22 =>
 br (again [⟨none, .cells 1 q2, p75⟩, ⟨none, .cell q76, p77⟩, ⟨none, .cells 8 q78, p79⟩] (mkT [(p79, t79), (p78, t78), (p77, t77), (p76, t76), (p75, t75), (p2, t2)]) h22) (
 cal D 59 [t75, t79] h22 fun t80 h23 =>
 stsC 5 t7 t74 h23 fun h24 =>
 stsC 5 t8 t80 h24 fun h25 =>
 let t81 := (AV.ptr (HP.nxQ h8) (Nat.add 0 0))
 ldI t81 h25 fun t82 =>
 cal D 91 [(vI t82)] h25 fun t83 h26 =>
 asB t83 fun t83a =>
 obB (brV t83a (
 let t85 := (AV.ptr (HP.nxQ h20) (Nat.add 0 0))
 ldIV t85 h26 fun t86 =>
 let t87 := eqQ t86 (Int.ofNat 1)
 some (vB t87)) (
 some (vB false))) fun t88 =>
 obB (brV t88 (
 let t90 := (AV.ptr (HP.nxQ h6) (Nat.add 0 1))
 ldSV t90 h26 fun t91 =>
 let t92 := eqL t91 ([43] : LN)
 obBV (brV t92 (
 some (vB true)) (
 let t94 := (AV.ptr (HP.nxQ h6) (Nat.add 0 1))
 ldSV t94 h26 fun t95 =>
 let t96 := eqL t95 ([45] : LN)
 some (vB t96))) fun t97 =>
 some (vB t97)) (
 some (vB false))) fun t98 =>
 br t98 (
 cellsC 1 t2 h26 fun t99 =>
 cellsC 5 t7 h26 fun t100 =>
 let t101 := (AV.ptr (HP.nxQ h20) (Nat.add 0 1))
 ldW t101 h26 fun t102 =>
 let t103 := (AV.ptr (HP.nxQ h6) (Nat.add 0 1))
 ldS t103 h26 fun t104 =>
 let t105 := eqL t104 ([45] : LN)
 let t106 := (AV.ptr (HP.nxQ h6) (Nat.add 0 7))
 ldI t106 h26 fun t107 =>
 cal D 92 [t99, t100, (vW t102), (vB t105), (vI t107)] h26 fun t108 h27 =>
 stsC 5 t4 t108 h27 fun h28 =>
 cellsC 5 t4 h28 fun t4a =>
 some (.ret t4a h28, .no)) (
 let t110 := (AV.ptr (HP.nxQ h6) (Nat.add 0 1))
 ldS t110 h26 fun t111 =>
 cellsC 5 t7 h26 fun t112 =>
 cellsC 5 t8 h26 fun t113 =>
 cal D 7 [(vS t111), t112, t113] h26 fun t114 h29 =>
 extC t114 0 fun t115 =>
 extC t114 1 fun vt116 => asI .i64 vt116 fun t116 =>
 let t9 := AV.ptr (HP.nxQ h29) 0
 let h30 := HP.newQ h29 (.cells true [(kI 0), (.int .u32 (.ofNat 0)), (.int .u64 (.ofNat 0)), (.str []), (kI 0)])
 stsC 5 t9 t115 h30 fun h31 =>
 let t118 := eqQ t116 (Int.ofNat 0)
 br t118 (
 cellsC 5 t9 h31 fun t119 =>
 stsC 5 t4 t119 h31 fun h32 =>
 cellsC 5 t4 h32 fun t4a =>
 some (.ret t4a h32, .no)) (
 S59_0 D m t3 t4 h31))) none) (
 let t121 := eqQ t14 (Int.ofNat 9)
 br t121 (
 cellsC 1 t2 h8 fun t122 =>
 let t123 := (AV.ptr (HP.nxQ h6) (Nat.add 0 5))
 cellC t123 h8 fun t124 =>
 iasC 8 t124 (vI (Int.ofNat 0)) fun t125 =>
 cellsC 8 t125 h8 fun t126 =>
 let t128 := (AV.ptr (HP.nxQ h6) (Nat.add 0 3))
 ldW t128 h8 fun t129 =>
 obI .i64 (convV (.ii .i64) (vW t129)) fun t130 =>
 cal D 59 [t122, t126] h8 fun t127 h33 =>
 br (again [⟨none, .cell q128, p129⟩] (mkT [(p129, (vW t129)), (p128, t128)]) h33) (
 cal D 93 [t127, (vI t130)] h33 fun t131 h34 =>
 stsC 5 t4 t131 h34 fun h35 =>
 cellsC 5 t4 h35 fun t4a =>
 some (.ret t4a h35, .no)) none) (
 let t133 := eqQ t14 (Int.ofNat 6)
 br t133 (
 S59_3 D m t2 t3 t4 t133 h8) (
 let t134 := eqQ t14 (Int.ofNat 7)
 br t134 (
 S59_3 D m t2 t3 t4 t134 h8) (
 let t135 := eqQ t14 (Int.ofNat 8)
 S59_3 D m t2 t3 t4 t135 h8))))))))
def S59 : SFn := fun D m args h u => nou u <| popV args fun t0 args => popV args fun t1 args => endA args (S59_5 D m t0 t1 h)
theorem T59_0 (hE : FX x59 D m E) : S59_0 D m = e59_0 (E c59_0 []) := by unfold S59_0; rw [hE c59_0]; kernel_rfl
theorem T59_1 (hE : FX x59 D m E) : S59_1 D m = e59_1 (E (.opq false l59_1 c59_2) [.blk 0, .sj v59_0 c59_0]) := by unfold S59_1; rw [T59_0 hE, hE (.opq false l59_1 c59_2)]; kernel_rfl
theorem T59_4b (hE : FX x59 D m E) (G4) : S59_4b D m (e59_4 G4) = e59_4 (E c59_4b [.lp v59_4 G4, .blk 1, .blk 0, .sj v59_0 c59_0]) := by unfold S59_4b; rw [T59_0 hE, hE c59_4b]; kernel_rfl
theorem T59_4 (hE : FX x59 D m E) : S59_4 D m = e59_4 (nrec (fun _ => none) (fun _ G4 st => E c59_4b [.lp v59_4 G4, .blk 1, .blk 0, .sj v59_0 c59_0] st) m) :=
  nrec_emb e59_4 (fun _ _ _ _ _ _ _ => none) (fun g => S59_4b D m g) (fun G4 st => E c59_4b [.lp v59_4 G4, .blk 1, .blk 0, .sj v59_0 c59_0] st) rfl (fun g => T59_4b hE g) m
theorem T59_3 (hE : FX x59 D m E) : S59_3 D m = e59_3 (E c59_3 [.blk 0, .sj v59_0 c59_0]) := by unfold S59_3; rw [T59_4 hE, T59_0 hE, hE c59_3]; kernel_rfl
theorem T59_5 (hE : FX x59 D m E) : S59_5 D m = e59_5 (E c59_e []) := by unfold S59_5; rw [T59_1 hE, T59_0 hE, T59_3 hE, hE c59_e]; kernel_rfl
theorem X59 : XTie S59 x59 := X_of fun D m E hE args h u => by unfold S59; rw [T59_5 hE]; kernel_rfl
/- 68 -/
def c68_e : XC := (.sO [.o ⟨(some p6), .recover, none, []⟩ .v, .P p7 (.tassert 138 (.agg [(kI 0), (kI 0)]) true q6) .v, .mv p5 q7 .v, .P p8 (.ext q5 0) .v, .P p9 (.ext q5 1) .b, .al p3 (.new [(kI 0), (kI 0)]), .ss 2 q3 q8, .mv p4 q9 .b] (.sO [.mv p10 q4 .b] (.cond q10 (.s (.ops true (XL.of [.fa p11 0 q3, .ld p12 q11 tI, .fa p13 1 q3, .ld p14 q13 tI, .o ⟨none, (.e (.store q0 (.c .nils))), none, [⟨none, .cell q11, p12⟩, ⟨none, .cell q13, p14⟩]⟩ .v, .o ⟨none, (.e (.store q1 q12)), none, [⟨none, .cell q13, p14⟩]⟩ .v, .st q2 q14]))) (.s .skip))))
def x68 : XFn := ⟨[.v, .v, .v], true, [], c68_e⟩
def e68_0 (k : St → Res2) (t0 t1 t2 : AV) (h : HP) (u : AMode) : Res2 := k ⟨mkT [(p0, t0), (p1, t1), (p2, t2)], h, [], u⟩
def S68_0 (D : CallD) (m : Nat) (t0 t1 t2 : AV) (h : HP) (u : AMode) : Res2 :=
 recC u fun t6 u1 =>
 obQ (evP (.tassert 138 (.agg [(kI 0), (kI 0)]) true (.c t6)) .leaf) fun t7 =>
 extC t7 0 fun t8 =>
 extC t7 1 fun vt9 => asB vt9 fun t9 =>
 let t3 := AV.ptr (HP.nxQ h) 0
 let h2 := HP.newQ h (.cells true [(kI 0), (kI 0)])
 stsC 2 t3 t8 h2 fun h3 =>
 br t9 (
 let t11 := (AV.ptr (HP.nxQ h) (Nat.add 0 0))
 ldI t11 h3 fun t12 =>
 let t13 := (AV.ptr (HP.nxQ h) (Nat.add 0 1))
 ldI t13 h3 fun t14 =>
 stoC t0 (.nils : AV) h3 fun h4 =>
 br (againE (.store q0 (.c .nils)) [⟨none, .cell q11, p12⟩, ⟨none, .cell q13, p14⟩] (mkT [(p0, t0), (p14, (vI t14)), (p13, t13), (p12, (vI t12)), (p11, t11)]) h4) (
 stoC t1 (vI t12) h4 fun h5 =>
 br (againE (.store q1 q12) [⟨none, .cell q13, p14⟩] (mkT [(p1, t1), (p14, (vI t14)), (p13, t13)]) h5) (
 stoC t2 (vI t14) h5 fun h6 =>
 some (.ret (.tup []) h6, u1)) none) none) (
 some (.ret (.tup []) h3, u1))
def S68 : SFn := fun D m args h u => popV args fun t0 args => popV args fun t1 args => popV args fun t2 args => endA args (S68_0 D m t0 t1 t2 h u)
theorem T68_0 (hE : FX x68 D m E) : S68_0 D m = e68_0 (E c68_e []) := by unfold S68_0; rw [hE c68_e]; kernel_rfl
theorem X68 : XTie S68 x68 := X_of fun D m E hE args h u => by unfold S68; rw [T68_0 hE]; kernel_rfl
/- 69 -/
def v69_0 : List Pos := [p1]
def c69_0 : XC := (.sO [.mv p44 q1 tI, .mv p4 q44 tI] (.s .ret))
def v69_2 : List Pos := [p0, p1, p6]
def c69_2 : XC := (.s (.oX [.mv p40 q1 tI, .mv p41 q6 tI, .bn p42 .add q41 (ci 4) tI, .bn p43 .add q40 q42 tI, .mv p1 q43 tI]))
def v69_1 : List Pos := [p0, p1]
def c69_1b : XC := (.seq (.seq (.oX [.mv p7 q1 tI, .mv p8 q0 .s, .P p9 (.lens q8) tI, .bn p10 .lss q7 q9 .b]) (.cond q10 .skip (.exit 0))) (.block 1 (.sO [.mv p11 q0 .s, .mv p12 q1 tI, .P p13 (.slice .str q11 (some q12) none none) .s, .mv p5 q13 .s] (.block 2 (.sO [.mv p16 q5 .s, .P p17 (.idxs q16 (ci 0)) tC, .cl p18 101 [(.c (.str [32, 9, 10, 13])), q17] tI, .bn p19 .geq q18 (ci 0) .b, .mv p15 q19 .b] (.cond q15 (.s (.oX [.mv p20 q1 tI, .bn p21 .add q20 (ci 1) tI, .mv p1 q21 tI])) (.sO [.mv p23 q5 .s, .cl p24 102 [q23, (.c (.str [47, 47]))] .b, .mv p22 q24 .b] (.cond q22 (.s (.oX [.mv p25 q1 tI, .mv p26 q5 .s, .cl p27 103 [q26, (.c (.fn 104 [] []))] tI, .bn p28 .add q25 q27 tI, .mv p1 q28 tI])) (.sO [.mv p30 q5 .s, .cl p31 102 [q30, (.c (.str [47, 42]))] .b, .mv p29 q31 .b] (.cond q29 (.sO [.mv p32 q5 .s, .P p33 (.slice .str q32 (some (ci 2)) none none) .s, .cl p34 105 [q33, (.c (.str [42, 47]))] tI, .mv p6 q34 tI] (.sj v69_2 (.sO [.mv p35 q6 tI, .bn p36 .lss q35 (ci 0) .b] (.cond q36 (.s (.oX [.mv p37 q1 tI, .P p38 (.build [(kI 0), (kI 0)] [⟨0, 1, q37⟩, ⟨1, 1, (ci 10)⟩]) .v, .P p39 (.mkif 138 q38) .v, .o ⟨none, (.panic q39), none, []⟩ .v])) (.s .skip))) c69_2)) (.sO [.mv p14 q1 tI, .mv p4 q14 tI] (.s .ret))))))))))))
def c69_e : XC := (.sO [.mv p4 (ci 0) tI] (.sj v69_0 (.block 0 (.loop v69_1 c69_1b)) c69_0))
def x69 : XFn := ⟨[.s, tI], false, [(.tmp p4)], c69_e⟩
def e69_0 (k t1 h) := kN k [(p1, (vI t1))] h
def S69_0 (D : CallD) (m : Nat) (t1 : Int) (h : HP) : Res2 :=
 some (.ret (vI t1) h, .no)
def e69_2 (k t0 t1 t6 h) := kN k [(p0, (vS t0)), (p1, (vI t1)), (p6, (vI t6))] h
def S69_2 (D : CallD) (m : Nat) (g1 : LN → Int → HP → Res2) (t0 : LN) (t1 t6 : Int) (h : HP) : Res2 :=
 let t42 := wrQ .i64 (addQ t6 (Int.ofNat 4))
 let t43 := wrQ .i64 (addQ t1 t42)
 g1 t0 t43 h
def e69_1 (k t0 t1 h) := kN k [(p0, (vS t0)), (p1, (vI t1))] h
def S69_1b (D : CallD) (m : Nat) (g1 : LN → Int → HP → Res2) (t0 : LN) (t1 : Int) (h : HP) : Res2 :=
 let t9 := Int.ofNat (lenL t0)
 let t10 := ltQ t1 t9
 br t10 (
 slC (vS t0) (some (vI t1)) none fun vt13 => asS vt13 fun t13 =>
 ixC (vS t13) (vI (Int.ofNat 0)) fun vt17 => asI .u8 vt17 fun t17 =>
 cal D 101 [(vS ([32, 9, 10, 13] : LN)), (vC t17)] h fun t18 h4 =>
 asI .i64 t18 fun t18a =>
 let t19 := leQ (Int.ofNat 0) t18a
 br t19 (
 let t21 := wrQ .i64 (addQ t1 (Int.ofNat 1))
 g1 t0 t21 h4) (
 cal D 102 [(vS t13), (vS ([47, 47] : LN))] h4 fun t24 h5 =>
 asB t24 fun t24a =>
 br t24a (
 cal D 103 [(vS t13), ((.fn 104 [] []) : AV)] h5 fun t27 h6 =>
 asI .i64 t27 fun t27a =>
 let t28 := wrQ .i64 (addQ t1 t27a)
 g1 t0 t28 h6) (
 cal D 102 [(vS t13), (vS ([47, 42] : LN))] h5 fun t31 h7 =>
 asB t31 fun t31a =>
 br t31a (
 slC (vS t13) (some (vI (Int.ofNat 2))) none fun vt33 => asS vt33 fun t33 =>
 cal D 105 [(vS t33), (vS ([42, 47] : LN))] h7 fun t34 h8 =>
 asI .i64 t34 fun t34a =>
 let t36 := ltQ t34a (Int.ofNat 0)
 br t36 (
 let t38 := (AV.agg [(vI t1), (vI (Int.ofNat 10))])
 let t39 := (AV.iface 138 t38)
 some (.pan [(.iface 138 t38, false)] h8, .no)) (
 S69_2 D m g1 t0 t1 t34a h8)) (
 some (.ret (vI t1) h7, .no))))) (
 S69_0 D m t1 h)
def S69_1 (D : CallD) (m : Nat) : LN → Int → HP → Res2 := nrec (fun _ _ _ => none) (fun _ g => S69_1b D m g) m
def e69_3 (k t0 t1 h) := kN k [(p0, (vS t0)), (p1, (vI t1))] h
def S69_3 (D : CallD) (m : Nat) (t0 : LN) (t1 : Int) (h : HP) : Res2 :=
 S69_1 D m t0 t1 h
def S69 : SFn := fun D m args h u => nou u <| popS args fun t0 args => popI .i64 args fun t1 args => endA args (S69_3 D m t0 t1 h)
theorem T69_0 (hE : FX x69 D m E) : S69_0 D m = e69_0 (E c69_0 []) := by unfold S69_0; rw [hE c69_0]; kernel_rfl
theorem T69_2 (hE : FX x69 D m E) (G1) : S69_2 D m (e69_1 G1) = e69_2 (E c69_2 [.blk 2, .blk 1, .lp v69_1 G1, .blk 0, .sj v69_0 c69_0]) := by unfold S69_2; rw [hE c69_2]; kernel_rfl
theorem T69_1b (hE : FX x69 D m E) (G1) : S69_1b D m (e69_1 G1) = e69_1 (E c69_1b [.lp v69_1 G1, .blk 0, .sj v69_0 c69_0]) := by unfold S69_1b; rw [T69_2 hE G1, T69_0 hE, hE c69_1b]; kernel_rfl
theorem T69_1 (hE : FX x69 D m E) : S69_1 D m = e69_1 (nrec (fun _ => none) (fun _ G1 st => E c69_1b [.lp v69_1 G1, .blk 0, .sj v69_0 c69_0] st) m) :=
  nrec_emb e69_1 (fun _ _ _ => none) (fun g => S69_1b D m g) (fun G1 st => E c69_1b [.lp v69_1 G1, .blk 0, .sj v69_0 c69_0] st) rfl (fun g => T69_1b hE g) m
theorem T69_3 (hE : FX x69 D m E) : S69_3 D m = e69_3 (E c69_e []) := by unfold S69_3; rw [T69_1 hE, hE c69_e]; kernel_rfl
theorem X69 : XTie S69 x69 := X_of fun D m E hE args h u => by unfold S69; rw [T69_3 hE]; kernel_rfl
/- 70 -/
def v70_1 : List Pos := [p1, p4, p5, p6, p7]
def c70_1 : XC := (.sO [.mv p55 q6 tI, .mv p56 q5 .s, .mv p57 q7 tI, .P p58 (.slice .str q56 none (some q57) none) .s, .mv p59 q1 tI, .P p60 (.build [(kI 0), (.str []), (kI 0)] [⟨0, 1, q55⟩, ⟨1, 1, q58⟩, ⟨2, 1, q59⟩]) .v, .ss 3 q4 q60] (.s .ret))
def v70_0 : List Pos := [p1, p4, p5, p6, p7]
def c70_0 : XC := (.sj v70_1 (.sO [.mv p50 q6 tI, .bn p51 .eql q50 (ci 0) .b] (.cond q51 (.s (.oX [.mv p52 q1 tI, .P p53 (.build [(kI 0), (kI 0)] [⟨0, 1, q52⟩, ⟨1, 1, (ci 10)⟩]) .v, .P p54 (.mkif 138 q53) .v, .o ⟨none, (.panic q54), none, []⟩ .v])) (.s .skip))) c70_1)
def c70_3 : XC := (.cond q49 (.s (.oX [.mv p7 (ci 2) tI])) (.s .skip))
def l70_2 : XL := (XL.of [.mv p45 q44 .b, .ge p45 (XL.of [.G p45 true p46 (.mov q5) .s, .G p45 true p47 (.idxs q46 (ci 1)) tC, .G p45 true p48 (.bin .neq q47 (.c (.int .u8 (.ofNat 32)))) .b, .P p49 (.pick q45 q48 (cb false)) .b]) p49 .b])
def c70_e : XC := (.sO [.al p4 (.new [(kI 0), (.str []), (kI 0)])] (.sO [.mv p9 q0 .s, .mv p10 q1 tI, .P p11 (.slice .str q9 (some q10) none none) .s, .mv p5 q11 .s] (.sO [.mv p6 (ci 0) tI, .mv p7 (ci 0) tI] (.sj v70_0 (.sO [.mv p12 q5 .s, .P p13 (.idxs q12 (ci 0)) tC, .mv p8 q13 tC] (.block 0 (.sO [.mv p15 q8 tC, .cl p16 106 [q15] .b, .mv p14 q16 .b] (.cond q14 (.sO [.mv p17 q5 .s, .cl p18 103 [q17, (.c (.fn 107 [] []))] tI, .mv p7 q18 tI] (.sO [.mv p6 (ci 1) tI] (.sO [.mv p19 q5 .s, .mv p20 q7 tI, .P p21 (.slice .str q19 none (some q20) none) .s, .cl p22 109 [q21] .b] (.cond q22 (.s (.oX [.mv p6 (ci 5) tI])) (.sO [.mv p23 q7 tI, .bn p24 .gtr q23 (ci 40) .b] (.cond q24 (.s (.oX [.mv p6 (ci 0) tI])) (.s .skip))))))) (.sO [.mv p26 q8 tC, .cl p27 108 [q26] .b, .mv p25 q27 .b] (.cond q25 (.s (.oX [.mv p29 q5 .s, .cl p30 110 [q29] .v, .mv p28 q30 .v, .P p31 (.ext q28 0) tI, .P p32 (.ext q28 1) tI, .mv p6 q31 tI, .mv p7 q32 tI])) (.sO [.mv p34 q8 tC, .cl p35 101 [(.c (.str [43, 45, 42, 47, 37, 38, 124, 94, 126, 33, 60, 62, 61, 40, 41, 123, 125, 91, 93, 59, 44])), q34] tI, .bn p36 .geq q35 (ci 0) .b, .mv p33 q36 .b] (.cond q33 (.sO [.mv p6 (ci 4) tI, .mv p7 (ci 1) tI] (.opq false (XL.pre [.mv p37 q5 .s, .P p38 (.lens q37) tI, .bn p39 .gtr q38 (ci 1) .b, .mv p40 q39 .b, .sp p40, .G p40 true p41 (.mov q5) .s, .G p40 true p42 (.slice .str q41 none (some (ci 2)) none) .s, .o ⟨(some p43), (.call (.fn 111) [(.c (.str [60, 60, 32, 62, 62, 32, 60, 61, 32, 62, 61, 32, 61, 61, 32, 33, 61, 32, 38, 38, 32, 124, 124])), q42]), (some (p40, true)), []⟩ .b, .P p44 (.pick q40 q43 (cb false)) .b, .jn p40 [p1, p4, p5, p6, p7, p44]] l70_2) c70_3)) (.s .skip))))))))) c70_0))))
def x70 : XFn := ⟨[.s, tI], false, [(.cells 3 p4)], c70_e⟩
def e70_1 (k t1 t4 t5 t6 t7 h) := kN k [(p1, (vI t1)), (p4, t4), (p5, (vS t5)), (p6, (vI t6)), (p7, (vI t7))] h
def S70_1 (D : CallD) (m : Nat) (t1 : Int) (t4 : AV) (t5 : LN) (t6 t7 : Int) (h : HP) : Res2 :=
 slC (vS t5) none (some (vI t7)) fun vt58 => asS vt58 fun t58 =>
 let t60 := (AV.agg [(vI t6), (vS t58), (vI t1)])
 stsC 3 t4 t60 h fun h6 =>
 cellsC 3 t4 h6 fun t4a =>
 some (.ret t4a h6, .no)
def e70_0 (k t1 t4 t5 t6 t7 h) := kN k [(p1, (vI t1)), (p4, t4), (p5, (vS t5)), (p6, (vI t6)), (p7, (vI t7))] h
def S70_0 (D : CallD) (m : Nat) (t1 : Int) (t4 : AV) (t5 : LN) (t6 t7 : Int) (h : HP) : Res2 :=
 let t51 := eqQ t6 (Int.ofNat 0)
 br t51 (
 let t53 := (AV.agg [(vI t1), (vI (Int.ofNat 10))])
 let t54 := (AV.iface 138 t53)
 some (.pan [(.iface 138 t53, false)] h, .no)) (
 S70_1 D m t1 t4 t5 t6 t7 h)
def e70_2 (k t1 t4 t5 t6 t7 t44 h) := kN k [(p1, (vI t1)), (p4, t4), (p5, (vS t5)), (p6, (vI t6)), (p7, (vI t7)), (p44, (vB t44))] h
def S70_2 (D : CallD) (m : Nat) (t1 : Int) (t4 : AV) (t5 : LN) (t6 t7 : Int) (t44 : Bool) (h : HP) : Res2 :=
 obB (brV t44 (
 ixCV (vS t5) (vI (Int.ofNat 1)) fun vt47 => asIV .u8 vt47 fun t47 =>
 let t48 := notQ (eqQ t47 (Int.ofNat 32))
 some (vB t48)) (
 some (vB false))) fun t49 =>
 br t49 (
 S70_0 D m t1 t4 t5 t6 (Int.ofNat 2) h) (
 S70_0 D m t1 t4 t5 t6 t7 h)
def e70_4 (k t0 t1 h) := kN k [(p0, (vS t0)), (p1, (vI t1))] h
def S70_4 (D : CallD) (m : Nat) (t0 : LN) (t1 : Int) (h : HP) : Res2 :=
 let t4 := AV.ptr (HP.nxQ h) 0
 let h5 := HP.newQ h (.cells true [(kI 0), (.str []), (kI 0)])
 slC (vS t0) (some (vI t1)) none fun vt11 => asS vt11 fun t11 =>
 ixC (vS t11) (vI (Int.ofNat 0)) fun vt13 => asI .u8 vt13 fun t13 =>
 cal D 106 [(vC t13)] h5 fun t16 h7 =>
 asB t16 fun t16a =>
 br t16a (
 cal D 103 [(vS t11), ((.fn 107 [] []) : AV)] h7 fun t18 h8 =>
 asI .i64 t18 fun t18a =>
 slC (vS t11) none (some (vI t18a)) fun vt21 => asS vt21 fun t21 =>
 cal D 109 [(vS t21)] h8 fun t22 h9 =>
 asB t22 fun t22a =>
 br t22a (
 S70_0 D m t1 t4 t11 (Int.ofNat 5) t18a h9) (
 let t24 := ltQ (Int.ofNat 40) t18a
 br t24 (
 S70_0 D m t1 t4 t11 (Int.ofNat 0) t18a h9) (
 S70_0 D m t1 t4 t11 (Int.ofNat 1) t18a h9))) (
 cal D 108 [(vC t13)] h7 fun t27 h10 =>
 asB t27 fun t27a =>
 br t27a (
 cal D 110 [(vS t11)] h10 fun t30 h11 =>
 extC t30 0 fun vt31 => asI .i64 vt31 fun t31 =>
 extC t30 1 fun vt32 => asI .i64 vt32 fun t32 =>
 S70_0 D m t1 t4 t11 t31 t32 h11) (
 cal D 101 [(vS ([43, 45, 42, 47, 37, 38, 124, 94, 126, 33, 60, 62, 61, 40, 41, 123, 125, 91, 93, 59, 44] : LN)), (vC t13)] h10 fun t35 h12 =>
 asI .i64 t35 fun t35a =>
 let t36 := leQ (Int.ofNat 0) t35a
 br t36 (
 let t38 := Int.ofNat (lenL t11)
 let t39 := ltQ (Int.ofNat 1) t38
 br t39 (
 slC (vS t11) none (some (vI (Int.ofNat 2))) fun vt42 => asS vt42 fun t42 =>
 cal D 111 [(vS ([60, 60, 32, 62, 62, 32, 60, 61, 32, 62, 61, 32, 61, 61, 32, 33, 61, 32, 38, 38, 32, 124, 124] : LN)), (vS t42)] h12 fun t43 h13 =>
 asB t43 fun t43a =>
 S70_2 D m t1 t4 t11 (Int.ofNat 4) (Int.ofNat 1) t43a h13) (
 S70_2 D m t1 t4 t11 (Int.ofNat 4) (Int.ofNat 1) false h12)) (
 S70_0 D m t1 t4 t11 (Int.ofNat 0) (Int.ofNat 0) h12)))
def S70 : SFn := fun D m args h u => nou u <| popS args fun t0 args => popI .i64 args fun t1 args => endA args (S70_4 D m t0 t1 h)
theorem T70_1 (hE : FX x70 D m E) : S70_1 D m = e70_1 (E c70_1 []) := by unfold S70_1; rw [hE c70_1]; kernel_rfl
theorem T70_0 (hE : FX x70 D m E) : S70_0 D m = e70_0 (E c70_0 []) := by unfold S70_0; rw [T70_1 hE, hE c70_0]; kernel_rfl
theorem T70_2 (hE : FX x70 D m E) : S70_2 D m = e70_2 (E (.opq false l70_2 c70_3) [.blk 0, .sj v70_0 c70_0]) := by unfold S70_2; rw [T70_0 hE, hE (.opq false l70_2 c70_3)]; kernel_rfl
theorem T70_4 (hE : FX x70 D m E) : S70_4 D m = e70_4 (E c70_e []) := by unfold S70_4; rw [T70_0 hE, T70_2 hE, hE c70_e]; kernel_rfl
theorem X70 : XTie S70 x70 := X_of fun D m E hE args h u => by unfold S70; rw [T70_4 hE]; kernel_rfl
/- 71 -/
def c71_e : XC := (.sO [.mv p4 (cb false) .b] (.seq (.seq (.oX [.mv p5 q0 .v, .mv p6 q1 .s, .al p7 (.bsl [(.str [])] 1 [⟨0, 1, q6⟩]), .cl p8 75 [q5, q7] .b]) (.cond q8 (.seq (.oX [.mv p9 q0 .v, .P p10 (.nilck q9) .v, .fa p11 1 q10, .ld p12 q11 tI, .bn p13 .add q12 (ci 1) tI, .P p14 (.nilck q9) .v, .fa p15 1 q14, .st q15 q13]) (.seq (.oX [.mv p4 (cb true) .b]) .ret)) .skip)) (.sO [.mv p4 (cb false) .b] (.s .ret))))
def x71 : XFn := ⟨[.v, .s], false, [(.tmp p4)], c71_e⟩
def e71_0 (k t0 t1 h) := kN k [(p0, t0), (p1, (vS t1))] h
def S71_0 (D : CallD) (m : Nat) (t0 : AV) (t1 : LN) (h : HP) : Res2 :=
 let t7 := AV.slice (HP.nxQ h) 0 1 (.exact 1)
 let h1 := HP.newQ h (.cells true [(vS t1)])
 cal D 75 [t0, t7] h1 fun t8 h2 =>
 asB t8 fun t8a =>
 br t8a (
 nilckC t0 fun t10 =>
 faC 1 t10 fun t11 =>
 ldI t11 h2 fun t12 =>
 let t13 := wrQ .i64 (addQ t12 (Int.ofNat 1))
 nilckC t0 fun t14 =>
 faC 1 t14 fun t15 =>
 stoC t15 (vI t13) h2 fun h3 =>
 some (.ret (vB true) h3, .no)) (
 some (.ret (vB false) h2, .no))
def S71 : SFn := fun D m args h u => nou u <| popV args fun t0 args => popS args fun t1 args => endA args (S71_0 D m t0 t1 h)
theorem T71_0 (hE : FX x71 D m E) : S71_0 D m = e71_0 (E c71_e []) := by unfold S71_0; rw [hE c71_e]; kernel_rfl
theorem X71 : XTie S71 x71 := X_of fun D m E hE args h u => by unfold S71; rw [T71_0 hE]; kernel_rfl
/- 72 -/
def c72_e : XC := (.sO [.mv p2 (ci 0) tI] (.seq (.block 0 (.seq (.oX [.mv p4 q0 .v, .cl p5 71 [q4, (.c (.str [105, 110, 116]))] .b, .mv p3 q5 .b]) (.cond q3 (.seq (.seq (.oX [.mv p6 q0 .v, .cl p7 71 [q6, (.c (.str [42]))] .b]) (.cond q7 (.seq (.oX [.mv p2 (ci 3) tI]) .ret) .skip)) (.seq (.oX [.mv p2 (ci 1) tI]) .ret)) (.seq (.oX [.mv p9 q0 .v, .cl p10 71 [q9, (.c (.str [100, 111, 117, 98, 108, 101]))] .b, .mv p8 q10 .b]) (.cond q8 (.seq (.seq (.oX [.mv p11 q0 .v, .cl p12 71 [q11, (.c (.str [42]))] .b]) (.cond q12 (.seq (.oX [.mv p2 (ci 4) tI]) .ret) .skip)) (.seq (.oX [.mv p2 (ci 2) tI]) .ret)) .skip))))) (.sO [.mv p13 q0 .v, .cl p14 77 [q13, (.c (.str [118, 111, 105, 100]))] .v] (.sO [.mv p2 (ci 0) tI] (.s .ret)))))
def x72 : XFn := ⟨[.v], false, [(.tmp p2)], c72_e⟩
def e72_0 (k t0 h) := kN k [(p0, t0)] h
def S72_0 (D : CallD) (m : Nat) (t0 : AV) (h : HP) : Res2 :=
 cal D 71 [t0, (vS ([105, 110, 116] : LN))] h fun t5 h1 =>
 asB t5 fun t5a =>
 br t5a (
 cal D 71 [t0, (vS ([42] : LN))] h1 fun t7 h2 =>
 asB t7 fun t7a =>
 br t7a (
 some (.ret (vI (Int.ofNat 3)) h2, .no)) (
 some (.ret (vI (Int.ofNat 1)) h2, .no))) (
 cal D 71 [t0, (vS ([100, 111, 117, 98, 108, 101] : LN))] h1 fun t10 h3 =>
 asB t10 fun t10a =>
 br t10a (
 cal D 71 [t0, (vS ([42] : LN))] h3 fun t12 h4 =>
 asB t12 fun t12a =>
 br t12a (
 some (.ret (vI (Int.ofNat 4)) h4, .no)) (
 some (.ret (vI (Int.ofNat 2)) h4, .no))) (
 cal D 77 [t0, (vS ([118, 111, 105, 100] : LN))] h3 fun t14 h5 =>
 some (.ret (vI (Int.ofNat 0)) h5, .no)))
def S72 : SFn := fun D m args h u => nou u <| popV args fun t0 args => endA args (S72_0 D m t0 h)
theorem T72_0 (hE : FX x72 D m E) : S72_0 D m = e72_0 (E c72_e []) := by unfold S72_0; rw [hE c72_e]; kernel_rfl
theorem X72 : XTie S72 x72 := X_of fun D m E hE args h u => by unfold S72; rw [T72_0 hE]; kernel_rfl
/- 73 -/
def v73_0 : List Pos := [p0, p5]
def c73_0 : XC := (.sO [.mv p14 q0 .v, .P p15 (.nilck q14) .v, .fa p16 1 q15, .ld p17 q16 tI, .bn p18 .add q17 (ci 1) tI, .P p19 (.nilck q14) .v, .fa p20 1 q19, .st q20 q18] (.sO [.fa p21 1 q5, .ld p22 q21 .s, .mv p4 q22 .s] (.s .ret)))
def c73_e : XC := (.sO [.mv p4 (.c (.str [])) .s] (.sO [.mv p6 q0 .v, .cl p7 50 [q6] .v, .al p5 (.new [(kI 0), (.str []), (kI 0)]), .ss 3 q5 q7] (.sj v73_0 (.sO [.fa p8 0 q5, .ld p9 q8 tI, .mv p10 q1 tI, .bn p11 .neq q9 q10 .b] (.cond q11 (.s (.oX [.mv p12 q0 .v, .cl p13 112 [q12, (ci 11)] .v])) (.s .skip))) c73_0)))
def x73 : XFn := ⟨[.v, tI], false, [(.tmp p4)], c73_e⟩
def e73_0 (k t0 t5 h) := kN k [(p0, t0), (p5, t5)] h
def S73_0 (D : CallD) (m : Nat) (t0 t5 : AV) (h : HP) : Res2 :=
 nilckC t0 fun t15 =>
 faC 1 t15 fun t16 =>
 ldI t16 h fun t17 =>
 let t18 := wrQ .i64 (addQ t17 (Int.ofNat 1))
 nilckC t0 fun t19 =>
 faC 1 t19 fun t20 =>
 stoC t20 (vI t18) h fun h5 =>
 faC 1 t5 fun t21 =>
 ldS t21 h5 fun t22 =>
 some (.ret (vS t22) h5, .no)
def e73_1 (k t0 t1 h) := kN k [(p0, t0), (p1, (vI t1))] h
def S73_1 (D : CallD) (m : Nat) (t0 : AV) (t1 : Int) (h : HP) : Res2 :=
 cal D 50 [t0] h fun t7 h2 =>
 let t5 := AV.ptr (HP.nxQ h2) 0
 let h3 := HP.newQ h2 (.cells true [(kI 0), (.str []), (kI 0)])
 stsC 3 t5 t7 h3 fun h4 =>
 let t8 := (AV.ptr (HP.nxQ h2) (Nat.add 0 0))
 ldI t8 h4 fun t9 =>
 let t11 := notQ (eqQ t9 t1)
 br t11 (
 cal D 112 [t0, (vI (Int.ofNat 11))] h4 fun t13 h6 =>
 S73_0 D m t0 t5 h6) (
 S73_0 D m t0 t5 h4)
def S73 : SFn := fun D m args h u => nou u <| popV args fun t0 args => popI .i64 args fun t1 args => endA args (S73_1 D m t0 t1 h)
theorem T73_0 (hE : FX x73 D m E) : S73_0 D m = e73_0 (E c73_0 []) := by unfold S73_0; rw [hE c73_0]; kernel_rfl
theorem T73_1 (hE : FX x73 D m E) : S73_1 D m = e73_1 (E c73_e []) := by unfold S73_1; rw [T73_0 hE, hE c73_e]; kernel_rfl
theorem X73 : XTie S73 x73 := X_of fun D m E hE args h u => by unfold S73; rw [T73_1 hE]; kernel_rfl
end
end Go.Proofs.YtakcpnpeadkfpaaGreatDoor.Sx
