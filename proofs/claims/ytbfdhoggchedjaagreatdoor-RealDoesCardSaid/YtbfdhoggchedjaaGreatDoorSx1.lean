/- Functions, printed by a program of ours: their code, what they do, and that it is so. -/
import Derived.Test.YtbfdhoggchedjaaGreatDoorSp
set_option maxRecDepth 8000
set_option linter.unusedVariables false
namespace Go.Proofs.YtbfdhoggchedjaaGreatDoor.Sx
open Go Go.Proofs.YtbfdhoggchedjaaGreatDoor.Ev
set_option linter.unusedSectionVars false
noncomputable section
variable [Rho]
variable {D : CallD} {m : Nat} {E : XE}
/- 124 -/
def v124_7 : List Pos := [p2, p3, p4, p5, p6, p7]
def c124_7 : XC := (.sO [.mv p8 (cb true) .b] (.s .ret))
def c124_9 : XC := (.cond q252 (.s .ret) (.s .skip))
def l124_8 : XL := (XL.of [])
def v124_6 : List Pos := [p0, p2, p3, p4, p5, p6, p7, p8, p9]
def c124_6 : XC := (.sj v124_7 (.opq false (XL.pre [.mv p245 q9 .b, .mv p246 q245 .b, .sp p246, .G p246 true p247 (.mov q0) .s, .G p246 true p248 (.mov q7) tI, .G p246 true p249 (.slice .str q247 none (some q248) none) .s, .o ⟨(some p250), (.call (.fn 103) [q249]), (some (p246, true)), []⟩ .b, .G p246 true p251 (.un .not q250) .b, .P p252 (.pick q246 q251 (cb false)) .b, .jn p246 [p2, p3, p4, p5, p6, p7, p8, p252]] l124_8) c124_9) c124_7)
def v124_5 : List Pos := [p0, p2, p3, p4, p5, p6, p7, p8, p9, p16, p17]
def c124_5 : XC := (.sj v124_6 (.sO [.mv p240 q2 (.i .u64), .bn p241 .neq q240 (.c (.int .u64 (.ofNat 0))) .b] (.cond q241 (.s (.oX [.mv p242 q17 tI, .mv p243 q16 tI, .bn p244 .sub q242 q243 tI, .mv p3 q244 tI])) (.s .skip))) c124_6)
def v124_12 : List Pos := [p0, p2, p3, p4, p5, p6, p7, p8, p9, p16, p17, p19, p20]
def c124_12 : XC := (.s (.oX [.mv p233 q17 tI, .mv p234 q20 tI, .mv p235 q19 tI, .bn p236 .mul q234 q235 tI, .bn p237 .add q233 q236 tI, .mv p17 q237 tI]))
def v124_14 : List Pos := [p0, p2, p3, p4, p5, p6, p7, p8, p9, p16, p17, p19, p20]
def c124_14 : XC := (.s (.oX [.mv p217 q7 tI, .bn p218 .add q217 (ci 1) tI, .mv p7 q218 tI]))
def v124_13 : List Pos := [p0, p2, p3, p4, p5, p6, p7, p8, p9, p16, p17, p19, p20]
def c124_13b : XC := (.seq (.seq (.oX [.mv p195 q7 tI, .mv p196 q0 .s, .P p197 (.lens q196) tI, .bn p198 .lss q195 q197 .b, .mv p199 q198 .b, .ge p199 (XL.of [.G p199 true p200 (.mov q0) .s, .G p199 true p201 (.mov q7) tI, .G p199 true p202 (.idxs q200 q201) tC, .G p199 true p203 (.bin .leq (.c (.int .u8 (.ofNat 48))) q202) .b, .G p199 true p204 (.mov q203) .b, .ge p204 (XL.of [.G p204 true p205 (.mov q0) .s, .G p204 true p206 (.mov q7) tI, .G p204 true p207 (.idxs q205 q206) tC, .G p204 true p208 (.bin .leq q207 (.c (.int .u8 (.ofNat 57)))) .b, .G p199 true p209 (.pick q204 q208 (cb false)) .b]) p209 .b, .G p199 true p210 (.mov q209) .b, .ge p210 (XL.of [.G p210 false p211 (.mov q0) .s, .G p210 false p212 (.mov q7) tI, .G p210 false p213 (.idxs q211 q212) tC, .G p210 false p214 (.bin .eql q213 (.c (.int .u8 (.ofNat 95)))) .b, .G p199 true p215 (.pick q210 (cb true) q214) .b]) p215 .b, .P p216 (.pick q199 q215 (cb false)) .b]) p216 .b]) (.cond q216 .skip (.exit 5))) (.sj v124_14 (.block 6 (.seq (.seq (.oX [.mv p219 q0 .s, .mv p220 q7 tI, .P p221 (.idxs q219 q220) tC, .bn p222 .eql q221 (.c (.int .u8 (.ofNat 95))) .b]) (.cond q222 (.seq (.oX [.mv p9 (cb true) .b]) (.exit 6)) .skip)) (.sO [.mv p223 q20 tI, .bn p224 .lss q223 (ci 10000) .b] (.cond q224 (.s (.oX [.mv p225 q20 tI, .bn p226 .mul q225 (ci 10) tI, .mv p227 q0 .s, .mv p228 q7 tI, .P p229 (.idxs q227 q228) tC, .P p230 (.conv (.ii .i64) q229) tI, .bn p231 .add q226 q230 tI, .bn p232 .sub q231 (ci 48) tI, .mv p20 q232 tI])) (.s .skip))))) c124_14))
def v124_11 : List Pos := [p0, p2, p3, p4, p5, p6, p7, p8, p9, p16, p17, p19]
def c124_11 : XC := (.seq (.seq (.oX [.mv p179 q7 tI, .mv p180 q0 .s, .P p181 (.lens q180) tI, .bn p182 .geq q179 q181 .b, .mv p183 q182 .b, .ge p183 (XL.of [.G p183 false p184 (.mov q0) .s, .G p183 false p185 (.mov q7) tI, .G p183 false p186 (.idxs q184 q185) tC, .G p183 false p187 (.bin .lss q186 (.c (.int .u8 (.ofNat 48)))) .b, .P p188 (.pick q183 (cb true) q187) .b]) p188 .b, .mv p189 q188 .b, .ge p189 (XL.of [.G p189 false p190 (.mov q0) .s, .G p189 false p191 (.mov q7) tI, .G p189 false p192 (.idxs q190 q191) tC, .G p189 false p193 (.bin .gtr q192 (.c (.int .u8 (.ofNat 57)))) .b, .P p194 (.pick q189 (cb true) q193) .b]) p194 .b]) (.cond q194 .ret .skip)) (.sO [.mv p20 (ci 0) tI] (.sj v124_12 (.block 5 (.loop v124_13 c124_13b)) c124_12)))
def c124_15 : XC := (.cond q161 (.sO [.mv p162 q7 tI, .bn p163 .add q162 (ci 1) tI, .mv p7 q163 tI] (.seq (.seq (.oX [.mv p164 q7 tI, .mv p165 q0 .s, .P p166 (.lens q165) tI, .bn p167 .geq q164 q166 .b]) (.cond q167 .ret .skip)) (.sO [.mv p19 (ci 1) tI] (.sj v124_11 (.sO [.mv p168 q0 .s, .mv p169 q7 tI, .P p170 (.idxs q168 q169) tC] (.block 4 (.sO [.bn p172 .eql q170 (.c (.int .u8 (.ofNat 43))) .b, .mv p171 q172 .b] (.cond q171 (.s (.oX [.mv p173 q7 tI, .bn p174 .add q173 (ci 1) tI, .mv p7 q174 tI])) (.sO [.bn p176 .eql q170 (.c (.int .u8 (.ofNat 45))) .b, .mv p175 q176 .b] (.cond q175 (.sO [.mv p177 q7 tI, .bn p178 .add q177 (ci 1) tI, .mv p7 q178 tI] (.s (.oX [.mv p19 (.c (.int .i64 (.negSucc 0))) tI]))) (.s .skip))))))) c124_11)))) (.sO [.mv p238 q10 (.i .u64), .bn p239 .eql q238 (.c (.int .u64 (.ofNat 16))) .b] (.cond q239 (.s .ret) (.s .skip))))
def l124_10 : XL := (XL.of [])
def v124_4 : List Pos := [p0, p2, p3, p4, p5, p6, p7, p8, p9, p10, p12, p16, p17]
def c124_4 : XC := (.sj v124_5 (.opq false (XL.pre [.mv p150 q7 tI, .mv p151 q0 .s, .P p152 (.lens q151) tI, .bn p153 .lss q150 q152 .b, .mv p154 q153 .b, .sp p154, .G p154 true p155 (.mov q0) .s, .G p154 true p156 (.mov q7) tI, .G p154 true p157 (.idxs q155 q156) tC, .o ⟨(some p158), (.call (.fn 102) [q157]), (some (p154, true)), []⟩ tC, .G p154 true p159 (.mov q12) tC, .G p154 true p160 (.bin .eql q158 q159) .b, .P p161 (.pick q154 q160 (cb false)) .b, .jn p154 [p0, p2, p3, p4, p5, p6, p7, p8, p9, p10, p16, p17, p161]] l124_10) c124_15) c124_5)
def v124_3 : List Pos := [p0, p2, p3, p4, p5, p6, p7, p8, p9, p10, p12, p16, p17]
def c124_3 : XC := (.sj v124_4 (.sO [.mv p144 q10 (.i .u64), .bn p145 .eql q144 (.c (.int .u64 (.ofNat 16))) .b] (.cond q145 (.sO [.mv p146 q17 tI, .bn p147 .mul q146 (ci 4) tI, .mv p17 q147 tI] (.s (.oX [.mv p148 q16 tI, .bn p149 .mul q148 (ci 4) tI, .mv p16 q149 tI]))) (.s .skip))) c124_4)
def v124_2 : List Pos := [p0, p2, p3, p4, p5, p6, p7, p8, p9, p10, p12, p13, p14, p15, p16, p17]
def c124_2 : XC := (.seq (.seq (.oX [.mv p139 q14 .b, .P p140 (.un .not q139) .b]) (.cond q140 .ret .skip)) (.sj v124_3 (.sO [.mv p141 q13 .b, .P p142 (.un .not q141) .b] (.cond q142 (.s (.oX [.mv p143 q15 tI, .mv p17 q143 tI])) (.s .skip))) c124_3))
def v124_17 : List Pos := [p0, p2, p3, p4, p5, p6, p7, p8, p9, p10, p11, p12, p13, p14, p15, p16, p17]
def c124_17 : XC := (.s (.oX [.mv p61 q7 tI, .bn p62 .add q61 (ci 1) tI, .mv p7 q62 tI]))
def v124_18 : List Pos := [p0, p2, p3, p4, p5, p6, p7, p8, p9, p10, p12, p13, p14, p15, p16, p17]
def c124_18 : XC := (.s (.exit 1))
def v124_19 : List Pos := [p0, p2, p3, p4, p5, p6, p7, p8, p9, p10, p11, p12, p13, p14, p15, p16, p17]
def c124_19 : XC := (.s (.exit 2))
def v124_22 : List Pos := [p0, p2, p3, p4, p5, p6, p7, p8, p9, p10, p11, p12, p13, p14, p15, p16, p17]
def c124_22 : XC := (.s (.exit 2))
def c124_23 : XC := (.cond q109 (.sO [.mv p14 (cb true) .b] (.sO [.mv p123 q15 tI, .bn p124 .add q123 (ci 1) tI, .mv p15 q124 tI] (.sj v124_22 (.sO [.mv p125 q16 tI, .mv p126 q11 tI, .bn p127 .lss q125 q126 .b] (.cond q127 (.sO [.mv p128 q2 (.i .u64), .bn p129 .mul q128 (.c (.int .u64 (.ofNat 16))) (.i .u64), .mv p2 q129 (.i .u64)] (.sO [.mv p130 q2 (.i .u64), .mv p131 q18 tC, .cl p132 102 [q131] tC, .bn p133 .sub q132 (.c (.int .u8 (.ofNat 97))) tC, .bn p134 .add q133 (.c (.int .u8 (.ofNat 10))) tC, .P p135 (.conv (.ii .u64) q134) (.i .u64), .bn p136 .add q130 q135 (.i .u64), .mv p2 q136 (.i .u64)] (.s (.oX [.mv p137 q16 tI, .bn p138 .add q137 (ci 1) tI, .mv p16 q138 tI])))) (.s (.oX [.mv p5 (cb true) .b])))) c124_22))) (.s .skip))
def l124_21 : XL := (XL.of [.P p122 (.eqb false (cb true) q121) .b, .mv p109 q122 .b])
def l124_20 : XL := (XL.pre [.mv p117 q116 .b, .sp p117, .G p117 true p118 (.mov q18) tC, .o ⟨(some p119), (.call (.fn 102) [q118]), (some (p117, true)), []⟩ tC, .G p117 true p120 (.bin .leq q119 (.c (.int .u8 (.ofNat 102)))) .b, .P p121 (.pick q117 q120 (cb false)) .b, .jn p117 [p0, p2, p3, p4, p5, p6, p7, p8, p9, p10, p11, p12, p13, p14, p15, p16, p17, p18, p121]] l124_21)
def v124_16 : List Pos := [p0, p2, p3, p4, p5, p6, p7, p8, p9, p10, p11, p12, p13, p14, p15, p16, p17]
def c124_16b : XC := (.seq (.seq (.oX [.mv p57 q7 tI, .mv p58 q0 .s, .P p59 (.lens q58) tI, .bn p60 .lss q57 q59 .b]) (.cond q60 .skip (.exit 1))) (.sj v124_17 (.block 2 (.sj v124_18 (.sO [.mv p63 q0 .s, .mv p64 q7 tI, .P p65 (.idxs q63 q64) tC, .mv p18 q65 tC] (.block 3 (.sO [.mv p67 q18 tC, .bn p68 .eql q67 (.c (.int .u8 (.ofNat 95))) .b, .P p69 (.eqb false (cb true) q68) .b, .mv p66 q69 .b] (.cond q66 (.sO [.mv p9 (cb true) .b] (.s (.exit 2))) (.sO [.mv p71 q18 tC, .bn p72 .eql q71 (.c (.int .u8 (.ofNat 46))) .b, .P p73 (.eqb false (cb true) q72) .b, .mv p70 q73 .b] (.cond q70 (.seq (.seq (.oX [.mv p74 q13 .b]) (.cond q74 (.exit 1) .skip)) (.sO [.mv p13 (cb true) .b] (.sO [.mv p75 q15 tI, .mv p17 q75 tI] (.s (.exit 2))))) (.sO [.mv p77 q18 tC, .bn p78 .leq (.c (.int .u8 (.ofNat 48))) q77 .b, .mv p79 q78 .b, .ge p79 (XL.of [.G p79 true p80 (.mov q18) tC, .G p79 true p81 (.bin .leq q80 (.c (.int .u8 (.ofNat 57)))) .b, .P p82 (.pick q79 q81 (cb false)) .b]) p82 .b, .P p83 (.eqb false (cb true) q82) .b, .mv p76 q83 .b] (.cond q76 (.sO [.mv p14 (cb true) .b] (.seq (.seq (.oX [.mv p84 q18 tC, .bn p85 .eql q84 (.c (.int .u8 (.ofNat 48))) .b, .mv p86 q85 .b, .ge p86 (XL.of [.G p86 true p87 (.mov q15) tI, .G p86 true p88 (.bin .eql q87 (ci 0)) .b, .P p89 (.pick q86 q88 (cb false)) .b]) p89 .b]) (.cond q89 (.seq (.oX [.mv p90 q17 tI, .bn p91 .sub q90 (ci 1) tI, .mv p17 q91 tI]) (.exit 2)) .skip)) (.sO [.mv p92 q15 tI, .bn p93 .add q92 (ci 1) tI, .mv p15 q93 tI] (.sj v124_19 (.sO [.mv p94 q16 tI, .mv p95 q11 tI, .bn p96 .lss q94 q95 .b] (.cond q96 (.sO [.mv p97 q2 (.i .u64), .mv p98 q10 (.i .u64), .bn p99 .mul q97 q98 (.i .u64), .mv p2 q99 (.i .u64)] (.sO [.mv p100 q2 (.i .u64), .mv p101 q18 tC, .bn p102 .sub q101 (.c (.int .u8 (.ofNat 48))) tC, .P p103 (.conv (.ii .u64) q102) (.i .u64), .bn p104 .add q100 q103 (.i .u64), .mv p2 q104 (.i .u64)] (.s (.oX [.mv p105 q16 tI, .bn p106 .add q105 (ci 1) tI, .mv p16 q106 tI])))) (.sO [.mv p107 q18 tC, .bn p108 .neq q107 (.c (.int .u8 (.ofNat 48))) .b] (.cond q108 (.s (.oX [.mv p5 (cb true) .b])) (.s .skip))))) c124_19)))) (.opq false (XL.pre [.mv p110 q10 (.i .u64), .bn p111 .eql q110 (.c (.int .u64 (.ofNat 16))) .b, .mv p112 q111 .b, .sp p112, .G p112 true p113 (.mov q18) tC, .o ⟨(some p114), (.call (.fn 102) [q113]), (some (p112, true)), []⟩ tC, .G p112 true p115 (.bin .leq (.c (.int .u8 (.ofNat 97))) q114) .b, .P p116 (.pick q112 q115 (cb false)) .b, .jn p112 [p0, p2, p3, p4, p5, p6, p7, p8, p9, p10, p11, p12, p13, p14, p15, p16, p17, p18, p116]] l124_20) c124_23))))))))) c124_18)) c124_17))
def v124_1 : List Pos := [p0, p2, p3, p4, p5, p6, p7, p8, p9, p10, p11, p12]
def c124_1 : XC := (.sO [.mv p13 (cb false) .b] (.sO [.mv p14 (cb false) .b] (.sO [.mv p15 (ci 0) tI] (.sO [.mv p16 (ci 0) tI] (.sO [.mv p17 (ci 0) tI] (.seq .skip (.sj v124_2 (.block 1 (.loop v124_16 c124_16b)) c124_2)))))))
def c124_25 : XC := (.cond q54 (.sO [.mv p10 (.c (.int .u64 (.ofNat 16))) (.i .u64)] (.sO [.mv p11 (ci 16) tI] (.sO [.mv p55 q7 tI, .bn p56 .add q55 (ci 2) tI, .mv p7 q56 tI] (.sO [.mv p12 (.c (.int .u8 (.ofNat 112))) tC] (.s (.oX [.mv p6 (cb true) .b])))))) (.s .skip))
def l124_24 : XL := (XL.of [])
def v124_0 : List Pos := [p0, p2, p3, p4, p5, p6, p7, p8, p9]
def c124_0 : XC := (.sO [.mv p10 (.c (.int .u64 (.ofNat 10))) (.i .u64)] (.sO [.mv p11 (ci 19) tI] (.sO [.mv p12 (.c (.int .u8 (.ofNat 101))) tC] (.sj v124_1 (.opq false (XL.pre [.mv p36 q7 tI, .bn p37 .add q36 (ci 2) tI, .mv p38 q0 .s, .P p39 (.lens q38) tI, .bn p40 .lss q37 q39 .b, .mv p41 q40 .b, .ge p41 (XL.of [.G p41 true p42 (.mov q0) .s, .G p41 true p43 (.mov q7) tI, .G p41 true p44 (.idxs q42 q43) tC, .G p41 true p45 (.bin .eql q44 (.c (.int .u8 (.ofNat 48)))) .b, .P p46 (.pick q41 q45 (cb false)) .b]) p46 .b, .mv p47 q46 .b, .sp p47, .G p47 true p48 (.mov q0) .s, .G p47 true p49 (.mov q7) tI, .G p47 true p50 (.bin .add q49 (ci 1)) tI, .G p47 true p51 (.idxs q48 q50) tC, .o ⟨(some p52), (.call (.fn 102) [q51]), (some (p47, true)), []⟩ tC, .G p47 true p53 (.bin .eql q52 (.c (.int .u8 (.ofNat 120)))) .b, .P p54 (.pick q47 q53 (cb false)) .b, .jn p47 [p0, p2, p3, p4, p5, p6, p7, p8, p9, p10, p11, p12, p54]] l124_24) c124_25) c124_1))))
def c124_e : XC := (.sO [.mv p2 (.c (.int .u64 (.ofNat 0))) (.i .u64), .mv p3 (ci 0) tI, .mv p4 (cb false) .b, .mv p5 (cb false) .b, .mv p6 (cb false) .b, .mv p7 (ci 0) tI, .mv p8 (cb false) .b] (.scope (.sO [.mv p9 (cb false) .b] (.seq (.seq (.oX [.mv p21 q7 tI, .mv p22 q0 .s, .P p23 (.lens q22) tI, .bn p24 .geq q21 q23 .b]) (.cond q24 .ret .skip)) (.sj v124_0 (.sO [.mv p25 q0 .s, .mv p26 q7 tI, .P p27 (.idxs q25 q26) tC] (.block 0 (.sO [.bn p29 .eql q27 (.c (.int .u8 (.ofNat 43))) .b, .mv p28 q29 .b] (.cond q28 (.s (.oX [.mv p30 q7 tI, .bn p31 .add q30 (ci 1) tI, .mv p7 q31 tI])) (.sO [.bn p33 .eql q27 (.c (.int .u8 (.ofNat 45))) .b, .mv p32 q33 .b] (.cond q32 (.sO [.mv p34 q7 tI, .bn p35 .add q34 (ci 1) tI, .mv p7 q35 tI] (.s (.oX [.mv p4 (cb true) .b]))) (.s .skip))))))) c124_0)))))
def x124 : XFn := ⟨[.s], false, [(.tmp p2), (.tmp p3), (.tmp p4), (.tmp p5), (.tmp p6), (.tmp p7), (.tmp p8)], c124_e⟩
def e124_7 (k t2 t3 t4 t5 t6 t7 h) := kN k [(p2, (AV.int .u64 t2)), (p3, (vI t3)), (p4, (vB t4)), (p5, (vB t5)), (p6, (vB t6)), (p7, (vI t7))] h
def S124_7 (D : CallD) (m : Nat) (t2 t3 : Int) (t4 t5 t6 : Bool) (t7 : Int) (h : HP) : Res2 :=
 some (.ret (.tup [(AV.int .u64 t2), (vI t3), (vB t4), (vB t5), (vB t6), (vI t7), (vB true)]) h, .no)
def e124_8 (k t2 t3 t4 t5 t6 t7 t8 t252 h) := kN k [(p2, (AV.int .u64 t2)), (p3, (vI t3)), (p4, (vB t4)), (p5, (vB t5)), (p6, (vB t6)), (p7, (vI t7)), (p8, (vB t8)), (p252, (vB t252))] h
def S124_8 (D : CallD) (m : Nat) (t2 t3 : Int) (t4 t5 t6 : Bool) (t7 : Int) (t8 t252 : Bool) (h : HP) : Res2 :=
 br t252 (
 some (.ret (.tup [(AV.int .u64 t2), (vI t3), (vB t4), (vB t5), (vB t6), (vI t7), (vB t8)]) h, .no)) (
 S124_7 D m t2 t3 t4 t5 t6 t7 h)
def e124_6 (k t0 t2 t3 t4 t5 t6 t7 t8 t9 h) := kN k [(p0, (vS t0)), (p2, (AV.int .u64 t2)), (p3, (vI t3)), (p4, (vB t4)), (p5, (vB t5)), (p6, (vB t6)), (p7, (vI t7)), (p8, (vB t8)), (p9, (vB t9))] h
def S124_6 (D : CallD) (m : Nat) (t0 : LN) (t2 t3 : Int) (t4 t5 t6 : Bool) (t7 : Int) (t8 t9 : Bool) (h : HP) : Res2 :=
 br t9 (
 slC (vS t0) none (some (vI t7)) fun vt249 => asS vt249 fun t249 =>
 cal D 103 [(vS t249)] h fun t250 h27 =>
 asB t250 fun t250a =>
 let t251 := !t250a
 S124_8 D m t2 t3 t4 t5 t6 t7 t8 t251 h27) (
 S124_8 D m t2 t3 t4 t5 t6 t7 t8 false h)
def e124_5 (k t0 t2 t3 t4 t5 t6 t7 t8 t9 t16 t17 h) := kN k [(p0, (vS t0)), (p2, (AV.int .u64 t2)), (p3, (vI t3)), (p4, (vB t4)), (p5, (vB t5)), (p6, (vB t6)), (p7, (vI t7)), (p8, (vB t8)), (p9, (vB t9)), (p16, (vI t16)), (p17, (vI t17))] h
def S124_5 (D : CallD) (m : Nat) (t0 : LN) (t2 t3 : Int) (t4 t5 t6 : Bool) (t7 : Int) (t8 t9 : Bool) (t16 t17 : Int) (h : HP) : Res2 :=
 let t241 := notQ (eqQ t2 (Int.ofNat 0))
 br t241 (
 let t244 := wrQ .i64 (t17 - t16)
 S124_6 D m t0 t2 t244 t4 t5 t6 t7 t8 t9 h) (
 S124_6 D m t0 t2 t3 t4 t5 t6 t7 t8 t9 h)
def e124_12 (k t0 t2 t3 t4 t5 t6 t7 t8 t9 t16 t17 t19 t20 h) := kN k [(p0, (vS t0)), (p2, (AV.int .u64 t2)), (p3, (vI t3)), (p4, (vB t4)), (p5, (vB t5)), (p6, (vB t6)), (p7, (vI t7)), (p8, (vB t8)), (p9, (vB t9)), (p16, (vI t16)), (p17, (vI t17)), (p19, (vI t19)), (p20, (vI t20))] h
def S124_12 (D : CallD) (m : Nat) (t0 : LN) (t2 t3 : Int) (t4 t5 t6 : Bool) (t7 : Int) (t8 t9 : Bool) (t16 t17 t19 t20 : Int) (h : HP) : Res2 :=
 let t236 := wrQ .i64 (t20 * t19)
 let t237 := wrQ .i64 (addQ t17 t236)
 S124_5 D m t0 t2 t3 t4 t5 t6 t7 t8 t9 t16 t237 h
def e124_14 (k t0 t2 t3 t4 t5 t6 t7 t8 t9 t16 t17 t19 t20 h) := kN k [(p0, (vS t0)), (p2, (AV.int .u64 t2)), (p3, (vI t3)), (p4, (vB t4)), (p5, (vB t5)), (p6, (vB t6)), (p7, (vI t7)), (p8, (vB t8)), (p9, (vB t9)), (p16, (vI t16)), (p17, (vI t17)), (p19, (vI t19)), (p20, (vI t20))] h
def S124_14 (D : CallD) (m : Nat) (g13 : LN → Int → Int → Bool → Bool → Bool → Int → Bool → Bool → Int → Int → Int → Int → HP → Res2) (t0 : LN) (t2 t3 : Int) (t4 t5 t6 : Bool) (t7 : Int) (t8 t9 : Bool) (t16 t17 t19 t20 : Int) (h : HP) : Res2 :=
 let t218 := wrQ .i64 (addQ t7 (Int.ofNat 1))
 g13 t0 t2 t3 t4 t5 t6 t218 t8 t9 t16 t17 t19 t20 h
def e124_13 (k t0 t2 t3 t4 t5 t6 t7 t8 t9 t16 t17 t19 t20 h) := kN k [(p0, (vS t0)), (p2, (AV.int .u64 t2)), (p3, (vI t3)), (p4, (vB t4)), (p5, (vB t5)), (p6, (vB t6)), (p7, (vI t7)), (p8, (vB t8)), (p9, (vB t9)), (p16, (vI t16)), (p17, (vI t17)), (p19, (vI t19)), (p20, (vI t20))] h
def S124_13b (D : CallD) (m : Nat) (g13 : LN → Int → Int → Bool → Bool → Bool → Int → Bool → Bool → Int → Int → Int → Int → HP → Res2) (t0 : LN) (t2 t3 : Int) (t4 t5 t6 : Bool) (t7 : Int) (t8 t9 : Bool) (t16 t17 t19 t20 : Int) (h : HP) : Res2 :=
 let t197 := Int.ofNat (lenL t0)
 let t198 := ltQ t7 t197
 obB (brV t198 (
 ixCV (vS t0) (vI t7) fun vt202 => asIV .u8 vt202 fun t202 =>
 let t203 := leQ (Int.ofNat 48) t202
 obBV (brV t203 (
 ixCV (vS t0) (vI t7) fun vt207 => asIV .u8 vt207 fun t207 =>
 let t208 := leQ t207 (Int.ofNat 57)
 some (vB t208)) (
 some (vB false))) fun t209 =>
 obBV (brV t209 (
 some (vB true)) (
 ixCV (vS t0) (vI t7) fun vt213 => asIV .u8 vt213 fun t213 =>
 let t214 := eqQ t213 (Int.ofNat 95)
 some (vB t214))) fun t215 =>
 some (vB t215)) (
 some (vB false))) fun t216 =>
 br t216 (
 ixC (vS t0) (vI t7) fun vt221 => asI .u8 vt221 fun t221 =>
 let t222 := eqQ t221 (Int.ofNat 95)
 br t222 (
 S124_14 D m g13 t0 t2 t3 t4 t5 t6 t7 t8 true t16 t17 t19 t20 h) (
 let t224 := ltQ t20 (Int.ofNat 10000)
 br t224 (
 let t226 := wrQ .i64 (t20 * (Int.ofNat 10))
 ixC (vS t0) (vI t7) fun vt229 => asI .u8 vt229 fun t229 =>
 let t230 := wrapF .i64 t229
 let t231 := wrQ .i64 (addQ t226 t230)
 let t232 := wrQ .i64 (t231 - (Int.ofNat 48))
 S124_14 D m g13 t0 t2 t3 t4 t5 t6 t7 t8 t9 t16 t17 t19 t232 h) (
 S124_14 D m g13 t0 t2 t3 t4 t5 t6 t7 t8 t9 t16 t17 t19 t20 h))) (
 S124_12 D m t0 t2 t3 t4 t5 t6 t7 t8 t9 t16 t17 t19 t20 h)
def S124_13 (D : CallD) (m : Nat) : LN → Int → Int → Bool → Bool → Bool → Int → Bool → Bool → Int → Int → Int → Int → HP → Res2 := nrec (fun _ _ _ _ _ _ _ _ _ _ _ _ _ _ => none) (fun _ g => S124_13b D m g) m
def e124_11 (k t0 t2 t3 t4 t5 t6 t7 t8 t9 t16 t17 t19 h) := kN k [(p0, (vS t0)), (p2, (AV.int .u64 t2)), (p3, (vI t3)), (p4, (vB t4)), (p5, (vB t5)), (p6, (vB t6)), (p7, (vI t7)), (p8, (vB t8)), (p9, (vB t9)), (p16, (vI t16)), (p17, (vI t17)), (p19, (vI t19))] h
def S124_11 (D : CallD) (m : Nat) (t0 : LN) (t2 t3 : Int) (t4 t5 t6 : Bool) (t7 : Int) (t8 t9 : Bool) (t16 t17 t19 : Int) (h : HP) : Res2 :=
 let t181 := Int.ofNat (lenL t0)
 let t182 := leQ t181 t7
 obB (brV t182 (
 some (vB true)) (
 ixCV (vS t0) (vI t7) fun vt186 => asIV .u8 vt186 fun t186 =>
 let t187 := ltQ t186 (Int.ofNat 48)
 some (vB t187))) fun t188 =>
 obB (brV t188 (
 some (vB true)) (
 ixCV (vS t0) (vI t7) fun vt192 => asIV .u8 vt192 fun t192 =>
 let t193 := ltQ (Int.ofNat 57) t192
 some (vB t193))) fun t194 =>
 br t194 (
 some (.ret (.tup [(AV.int .u64 t2), (vI t3), (vB t4), (vB t5), (vB t6), (vI t7), (vB t8)]) h, .no)) (
 S124_13 D m t0 t2 t3 t4 t5 t6 t7 t8 t9 t16 t17 t19 (Int.ofNat 0) h)
def e124_10 (k t0 t2 t3 t4 t5 t6 t7 t8 t9 t10 t16 t17 t161 h) := kN k [(p0, (vS t0)), (p2, (AV.int .u64 t2)), (p3, (vI t3)), (p4, (vB t4)), (p5, (vB t5)), (p6, (vB t6)), (p7, (vI t7)), (p8, (vB t8)), (p9, (vB t9)), (p10, (AV.int .u64 t10)), (p16, (vI t16)), (p17, (vI t17)), (p161, (vB t161))] h
def S124_10 (D : CallD) (m : Nat) (t0 : LN) (t2 t3 : Int) (t4 t5 t6 : Bool) (t7 : Int) (t8 t9 : Bool) (t10 t16 t17 : Int) (t161 : Bool) (h : HP) : Res2 :=
 br t161 (
 let t163 := wrQ .i64 (addQ t7 (Int.ofNat 1))
 let t166 := Int.ofNat (lenL t0)
 let t167 := leQ t166 t163
 br t167 (
 some (.ret (.tup [(AV.int .u64 t2), (vI t3), (vB t4), (vB t5), (vB t6), (vI t163), (vB t8)]) h, .no)) (
 ixC (vS t0) (vI t163) fun vt170 => asI .u8 vt170 fun t170 =>
 let t172 := eqQ t170 (Int.ofNat 43)
 br t172 (
 let t174 := wrQ .i64 (addQ t163 (Int.ofNat 1))
 S124_11 D m t0 t2 t3 t4 t5 t6 t174 t8 t9 t16 t17 (Int.ofNat 1) h) (
 let t176 := eqQ t170 (Int.ofNat 45)
 br t176 (
 let t178 := wrQ .i64 (addQ t163 (Int.ofNat 1))
 S124_11 D m t0 t2 t3 t4 t5 t6 t178 t8 t9 t16 t17 (Int.negSucc 0) h) (
 S124_11 D m t0 t2 t3 t4 t5 t6 t163 t8 t9 t16 t17 (Int.ofNat 1) h)))) (
 let t239 := eqQ t10 (Int.ofNat 16)
 br t239 (
 some (.ret (.tup [(AV.int .u64 t2), (vI t3), (vB t4), (vB t5), (vB t6), (vI t7), (vB t8)]) h, .no)) (
 S124_5 D m t0 t2 t3 t4 t5 t6 t7 t8 t9 t16 t17 h))
def e124_4 (k t0 t2 t3 t4 t5 t6 t7 t8 t9 t10 t12 t16 t17 h) := kN k [(p0, (vS t0)), (p2, (AV.int .u64 t2)), (p3, (vI t3)), (p4, (vB t4)), (p5, (vB t5)), (p6, (vB t6)), (p7, (vI t7)), (p8, (vB t8)), (p9, (vB t9)), (p10, (AV.int .u64 t10)), (p12, (vC t12)), (p16, (vI t16)), (p17, (vI t17))] h
def S124_4 (D : CallD) (m : Nat) (t0 : LN) (t2 t3 : Int) (t4 t5 t6 : Bool) (t7 : Int) (t8 t9 : Bool) (t10 t12 t16 t17 : Int) (h : HP) : Res2 :=
 let t152 := Int.ofNat (lenL t0)
 let t153 := ltQ t7 t152
 br t153 (
 ixC (vS t0) (vI t7) fun vt157 => asI .u8 vt157 fun t157 =>
 cal D 102 [(vC t157)] h fun t158 h28 =>
 asI .u8 t158 fun t158a =>
 let t160 := eqQ t158a t12
 S124_10 D m t0 t2 t3 t4 t5 t6 t7 t8 t9 t10 t16 t17 t160 h28) (
 S124_10 D m t0 t2 t3 t4 t5 t6 t7 t8 t9 t10 t16 t17 false h)
def e124_3 (k t0 t2 t3 t4 t5 t6 t7 t8 t9 t10 t12 t16 t17 h) := kN k [(p0, (vS t0)), (p2, (AV.int .u64 t2)), (p3, (vI t3)), (p4, (vB t4)), (p5, (vB t5)), (p6, (vB t6)), (p7, (vI t7)), (p8, (vB t8)), (p9, (vB t9)), (p10, (AV.int .u64 t10)), (p12, (vC t12)), (p16, (vI t16)), (p17, (vI t17))] h
def S124_3 (D : CallD) (m : Nat) (t0 : LN) (t2 t3 : Int) (t4 t5 t6 : Bool) (t7 : Int) (t8 t9 : Bool) (t10 t12 t16 t17 : Int) (h : HP) : Res2 :=
 let t145 := eqQ t10 (Int.ofNat 16)
 br t145 (
 let t147 := wrQ .i64 (t17 * (Int.ofNat 4))
 let t149 := wrQ .i64 (t16 * (Int.ofNat 4))
 S124_4 D m t0 t2 t3 t4 t5 t6 t7 t8 t9 t10 t12 t149 t147 h) (
 S124_4 D m t0 t2 t3 t4 t5 t6 t7 t8 t9 t10 t12 t16 t17 h)
def e124_2 (k t0 t2 t3 t4 t5 t6 t7 t8 t9 t10 t12 t13 t14 t15 t16 t17 h) := kN k [(p0, (vS t0)), (p2, (AV.int .u64 t2)), (p3, (vI t3)), (p4, (vB t4)), (p5, (vB t5)), (p6, (vB t6)), (p7, (vI t7)), (p8, (vB t8)), (p9, (vB t9)), (p10, (AV.int .u64 t10)), (p12, (vC t12)), (p13, (vB t13)), (p14, (vB t14)), (p15, (vI t15)), (p16, (vI t16)), (p17, (vI t17))] h
def S124_2 (D : CallD) (m : Nat) (t0 : LN) (t2 t3 : Int) (t4 t5 t6 : Bool) (t7 : Int) (t8 t9 : Bool) (t10 t12 : Int) (t13 t14 : Bool) (t15 t16 t17 : Int) (h : HP) : Res2 :=
 let t140 := !t14
 br t140 (
 some (.ret (.tup [(AV.int .u64 t2), (vI t3), (vB t4), (vB t5), (vB t6), (vI t7), (vB t8)]) h, .no)) (
 let t142 := !t13
 br t142 (
 S124_3 D m t0 t2 t3 t4 t5 t6 t7 t8 t9 t10 t12 t16 t15 h) (
 S124_3 D m t0 t2 t3 t4 t5 t6 t7 t8 t9 t10 t12 t16 t17 h))
def e124_17 (k t0 t2 t3 t4 t5 t6 t7 t8 t9 t10 t11 t12 t13 t14 t15 t16 t17 h) := kN k [(p0, (vS t0)), (p2, (AV.int .u64 t2)), (p3, (vI t3)), (p4, (vB t4)), (p5, (vB t5)), (p6, (vB t6)), (p7, (vI t7)), (p8, (vB t8)), (p9, (vB t9)), (p10, (AV.int .u64 t10)), (p11, (vI t11)), (p12, (vC t12)), (p13, (vB t13)), (p14, (vB t14)), (p15, (vI t15)), (p16, (vI t16)), (p17, (vI t17))] h
def S124_17 (D : CallD) (m : Nat) (g16 : LN → Int → Int → Bool → Bool → Bool → Int → Bool → Bool → Int → Int → Int → Bool → Bool → Int → Int → Int → HP → Res2) (t0 : LN) (t2 t3 : Int) (t4 t5 t6 : Bool) (t7 : Int) (t8 t9 : Bool) (t10 t11 t12 : Int) (t13 t14 : Bool) (t15 t16 t17 : Int) (h : HP) : Res2 :=
 let t62 := wrQ .i64 (addQ t7 (Int.ofNat 1))
 g16 t0 t2 t3 t4 t5 t6 t62 t8 t9 t10 t11 t12 t13 t14 t15 t16 t17 h
def e124_18 (k t0 t2 t3 t4 t5 t6 t7 t8 t9 t10 t12 t13 t14 t15 t16 t17 h) := kN k [(p0, (vS t0)), (p2, (AV.int .u64 t2)), (p3, (vI t3)), (p4, (vB t4)), (p5, (vB t5)), (p6, (vB t6)), (p7, (vI t7)), (p8, (vB t8)), (p9, (vB t9)), (p10, (AV.int .u64 t10)), (p12, (vC t12)), (p13, (vB t13)), (p14, (vB t14)), (p15, (vI t15)), (p16, (vI t16)), (p17, (vI t17))] h
def S124_18 (D : CallD) (m : Nat) (g16 : LN → Int → Int → Bool → Bool → Bool → Int → Bool → Bool → Int → Int → Int → Bool → Bool → Int → Int → Int → HP → Res2) (t0 : LN) (t2 t3 : Int) (t4 t5 t6 : Bool) (t7 : Int) (t8 t9 : Bool) (t10 t12 : Int) (t13 t14 : Bool) (t15 t16 t17 : Int) (h : HP) : Res2 :=
 S124_2 D m t0 t2 t3 t4 t5 t6 t7 t8 t9 t10 t12 t13 t14 t15 t16 t17 h
def e124_19 (k t0 t2 t3 t4 t5 t6 t7 t8 t9 t10 t11 t12 t13 t14 t15 t16 t17 h) := kN k [(p0, (vS t0)), (p2, (AV.int .u64 t2)), (p3, (vI t3)), (p4, (vB t4)), (p5, (vB t5)), (p6, (vB t6)), (p7, (vI t7)), (p8, (vB t8)), (p9, (vB t9)), (p10, (AV.int .u64 t10)), (p11, (vI t11)), (p12, (vC t12)), (p13, (vB t13)), (p14, (vB t14)), (p15, (vI t15)), (p16, (vI t16)), (p17, (vI t17))] h
def S124_19 (D : CallD) (m : Nat) (g16 : LN → Int → Int → Bool → Bool → Bool → Int → Bool → Bool → Int → Int → Int → Bool → Bool → Int → Int → Int → HP → Res2) (t0 : LN) (t2 t3 : Int) (t4 t5 t6 : Bool) (t7 : Int) (t8 t9 : Bool) (t10 t11 t12 : Int) (t13 t14 : Bool) (t15 t16 t17 : Int) (h : HP) : Res2 :=
 S124_17 D m g16 t0 t2 t3 t4 t5 t6 t7 t8 t9 t10 t11 t12 t13 t14 t15 t16 t17 h
def e124_22 (k t0 t2 t3 t4 t5 t6 t7 t8 t9 t10 t11 t12 t13 t14 t15 t16 t17 h) := kN k [(p0, (vS t0)), (p2, (AV.int .u64 t2)), (p3, (vI t3)), (p4, (vB t4)), (p5, (vB t5)), (p6, (vB t6)), (p7, (vI t7)), (p8, (vB t8)), (p9, (vB t9)), (p10, (AV.int .u64 t10)), (p11, (vI t11)), (p12, (vC t12)), (p13, (vB t13)), (p14, (vB t14)), (p15, (vI t15)), (p16, (vI t16)), (p17, (vI t17))] h
def S124_22 (D : CallD) (m : Nat) (g16 : LN → Int → Int → Bool → Bool → Bool → Int → Bool → Bool → Int → Int → Int → Bool → Bool → Int → Int → Int → HP → Res2) (t0 : LN) (t2 t3 : Int) (t4 t5 t6 : Bool) (t7 : Int) (t8 t9 : Bool) (t10 t11 t12 : Int) (t13 t14 : Bool) (t15 t16 t17 : Int) (h : HP) : Res2 :=
 S124_17 D m g16 t0 t2 t3 t4 t5 t6 t7 t8 t9 t10 t11 t12 t13 t14 t15 t16 t17 h
def e124_21 (k t0 t2 t3 t4 t5 t6 t7 t8 t9 t10 t11 t12 t13 t14 t15 t16 t17 t18 t121 h) := kN k [(p0, (vS t0)), (p2, (AV.int .u64 t2)), (p3, (vI t3)), (p4, (vB t4)), (p5, (vB t5)), (p6, (vB t6)), (p7, (vI t7)), (p8, (vB t8)), (p9, (vB t9)), (p10, (AV.int .u64 t10)), (p11, (vI t11)), (p12, (vC t12)), (p13, (vB t13)), (p14, (vB t14)), (p15, (vI t15)), (p16, (vI t16)), (p17, (vI t17)), (p18, (vC t18)), (p121, (vB t121))] h
def S124_21 (D : CallD) (m : Nat) (g16 : LN → Int → Int → Bool → Bool → Bool → Int → Bool → Bool → Int → Int → Int → Bool → Bool → Int → Int → Int → HP → Res2) (t0 : LN) (t2 t3 : Int) (t4 t5 t6 : Bool) (t7 : Int) (t8 t9 : Bool) (t10 t11 t12 : Int) (t13 t14 : Bool) (t15 t16 t17 t18 : Int) (t121 : Bool) (h : HP) : Res2 :=
 let t122 := ((true == t121) != false)
 br t122 (
 let t124 := wrQ .i64 (addQ t15 (Int.ofNat 1))
 let t127 := ltQ t16 t11
 br t127 (
 let t129 := wrQ .u64 (t2 * (Int.ofNat 16))
 cal D 102 [(vC t18)] h fun t132 h31 =>
 asI .u8 t132 fun t132a =>
 let t133 := wrQ .u8 (t132a - (Int.ofNat 97))
 let t134 := wrQ .u8 (addQ t133 (Int.ofNat 10))
 let t135 := wrapF .u64 t134
 let t136 := wrQ .u64 (addQ t129 t135)
 let t138 := wrQ .i64 (addQ t16 (Int.ofNat 1))
 S124_22 D m g16 t0 t136 t3 t4 t5 t6 t7 t8 t9 t10 t11 t12 t13 true t124 t138 t17 h31) (
 S124_22 D m g16 t0 t2 t3 t4 true t6 t7 t8 t9 t10 t11 t12 t13 true t124 t16 t17 h)) (
 S124_18 D m g16 t0 t2 t3 t4 t5 t6 t7 t8 t9 t10 t12 t13 t14 t15 t16 t17 h)
def e124_20 (k t0 t2 t3 t4 t5 t6 t7 t8 t9 t10 t11 t12 t13 t14 t15 t16 t17 t18 t116 h) := kN k [(p0, (vS t0)), (p2, (AV.int .u64 t2)), (p3, (vI t3)), (p4, (vB t4)), (p5, (vB t5)), (p6, (vB t6)), (p7, (vI t7)), (p8, (vB t8)), (p9, (vB t9)), (p10, (AV.int .u64 t10)), (p11, (vI t11)), (p12, (vC t12)), (p13, (vB t13)), (p14, (vB t14)), (p15, (vI t15)), (p16, (vI t16)), (p17, (vI t17)), (p18, (vC t18)), (p116, (vB t116))] h
def S124_20 (D : CallD) (m : Nat) (g16 : LN → Int → Int → Bool → Bool → Bool → Int → Bool → Bool → Int → Int → Int → Bool → Bool → Int → Int → Int → HP → Res2) (t0 : LN) (t2 t3 : Int) (t4 t5 t6 : Bool) (t7 : Int) (t8 t9 : Bool) (t10 t11 t12 : Int) (t13 t14 : Bool) (t15 t16 t17 t18 : Int) (t116 : Bool) (h : HP) : Res2 :=
 br t116 (
 cal D 102 [(vC t18)] h fun t119 h30 =>
 asI .u8 t119 fun t119a =>
 let t120 := leQ t119a (Int.ofNat 102)
 S124_21 D m g16 t0 t2 t3 t4 t5 t6 t7 t8 t9 t10 t11 t12 t13 t14 t15 t16 t17 t18 t120 h30) (
 S124_21 D m g16 t0 t2 t3 t4 t5 t6 t7 t8 t9 t10 t11 t12 t13 t14 t15 t16 t17 t18 false h)
def e124_16 (k t0 t2 t3 t4 t5 t6 t7 t8 t9 t10 t11 t12 t13 t14 t15 t16 t17 h) := kN k [(p0, (vS t0)), (p2, (AV.int .u64 t2)), (p3, (vI t3)), (p4, (vB t4)), (p5, (vB t5)), (p6, (vB t6)), (p7, (vI t7)), (p8, (vB t8)), (p9, (vB t9)), (p10, (AV.int .u64 t10)), (p11, (vI t11)), (p12, (vC t12)), (p13, (vB t13)), (p14, (vB t14)), (p15, (vI t15)), (p16, (vI t16)), (p17, (vI t17))] h
def S124_16b (D : CallD) (m : Nat) (g16 : LN → Int → Int → Bool → Bool → Bool → Int → Bool → Bool → Int → Int → Int → Bool → Bool → Int → Int → Int → HP → Res2) (t0 : LN) (t2 t3 : Int) (t4 t5 t6 : Bool) (t7 : Int) (t8 t9 : Bool) (t10 t11 t12 : Int) (t13 t14 : Bool) (t15 t16 t17 : Int) (h : HP) : Res2 :=
 let t59 := Int.ofNat (lenL t0)
 let t60 := ltQ t7 t59
 br t60 (
 ixC (vS t0) (vI t7) fun vt65 => asI .u8 vt65 fun t65 =>
 let t68 := eqQ t65 (Int.ofNat 95)
 let t69 := ((true == t68) != false)
 br t69 (
 S124_17 D m g16 t0 t2 t3 t4 t5 t6 t7 t8 true t10 t11 t12 t13 t14 t15 t16 t17 h) (
 let t72 := eqQ t65 (Int.ofNat 46)
 let t73 := ((true == t72) != false)
 br t73 (
 br t13 (
 S124_2 D m t0 t2 t3 t4 t5 t6 t7 t8 t9 t10 t12 t13 t14 t15 t16 t17 h) (
 S124_17 D m g16 t0 t2 t3 t4 t5 t6 t7 t8 t9 t10 t11 t12 true t14 t15 t16 t15 h)) (
 let t78 := leQ (Int.ofNat 48) t65
 obB (brV t78 (
 let t81 := leQ t65 (Int.ofNat 57)
 some (vB t81)) (
 some (vB false))) fun t82 =>
 let t83 := ((true == t82) != false)
 br t83 (
 let t85 := eqQ t65 (Int.ofNat 48)
 obB (brV t85 (
 let t88 := eqQ t15 (Int.ofNat 0)
 some (vB t88)) (
 some (vB false))) fun t89 =>
 br t89 (
 let t91 := wrQ .i64 (t17 - (Int.ofNat 1))
 S124_17 D m g16 t0 t2 t3 t4 t5 t6 t7 t8 t9 t10 t11 t12 t13 true t15 t16 t91 h) (
 let t93 := wrQ .i64 (addQ t15 (Int.ofNat 1))
 let t96 := ltQ t16 t11
 br t96 (
 let t99 := wrQ .u64 (t2 * t10)
 let t102 := wrQ .u8 (t65 - (Int.ofNat 48))
 let t103 := wrapF .u64 t102
 let t104 := wrQ .u64 (addQ t99 t103)
 let t106 := wrQ .i64 (addQ t16 (Int.ofNat 1))
 S124_19 D m g16 t0 t104 t3 t4 t5 t6 t7 t8 t9 t10 t11 t12 t13 true t93 t106 t17 h) (
 let t108 := notQ (eqQ t65 (Int.ofNat 48))
 br t108 (
 S124_19 D m g16 t0 t2 t3 t4 true t6 t7 t8 t9 t10 t11 t12 t13 true t93 t16 t17 h) (
 S124_19 D m g16 t0 t2 t3 t4 t5 t6 t7 t8 t9 t10 t11 t12 t13 true t93 t16 t17 h)))) (
 let t111 := eqQ t10 (Int.ofNat 16)
 br t111 (
 cal D 102 [(vC t65)] h fun t114 h29 =>
 asI .u8 t114 fun t114a =>
 let t115 := leQ (Int.ofNat 97) t114a
 S124_20 D m g16 t0 t2 t3 t4 t5 t6 t7 t8 t9 t10 t11 t12 t13 t14 t15 t16 t17 t65 t115 h29) (
 S124_20 D m g16 t0 t2 t3 t4 t5 t6 t7 t8 t9 t10 t11 t12 t13 t14 t15 t16 t17 t65 false h))))) (
 S124_2 D m t0 t2 t3 t4 t5 t6 t7 t8 t9 t10 t12 t13 t14 t15 t16 t17 h)
def S124_16 (D : CallD) (m : Nat) : LN → Int → Int → Bool → Bool → Bool → Int → Bool → Bool → Int → Int → Int → Bool → Bool → Int → Int → Int → HP → Res2 := nrec (fun _ _ _ _ _ _ _ _ _ _ _ _ _ _ _ _ _ _ => none) (fun _ g => S124_16b D m g) m
def e124_1 (k t0 t2 t3 t4 t5 t6 t7 t8 t9 t10 t11 t12 h) := kN k [(p0, (vS t0)), (p2, (AV.int .u64 t2)), (p3, (vI t3)), (p4, (vB t4)), (p5, (vB t5)), (p6, (vB t6)), (p7, (vI t7)), (p8, (vB t8)), (p9, (vB t9)), (p10, (AV.int .u64 t10)), (p11, (vI t11)), (p12, (vC t12))] h
def S124_1 (D : CallD) (m : Nat) (t0 : LN) (t2 t3 : Int) (t4 t5 t6 : Bool) (t7 : Int) (t8 t9 : Bool) (t10 t11 t12 : Int) (h : HP) : Res2 :=
 S124_16 D m t0 t2 t3 t4 t5 t6 t7 t8 t9 t10 t11 t12 false false (Int.ofNat 0) (Int.ofNat 0) (Int.ofNat 0) h
def e124_24 (k t0 t2 t3 t4 t5 t6 t7 t8 t9 t10 t11 t12 t54 h) := kN k [(p0, (vS t0)), (p2, (AV.int .u64 t2)), (p3, (vI t3)), (p4, (vB t4)), (p5, (vB t5)), (p6, (vB t6)), (p7, (vI t7)), (p8, (vB t8)), (p9, (vB t9)), (p10, (AV.int .u64 t10)), (p11, (vI t11)), (p12, (vC t12)), (p54, (vB t54))] h
def S124_24 (D : CallD) (m : Nat) (t0 : LN) (t2 t3 : Int) (t4 t5 t6 : Bool) (t7 : Int) (t8 t9 : Bool) (t10 t11 t12 : Int) (t54 : Bool) (h : HP) : Res2 :=
 br t54 (
 let t56 := wrQ .i64 (addQ t7 (Int.ofNat 2))
 S124_1 D m t0 t2 t3 t4 t5 true t56 t8 t9 (Int.ofNat 16) (Int.ofNat 16) (Int.ofNat 112) h) (
 S124_1 D m t0 t2 t3 t4 t5 t6 t7 t8 t9 t10 t11 t12 h)
def e124_0 (k t0 t2 t3 t4 t5 t6 t7 t8 t9 h) := kN k [(p0, (vS t0)), (p2, (AV.int .u64 t2)), (p3, (vI t3)), (p4, (vB t4)), (p5, (vB t5)), (p6, (vB t6)), (p7, (vI t7)), (p8, (vB t8)), (p9, (vB t9))] h
def S124_0 (D : CallD) (m : Nat) (t0 : LN) (t2 t3 : Int) (t4 t5 t6 : Bool) (t7 : Int) (t8 t9 : Bool) (h : HP) : Res2 :=
 let t37 := wrQ .i64 (addQ t7 (Int.ofNat 2))
 let t39 := Int.ofNat (lenL t0)
 let t40 := ltQ t37 t39
 obB (brV t40 (
 ixCV (vS t0) (vI t7) fun vt44 => asIV .u8 vt44 fun t44 =>
 let t45 := eqQ t44 (Int.ofNat 48)
 some (vB t45)) (
 some (vB false))) fun t46 =>
 br t46 (
 let t50 := wrQ .i64 (addQ t7 (Int.ofNat 1))
 ixC (vS t0) (vI t50) fun vt51 => asI .u8 vt51 fun t51 =>
 cal D 102 [(vC t51)] h fun t52 h32 =>
 asI .u8 t52 fun t52a =>
 let t53 := eqQ t52a (Int.ofNat 120)
 S124_24 D m t0 t2 t3 t4 t5 t6 t7 t8 t9 (Int.ofNat 10) (Int.ofNat 19) (Int.ofNat 101) t53 h32) (
 S124_24 D m t0 t2 t3 t4 t5 t6 t7 t8 t9 (Int.ofNat 10) (Int.ofNat 19) (Int.ofNat 101) false h)
def e124_26 (k t0 h) := kN k [(p0, (vS t0))] h
def S124_26 (D : CallD) (m : Nat) (t0 : LN) (h : HP) : Res2 :=
 let t23 := Int.ofNat (lenL t0)
 let t24 := leQ t23 (Int.ofNat 0)
 br t24 (
 some (.ret (.tup [(AV.int .u64 (Int.ofNat 0)), (vI (Int.ofNat 0)), (vB false), (vB false), (vB false), (vI (Int.ofNat 0)), (vB false)]) h, .no)) (
 ixC (vS t0) (vI (Int.ofNat 0)) fun vt27 => asI .u8 vt27 fun t27 =>
 let t29 := eqQ t27 (Int.ofNat 43)
 br t29 (
 let t31 := wrQ .i64 (addQ (Int.ofNat 0) (Int.ofNat 1))
 S124_0 D m t0 (Int.ofNat 0) (Int.ofNat 0) false false false t31 false false h) (
 let t33 := eqQ t27 (Int.ofNat 45)
 br t33 (
 let t35 := wrQ .i64 (addQ (Int.ofNat 0) (Int.ofNat 1))
 S124_0 D m t0 (Int.ofNat 0) (Int.ofNat 0) true false false t35 false false h) (
 S124_0 D m t0 (Int.ofNat 0) (Int.ofNat 0) false false false (Int.ofNat 0) false false h)))
def S124 : SFn := fun D m args h u => nou u <| popS args fun t0 args => endA args (S124_26 D m t0 h)
theorem T124_7 (hE : FX x124 D m E) : S124_7 D m = e124_7 (E c124_7 []) := by unfold S124_7; rw [hE c124_7]; kernel_rfl
theorem T124_8 (hE : FX x124 D m E) : S124_8 D m = e124_8 (E (.opq false l124_8 c124_9) [.sj v124_7 c124_7]) := by unfold S124_8; rw [T124_7 hE, hE (.opq false l124_8 c124_9)]; kernel_rfl
theorem T124_6 (hE : FX x124 D m E) : S124_6 D m = e124_6 (E c124_6 []) := by unfold S124_6; rw [T124_8 hE, hE c124_6]; kernel_rfl
theorem T124_5 (hE : FX x124 D m E) : S124_5 D m = e124_5 (E c124_5 []) := by unfold S124_5; rw [T124_6 hE, hE c124_5]; kernel_rfl
theorem T124_12 (hE : FX x124 D m E) : S124_12 D m = e124_12 (E c124_12 [.sj v124_5 c124_5]) := by unfold S124_12; rw [T124_5 hE, hE c124_12]; kernel_rfl
theorem T124_14 (hE : FX x124 D m E) (G13) : S124_14 D m (e124_13 G13) = e124_14 (E c124_14 [.lp v124_13 G13, .blk 5, .sj v124_12 c124_12, .sj v124_5 c124_5]) := by unfold S124_14; rw [hE c124_14]; kernel_rfl
theorem T124_13b (hE : FX x124 D m E) (G13) : S124_13b D m (e124_13 G13) = e124_13 (E c124_13b [.lp v124_13 G13, .blk 5, .sj v124_12 c124_12, .sj v124_5 c124_5]) := by unfold S124_13b; rw [T124_14 hE G13, T124_12 hE, hE c124_13b]; kernel_rfl
theorem T124_13 (hE : FX x124 D m E) : S124_13 D m = e124_13 (nrec (fun _ => none) (fun _ G13 st => E c124_13b [.lp v124_13 G13, .blk 5, .sj v124_12 c124_12, .sj v124_5 c124_5] st) m) :=
  nrec_emb e124_13 (fun _ _ _ _ _ _ _ _ _ _ _ _ _ _ => none) (fun g => S124_13b D m g) (fun G13 st => E c124_13b [.lp v124_13 G13, .blk 5, .sj v124_12 c124_12, .sj v124_5 c124_5] st) rfl (fun g => T124_13b hE g) m
theorem T124_11 (hE : FX x124 D m E) : S124_11 D m = e124_11 (E c124_11 [.sj v124_5 c124_5]) := by unfold S124_11; rw [T124_13 hE, hE c124_11]; kernel_rfl
theorem T124_10 (hE : FX x124 D m E) : S124_10 D m = e124_10 (E (.opq false l124_10 c124_15) [.sj v124_5 c124_5]) := by unfold S124_10; rw [T124_11 hE, T124_5 hE, hE (.opq false l124_10 c124_15)]; kernel_rfl
theorem T124_4 (hE : FX x124 D m E) : S124_4 D m = e124_4 (E c124_4 []) := by unfold S124_4; rw [T124_10 hE, hE c124_4]; kernel_rfl
theorem T124_3 (hE : FX x124 D m E) : S124_3 D m = e124_3 (E c124_3 []) := by unfold S124_3; rw [T124_4 hE, hE c124_3]; kernel_rfl
theorem T124_2 (hE : FX x124 D m E) : S124_2 D m = e124_2 (E c124_2 []) := by unfold S124_2; rw [T124_3 hE, hE c124_2]; kernel_rfl
theorem T124_17 (hE : FX x124 D m E) (G16) : S124_17 D m (e124_16 G16) = e124_17 (E c124_17 [.lp v124_16 G16, .blk 1, .sj v124_2 c124_2]) := by unfold S124_17; rw [hE c124_17]; kernel_rfl
theorem T124_18 (hE : FX x124 D m E) (G16) : S124_18 D m (e124_16 G16) = e124_18 (E c124_18 [.blk 2, .sj v124_17 c124_17, .lp v124_16 G16, .blk 1, .sj v124_2 c124_2]) := by unfold S124_18; rw [T124_2 hE, hE c124_18]; kernel_rfl
theorem T124_19 (hE : FX x124 D m E) (G16) : S124_19 D m (e124_16 G16) = e124_19 (E c124_19 [.blk 3, .sj v124_18 c124_18, .blk 2, .sj v124_17 c124_17, .lp v124_16 G16, .blk 1, .sj v124_2 c124_2]) := by unfold S124_19; rw [T124_17 hE G16, hE c124_19]; kernel_rfl
theorem T124_22 (hE : FX x124 D m E) (G16) : S124_22 D m (e124_16 G16) = e124_22 (E c124_22 [.blk 3, .sj v124_18 c124_18, .blk 2, .sj v124_17 c124_17, .lp v124_16 G16, .blk 1, .sj v124_2 c124_2]) := by unfold S124_22; rw [T124_17 hE G16, hE c124_22]; kernel_rfl
theorem T124_21 (hE : FX x124 D m E) (G16) : S124_21 D m (e124_16 G16) = e124_21 (E (.opq false l124_21 c124_23) [.blk 3, .sj v124_18 c124_18, .blk 2, .sj v124_17 c124_17, .lp v124_16 G16, .blk 1, .sj v124_2 c124_2]) := by unfold S124_21; rw [T124_22 hE G16, T124_18 hE G16, hE (.opq false l124_21 c124_23)]; kernel_rfl
theorem T124_20 (hE : FX x124 D m E) (G16) : S124_20 D m (e124_16 G16) = e124_20 (E (.opq false l124_20 c124_23) [.blk 3, .sj v124_18 c124_18, .blk 2, .sj v124_17 c124_17, .lp v124_16 G16, .blk 1, .sj v124_2 c124_2]) := by unfold S124_20; rw [T124_21 hE G16, hE (.opq false l124_20 c124_23)]; kernel_rfl
theorem T124_16b (hE : FX x124 D m E) (G16) : S124_16b D m (e124_16 G16) = e124_16 (E c124_16b [.lp v124_16 G16, .blk 1, .sj v124_2 c124_2]) := by unfold S124_16b; rw [T124_17 hE G16, T124_2 hE, T124_19 hE G16, T124_20 hE G16, hE c124_16b]; kernel_rfl
theorem T124_16 (hE : FX x124 D m E) : S124_16 D m = e124_16 (nrec (fun _ => none) (fun _ G16 st => E c124_16b [.lp v124_16 G16, .blk 1, .sj v124_2 c124_2] st) m) :=
  nrec_emb e124_16 (fun _ _ _ _ _ _ _ _ _ _ _ _ _ _ _ _ _ _ => none) (fun g => S124_16b D m g) (fun G16 st => E c124_16b [.lp v124_16 G16, .blk 1, .sj v124_2 c124_2] st) rfl (fun g => T124_16b hE g) m
theorem T124_1 (hE : FX x124 D m E) : S124_1 D m = e124_1 (E c124_1 []) := by unfold S124_1; rw [T124_16 hE, hE c124_1]; kernel_rfl
theorem T124_24 (hE : FX x124 D m E) : S124_24 D m = e124_24 (E (.opq false l124_24 c124_25) [.sj v124_1 c124_1]) := by unfold S124_24; rw [T124_1 hE, hE (.opq false l124_24 c124_25)]; kernel_rfl
theorem T124_0 (hE : FX x124 D m E) : S124_0 D m = e124_0 (E c124_0 []) := by unfold S124_0; rw [T124_24 hE, hE c124_0]; kernel_rfl
theorem T124_26 (hE : FX x124 D m E) : S124_26 D m = e124_26 (E c124_e []) := by unfold S124_26; rw [T124_0 hE, hE c124_e]; kernel_rfl
theorem X124 : XTie S124 x124 := X_of fun D m E hE args h u => by unfold S124; rw [T124_26 hE]; kernel_rfl
/- 132 -/
def c132_e : XC := (.sO [.mv p2 (.c (.int .u64 (.ofNat 0))) (.i .u64)] (.seq (.seq (.oX [.mv p3 q0 .b]) (.cond q3 (.seq (.oX [.mv p2 (.c (.int .u64 (.ofNat 1))) (.i .u64)]) .ret) .skip)) (.sO [.mv p2 (.c (.int .u64 (.ofNat 0))) (.i .u64)] (.s .ret))))
def x132 : XFn := ⟨[.b], false, [(.tmp p2)], c132_e⟩
def e132_0 (k t0 h) := kN k [(p0, (vB t0))] h
def S132_0 (D : CallD) (m : Nat) (t0 : Bool) (h : HP) : Res2 :=
 br t0 (
 some (.ret (AV.int .u64 (Int.ofNat 1)) h, .no)) (
 some (.ret (AV.int .u64 (Int.ofNat 0)) h, .no))
def S132 : SFn := fun D m args h u => nou u <| popB args fun t0 args => endA args (S132_0 D m t0 h)
theorem T132_0 (hE : FX x132 D m E) : S132_0 D m = e132_0 (E c132_e []) := by unfold S132_0; rw [hE c132_e]; kernel_rfl
theorem X132 : XTie S132 x132 := X_of fun D m E hE args h u => by unfold S132; rw [T132_0 hE]; kernel_rfl
/- 134 -/
def v134_1 : List Pos := [p6, p7]
def c134_1 : XC := (.s .ret)
def v134_2 : List Pos := [p1, p6, p7]
def c134_2 : XC := (.seq (.seq (.oX [.mv p38 q6 .v, .bn p39 .gtr q38 (.c (.flt .f64 4831355200913801216)) .b, .mv p40 q39 .b, .ge p40 (XL.of [.G p40 false p41 (.mov q6) .v, .G p40 false p42 (.bin .lss q41 (.c (.flt .f64 14054727237768577024))) .b, .P p43 (.pick q40 (cb true) q42) .b]) p43 .b]) (.cond q43 .ret .skip)) (.sO [.mv p44 q6 .v, .ld p45 (.c (.ptr p14 0)) .v, .mv p46 q1 tI, .P p47 (.iaddr (.sl 1) q45 q46) .v, .ld p48 q47 .v, .bn p49 .mul q44 q48 .v, .mv p6 q49 .v, .mv p7 (cb true) .b] (.s .ret)))
def v134_0 : List Pos := [p1, p6, p7]
def c134_0 : XC := (.sj v134_1 (.block 0 (.sO [.mv p19 q1 tI, .bn p20 .eql q19 (ci 0) .b, .mv p18 q20 .b] (.cond q18 (.sO [.mv p21 q6 .v, .mv p6 q21 .v, .mv p7 (cb true) .b] (.s .ret)) (.sO [.mv p23 q1 tI, .bn p24 .gtr q23 (ci 0) .b, .mv p25 q24 .b, .ge p25 (XL.of [.G p25 true p26 (.mov q1) tI, .G p25 true p27 (.bin .leq q26 (ci 37)) .b, .P p28 (.pick q25 q27 (cb false)) .b]) p28 .b, .mv p22 q28 .b] (.cond q22 (.sj v134_2 (.sO [.mv p29 q1 tI, .bn p30 .gtr q29 (ci 22) .b] (.cond q30 (.sO [.mv p31 q6 .v, .ld p32 (.c (.ptr p14 0)) .v, .mv p33 q1 tI, .bn p34 .sub q33 (ci 22) tI, .P p35 (.iaddr (.sl 1) q32 q34) .v, .ld p36 q35 .v, .bn p37 .mul q31 q36 .v, .mv p6 q37 .v] (.s (.oX [.mv p1 (ci 22) tI]))) (.s .skip))) c134_2) (.sO [.mv p51 q1 tI, .bn p52 .lss q51 (ci 0) .b, .mv p53 q52 .b, .ge p53 (XL.of [.G p53 true p54 (.mov q1) tI, .G p53 true p55 (.bin .geq q54 (.c (.int .i64 (.negSucc 21)))) .b, .P p56 (.pick q53 q55 (cb false)) .b]) p56 .b, .mv p50 q56 .b] (.cond q50 (.sO [.mv p57 q6 .v, .ld p58 (.c (.ptr p14 0)) .v, .mv p59 q1 tI, .P p60 (.un .neg q59) tI, .P p61 (.iaddr (.sl 1) q58 q60) .v, .ld p62 q61 .v, .bn p63 .quo q57 q62 .v, .mv p6 q63 .v, .mv p7 (cb true) .b] (.s .ret)) (.s .skip)))))))) c134_1)
def c134_e : XC := (.sO [.mv p6 (.c (.flt .f64 0)) .v, .mv p7 (cb false) .b] (.seq (.seq (.oX [.mv p8 q0 (.i .u64), .fa p9 0 (.c (.ptr p7 0)), .ld p10 q9 (.i .u64), .bn p11 .shr q8 q10 (.i .u64), .bn p12 .neq q11 (.c (.int .u64 (.ofNat 0))) .b]) (.cond q12 .ret .skip)) (.sO [.mv p13 q0 (.i .u64), .P p14 (.conv (.jf .f64) q13) .v, .mv p6 q14 .v] (.sj v134_0 (.sO [.mv p15 q2 .b] (.cond q15 (.s (.oX [.mv p16 q6 .v, .P p17 (.un .neg q16) .v, .mv p6 q17 .v])) (.s .skip))) c134_0))))
def x134 : XFn := ⟨[(.i .u64), tI, .b], false, [(.tmp p6), (.tmp p7)], c134_e⟩
def e134_1 (k t6 t7 h) := kN k [(p6, t6), (p7, (vB t7))] h
def S134_1 (D : CallD) (m : Nat) (t6 : AV) (t7 : Bool) (h : HP) : Res2 :=
 some (.ret (.tup [t6, (vB t7)]) h, .no)
def e134_2 (k t1 t6 t7 h) := kN k [(p1, (vI t1)), (p6, t6), (p7, (vB t7))] h
def S134_2 (D : CallD) (m : Nat) (t1 : Int) (t6 : AV) (t7 : Bool) (h : HP) : Res2 :=
 binC .gtr t6 ((.flt .f64 4831355200913801216) : AV) fun vt39 => asB vt39 fun t39 =>
 obB (brV t39 (
 some (vB true)) (
 binCV .lss t6 ((.flt .f64 14054727237768577024) : AV) fun vt42 => asBV vt42 fun t42 =>
 some (vB t42))) fun t43 =>
 br t43 (
 some (.ret (.tup [t6, (vB t7)]) h, .no)) (
 cellC ((.ptr p14 0) : AV) h fun t45 =>
 iasC 1 t45 (vI t1) fun t47 =>
 cellC t47 h fun t48 =>
 binC .mul t6 t48 fun t49 =>
 some (.ret (.tup [t49, (vB true)]) h, .no))
def e134_0 (k t1 t6 t7 h) := kN k [(p1, (vI t1)), (p6, t6), (p7, (vB t7))] h
def S134_0 (D : CallD) (m : Nat) (t1 : Int) (t6 : AV) (t7 : Bool) (h : HP) : Res2 :=
 let t20 := eqQ t1 (Int.ofNat 0)
 br t20 (
 some (.ret (.tup [t6, (vB true)]) h, .no)) (
 let t24 := ltQ (Int.ofNat 0) t1
 obB (brV t24 (
 let t27 := leQ t1 (Int.ofNat 37)
 some (vB t27)) (
 some (vB false))) fun t28 =>
 br t28 (
 let t30 := ltQ (Int.ofNat 22) t1
 br t30 (
 cellC ((.ptr p14 0) : AV) h fun t32 =>
 let t34 := wrQ .i64 (t1 - (Int.ofNat 22))
 iasC 1 t32 (vI t34) fun t35 =>
 cellC t35 h fun t36 =>
 binC .mul t6 t36 fun t37 =>
 S134_2 D m (Int.ofNat 22) t37 t7 h) (
 S134_2 D m t1 t6 t7 h)) (
 let t52 := ltQ t1 (Int.ofNat 0)
 obB (brV t52 (
 let t55 := leQ (Int.negSucc 21) t1
 some (vB t55)) (
 some (vB false))) fun t56 =>
 br t56 (
 cellC ((.ptr p14 0) : AV) h fun t58 =>
 let t60 := IntKind.wrap .i64 (0 - t1)
 iasC 1 t58 (vI t60) fun t61 =>
 cellC t61 h fun t62 =>
 binC .quo t6 t62 fun t63 =>
 some (.ret (.tup [t63, (vB true)]) h, .no)) (
 S134_1 D m t6 t7 h)))
def e134_3 (k t0 t1 t2 h) := kN k [(p0, (AV.int .u64 t0)), (p1, (vI t1)), (p2, (vB t2))] h
def S134_3 (D : CallD) (m : Nat) (t0 t1 : Int) (t2 : Bool) (h : HP) : Res2 :=
 faC 0 ((.ptr p7 0) : AV) fun t9 =>
 cellC t9 h fun vt10 => asI .u64 vt10 fun t10 =>
 obI .u64 (shiftF .shr .u64 t0 t10) fun t11 =>
 let t12 := notQ (eqQ t11 (Int.ofNat 0))
 br t12 (
 some (.ret (.tup [((.flt .f64 0) : AV), (vB false)]) h, .no)) (
 let t14 := AV.flt .f64 (FloatKind.nearest .f64 t0)
 br t2 (
 obQ (evP (.un .neg (.c t14)) .leaf) fun t17 =>
 S134_0 D m t1 t17 false h) (
 S134_0 D m t1 t14 false h))
def S134 : SFn := fun D m args h u => nou u <| popI .u64 args fun t0 args => popI .i64 args fun t1 args => popB args fun t2 args => endA args (S134_3 D m t0 t1 t2 h)
theorem T134_1 (hE : FX x134 D m E) : S134_1 D m = e134_1 (E c134_1 []) := by unfold S134_1; rw [hE c134_1]; kernel_rfl
theorem T134_2 (hE : FX x134 D m E) : S134_2 D m = e134_2 (E c134_2 [.blk 0, .sj v134_1 c134_1]) := by unfold S134_2; rw [hE c134_2]; kernel_rfl
theorem T134_0 (hE : FX x134 D m E) : S134_0 D m = e134_0 (E c134_0 []) := by unfold S134_0; rw [T134_2 hE, T134_1 hE, hE c134_0]; kernel_rfl
theorem T134_3 (hE : FX x134 D m E) : S134_3 D m = e134_3 (E c134_e []) := by unfold S134_3; rw [T134_0 hE, hE c134_e]; kernel_rfl
theorem X134 : XTie S134 x134 := X_of fun D m E hE args h u => by unfold S134; rw [T134_3 hE]; kernel_rfl
end
end Go.Proofs.YtbfdhoggchedjaaGreatDoor.Sx
