/- Functions, printed by a program of ours: their code, what they do, and that it is so. -/
import Derived.Test.YtblciblkocameaaGreatSp
set_option maxRecDepth 8000
set_option linter.unusedVariables false
namespace Go.Proofs.YtblciblkocameaaGreat.Sx
open Go Go.Proofs.YtblciblkocameaaGreat.Ev
set_option linter.unusedSectionVars false
noncomputable section
variable [Rho]
variable {D : CallD} {m : Nat} {E : XE}
/- 53 -/
def v53_7 : List Pos := [p3, p4, p6, p7]
def c53_7 : XC := (.seq (.ops true (XL.of [.L p280 (.cells 7 q3) .v, .L p282 (.cells 17 q4) .v, .o ⟨(some p281), (.call (.fn 90) [q280]), none, [⟨none, .cells 17 q4, p282⟩]⟩ .v, .o ⟨none, (.e (.stores 7 q6 q281)), none, [⟨none, .cells 17 q4, p282⟩]⟩ .v, .ss 17 q7 q282])) (.s .ret))
def v53_6 : List Pos := [p3, p4, p6, p7, p15]
def c53_6 : XC := (.sO [.mv p257 q15 .v, .fa p258 6 q4, .st q258 q257] (.sj v53_7 (.sO [.fa p259 0 q4, .ld p260 q259 .b, .mv p261 q260 .b, .ge p261 (XL.of [.G p261 true p262 (.faddr 7 q4) .v, .o ⟨(some p263), (.l (.cell q262)), (some (p261, true)), []⟩ .b, .P p264 (.pick q261 q263 (cb false)) .b]) p264 .b, .mv p265 q264 .b, .ge p265 (XL.of [.G p265 true p266 (.faddr 5 q3) .v, .o ⟨(some p267), (.l (.cell q266)), (some (p265, true)), []⟩ tI, .G p265 true p268 (.bin .eql q267 (ci 0)) .b, .P p269 (.pick q265 q268 (cb false)) .b]) p269 .b] (.cond q269 (.s (.oX [.L p271 (.cells 7 q3) .v, .fa p272 9 q4, .fa p273 2 q272, .ld p274 q273 .v, .cl p275 89 [q271, q274] .v, .mv p270 q275 .v, .P p276 (.ext q270 0) .v, .P p277 (.ext q270 1) .v, .ss 7 q3 q276, .fa p278 9 q4, .fa p279 2 q278, .st q279 q277])) (.s .skip))) c53_7))
def v53_9 : List Pos := [p3, p4, p6, p7, p15, p216, p217]
def c53_9 : XC := (.s (.oX [.bn p256 .add q217 (ci 1) tI, .mv p217 q256 tI]))
def v53_10 : List Pos := [p3, p4, p6, p7, p15, p17, p216, p217]
def c53_10 : XC := (.s (.oX [.mv p252 q15 .v, .L p253 (.cells 8 q17) .v, .al p254 (.bsl [(kI 0), (.str []), (.str []), (.int .u32 (.ofNat 0)), (.int .u64 (.ofNat 0)), .nils, (kI 0), (kI 0)] 1 [⟨0, 8, q253⟩]), .o ⟨(some p255), (.e (.app 8 96 q252 q254)), none, []⟩ .v, .mv p15 q255 .v]))
def v53_8 : List Pos := [p3, p4, p6, p7, p15, p216, p217]
def c53_8b : XC := (.sO [.bn p218 .lss q217 q216 .b] (.seq (.cond q218 .skip (.exit 6)) (.sj v53_9 (.block 7 (.sO [.mv p219 q217 tI, .mv p16 q219 tI] (.sO [.P p220 (.build [(kI 0), (.str []), (.str []), (.int .u32 (.ofNat 0)), (.int .u64 (.ofNat 0)), .nils, (kI 0), (kI 0)] []) .v, .al p17 (.new [(kI 0), (.str []), (.str []), (.int .u32 (.ofNat 0)), (.int .u64 (.ofNat 0)), .nils, (kI 0), (kI 0)]), .ss 8 q17 q220] (.seq (.ops true (XL.of [.L p222 (.cells 7 q3) .v, .fa p223 6 q4, .ld p224 q223 .v, .mv p225 q16 tI, .P p226 (.iaddr (.sl 8) q224 q225) .v, .L p227 (.cells 8 q226) .v, .fa p228 4 q4, .ld p229 q228 tI, .fa p230 6 q4, .ld p231 q230 .v, .mv p232 q16 tI, .P p233 (.iaddr (.sl 8) q231 q232) .v, .fa p234 7 q233, .ld p235 q234 tI, .cl p236 88 [q222, q227, q229, q235] .v, .mv p221 q236 .v, .P p237 (.ext q221 0) .v, .P p238 (.ext q221 1) .v, .ss 7 q3 q237, .ss 8 q17 q238])) (.sj v53_10 (.sO [.fa p239 5 q4, .ld p240 q239 tI, .bn p241 .gtr q240 (ci 0) .b, .mv p242 q241 .b, .ge p242 (XL.of [.G p242 true p243 (.mov q16) tI, .G p242 true p244 (.faddr 5 q4) .v, .o ⟨(some p245), (.l (.cell q244)), (some (p242, true)), []⟩ tI, .G p242 true p246 (.bin .geq q243 q245) .b, .P p247 (.pick q242 q246 (cb false)) .b]) p247 .b] (.cond q247 (.s (.oX [.L p248 (.cells 7 q3) .v, .fa p249 7 q17, .ld p250 q249 tI, .cl p251 54 [q248, (ci 1), q250] .v, .ss 7 q3 q251])) (.s .skip))) c53_10))))) c53_9)))
def v53_5 : List Pos := [p3, p4, p6, p7, p10]
def c53_5 : XC := (.sO [.mv p212 q10 .v, .fa p213 8 q4, .st q213 q212] (.sO [.mv p15 (.c .nils) .v] (.sj v53_6 (.sO [.fa p214 6 q4, .ld p215 q214 .v, .P p216 (.lenl q215) tI, .mv p217 (ci 0) tI] (.block 6 (.loop v53_8 c53_8b))) c53_6)))
def v53_12 : List Pos := [p3, p4, p6, p7, p10, p161, p162]
def c53_12 : XC := (.s (.oX [.bn p211 .add q162 (ci 1) tI, .mv p162 q211 tI]))
def v53_14 : List Pos := [p3, p4, p6, p7, p10, p12, p161, p162]
def c53_14 : XC := (.sO [.L p197 (.cells 7 q3) .v, .fa p198 0 q12, .ld p199 q198 .s, .fa p200 1 q12, .ld p201 q200 tI, .P p202 (.build [(.bool false), (.bool false), (.bool false), (.str []), (kI 0), (kI 0), .nils, (.bool false), .nils, (kI 0), .nils, .nils, (.str []), (kI 0), (kI 0), (kI 0), (kI 0)] [⟨3, 1, q199⟩, ⟨4, 1, q201⟩]) .v, .cl p203 87 [q197, q202] .v, .mv p196 q203 .v, .P p204 (.ext q196 0) .v, .P p205 (.ext q196 1) .s, .ss 7 q3 q204, .fa p206 0 q12, .st q206 q205] (.s (.oX [.mv p207 q10 .v, .L p208 (.cells 3 q12) .v, .al p209 (.bsl [(.str []), (kI 0), (kI 0)] 1 [⟨0, 3, q208⟩]), .o ⟨(some p210), (.e (.app 3 32 q207 q209)), none, []⟩ .v, .mv p10 q210 .v])))
def v53_13 : List Pos := [p3, p4, p6, p7, p10, p12, p161, p162]
def c53_13 : XC := (.sj v53_14 (.sO [.L p178 (.cells 7 q3) .v, .fa p179 0 q12, .ld p180 q179 .s, .cl p181 86 [q178, q180] .v, .mv p177 q181 .v, .P p182 (.ext q177 0) .v, .P p183 (.ext q177 1) .b, .al p13 (.new [(.bool false), (.bool false), (.bool false), (.str []), (kI 0), (kI 0), .nils, (.bool false), .nils, (kI 0), .nils, .nils, (.str []), (kI 0), (kI 0), (kI 0), (kI 0), (.str []), (kI 0)]), .ss 19 q13 q182, .mv p14 q183 .b] (.sO [.mv p184 q14 .b, .mv p185 q184 .b, .ge p185 (XL.of [.G p185 true p186 (.faddr 18 q13) .v, .o ⟨(some p187), (.l (.cell q186)), (some (p185, true)), []⟩ tI, .G p185 true p188 (.faddr 1 q3) .v, .o ⟨(some p189), (.l (.cell q188)), (some (p185, true)), []⟩ tI, .G p185 true p190 (.bin .eql q187 q189) .b, .P p191 (.pick q185 q190 (cb false)) .b]) p191 .b] (.cond q191 (.s (.oX [.L p192 (.cells 7 q3) .v, .fa p193 2 q12, .ld p194 q193 tI, .cl p195 54 [q192, (ci 13), q194] .v, .ss 7 q3 q195])) (.s .skip)))) c53_14)
def v53_11 : List Pos := [p3, p4, p6, p7, p10, p161, p162]
def c53_11b : XC := (.sO [.bn p163 .lss q162 q161 .b] (.seq (.cond q163 .skip (.exit 4)) (.sj v53_12 (.block 5 (.sO [.mv p164 q162 tI, .mv p11 q164 tI] (.sO [.fa p165 8 q4, .ld p166 q165 .v, .mv p167 q11 tI, .P p168 (.iaddr (.sl 3) q166 q167) .v, .L p169 (.cells 3 q168) .v, .al p12 (.new [(.str []), (kI 0), (kI 0)]), .ss 3 q12 q169] (.sj v53_13 (.sO [.fa p170 1 q12, .ld p171 q170 tI, .bn p172 .eql q171 (ci 0) .b] (.cond q172 (.s (.oX [.L p173 (.cells 7 q3) .v, .fa p174 2 q12, .ld p175 q174 tI, .cl p176 54 [q173, (ci 14), q175] .v, .ss 7 q3 q176])) (.s .skip))) c53_13)))) c53_12)))
def v53_4 : List Pos := [p3, p4, p6, p7]
def c53_4 : XC := (.sO [.L p149 (.cells 7 q3) .v, .L p150 (.cells 17 q4) .v, .fa p151 3 q4, .ld p152 q151 .s, .cl p153 82 [q149, q150, q152] .v, .cl p154 85 [q153] .v, .ss 7 q3 q154] (.sO [.fa p155 4 q4, .ld p156 q155 tI, .fa p157 2 q3, .st q157 q156] (.sO [.fa p158 3 q3, .st q158 (ci 0)] (.sO [.mv p10 (.c .nils) .v] (.sj v53_5 (.sO [.fa p159 8 q4, .ld p160 q159 .v, .P p161 (.lenl q160) tI, .mv p162 (ci 0) tI] (.block 4 (.loop v53_11 c53_11b))) c53_5)))))
def v53_3 : List Pos := [p3, p4, p6, p7]
def c53_3 : XC := (.sj v53_4 (.sO [.fa p122 3 q4, .ld p123 q122 .s, .bn p124 .eql q123 (.c (.str [109, 97, 105, 110])) .b, .mv p125 q124 .b, .ge p125 (XL.of [.G p125 true p126 (.faddr 0 q4) .v, .o ⟨(some p127), (.l (.cell q126)), (some (p125, true)), []⟩ .b, .G p125 true p128 (.un .not q127) .b, .G p125 true p129 (.mov q128) .b, .ge p129 (XL.of [.G p129 false p130 (.faddr 1 q4) .v, .o ⟨(some p131), (.l (.cell q130)), (some (p129, false)), []⟩ .b, .G p125 true p132 (.pick q129 (cb true) q131) .b]) p132 .b, .G p125 true p133 (.mov q132) .b, .ge p133 (XL.of [.G p133 false p134 (.faddr 4 q4) .v, .o ⟨(some p135), (.l (.cell q134)), (some (p133, false)), []⟩ tI, .G p133 false p136 (.bin .neq q135 (ci 1)) .b, .G p125 true p137 (.pick q133 (cb true) q136) .b]) p137 .b, .G p125 true p138 (.mov q137) .b, .ge p138 (XL.of [.G p138 false p139 (.faddr 8 q4) .v, .o ⟨(some p140), (.l (.cell q139)), (some (p138, false)), []⟩ .v, .G p138 false p141 (.lenl q140) tI, .G p138 false p142 (.bin .gtr q141 (ci 0)) .b, .G p125 true p143 (.pick q138 (cb true) q142) .b]) p143 .b, .P p144 (.pick q125 q143 (cb false)) .b]) p144 .b] (.cond q144 (.s (.oX [.L p145 (.cells 7 q3) .v, .fa p146 16 q4, .ld p147 q146 tI, .cl p148 54 [q145, (ci 14), q147] .v, .ss 7 q3 q148])) (.s .skip))) c53_4)
def c53_18 : XC := (.cond q117 (.s (.oX [.L p118 (.cells 7 q3) .v, .fa p119 16 q4, .ld p120 q119 tI, .cl p121 54 [q118, (ci 14), q120] .v, .ss 7 q3 q121])) (.s .skip))
def l53_17 : XL := (XL.of [])
def l53_16 : XL := (XL.pre [.G p94 true p109 (.mov q108) .b, .ge p109 (XL.of [.G p109 false p110 (.faddr 2 q4) .v, .o ⟨(some p111), (.l (.cell q110)), (some (p109, false)), []⟩ .b, .G p109 false p112 (.mov q111) .b, .ge p112 (XL.of [.G p112 true p113 (.faddr 7 q4) .v, .o ⟨(some p114), (.l (.cell q113)), (some (p112, true)), []⟩ .b, .G p109 false p115 (.pick q112 q114 (cb false)) .b]) p115 .b, .G p94 true p116 (.pick q109 (cb true) q115) .b]) p116 .b, .P p117 (.pick q94 q116 (cb false)) .b, .jn p94 [p3, p4, p6, p7, p117]] l53_17)
def l53_15 : XL := (XL.pre [.G p94 true p108 (.pick q98 (cb true) q107) .b, .jn p98 [p3, p4, p6, p7, p94, p108]] l53_16)
def v53_2 : List Pos := [p3, p4, p6, p7]
def c53_2 : XC := (.sj v53_3 (.opq false (XL.pre [.fa p91 0 q4, .ld p92 q91 .b, .P p93 (.un .not q92) .b, .mv p94 q93 .b, .sp p94, .G p94 true p95 (.faddr 4 q4) .v, .o ⟨(some p96), (.l (.cell q95)), (some (p94, true)), []⟩ tI, .G p94 true p97 (.bin .eql q96 (ci 0)) .b, .G p94 true p98 (.mov q97) .b, .sp p98, .G p98 false p99 (.faddr 5 q4) .v, .o ⟨(some p100), (.l (.cell q99)), (some (p98, false)), []⟩ tI, .G p98 false p101 (.bin .gtr q100 (ci 0)) .b, .G p98 false p102 (.mov q101) .b, .sp p102, .G p102 true p103 (.faddr 4 q4) .v, .o ⟨(some p104), (.l (.cell q103)), (some (p102, true)), []⟩ tI, .o ⟨(some p105), (.call (.fn 84) [q104]), (some (p102, true)), []⟩ .b, .G p102 true p106 (.un .not q105) .b, .G p98 false p107 (.pick q102 q106 (cb false)) .b, .jn p102 [p3, p4, p6, p7, p94, p98, p107]] l53_15) c53_18) c53_3)
def v53_20 : List Pos := [p2, p3, p4, p6, p7, p65, p66]
def c53_20 : XC := (.s (.oX [.bn p90 .add q66 (ci 1) tI, .mv p66 q90 tI]))
def c53_22 : XC := (.cond q85 (.s (.oX [.L p86 (.cells 7 q3) .v, .fa p87 16 q4, .ld p88 q87 tI, .cl p89 54 [q86, (ci 14), q88] .v, .ss 7 q3 q89])) (.s .skip))
def l53_21 : XL := (XL.of [])
def v53_19 : List Pos := [p2, p3, p4, p6, p7, p65, p66]
def c53_19b : XC := (.sO [.bn p67 .lss q66 q65 .b] (.seq (.cond q67 .skip (.exit 2)) (.sj v53_20 (.block 3 (.sO [.mv p68 q66 tI, .mv p9 q68 tI] (.opq true (XL.pre [.mv p69 q2 .v, .mv p70 q9 tI, .P p71 (.iaddr (.sl 17) q69 q70) .v, .fa p72 3 q71, .ld p73 q72 .s, .fa p74 3 q4, .ld p75 q74 .s, .bn p76 .eql q73 q75 .b, .mv p77 q76 .b, .sp p77, .G p77 true p78 (.mov q2) .v, .G p77 true p79 (.mov q9) tI, .G p77 true p80 (.iaddr (.sl 17) q78 q79) .v, .o ⟨(some p81), (.l (.cells 17 q80)), (some (p77, true)), []⟩ .v, .o ⟨(some p82), (.l (.cells 17 q4)), (some (p77, true)), []⟩ .v, .o ⟨(some p83), (.call (.fn 38) [q81, q82]), (some (p77, true)), []⟩ .b, .G p77 true p84 (.un .not q83) .b, .P p85 (.pick q77 q84 (cb false)) .b, .jn p77 [p2, p3, p4, p6, p7, p65, p66, p85]] l53_21) c53_22))) c53_20)))
def v53_1 : List Pos := [p2, p3, p4, p6, p7]
def c53_1 : XC := (.sj v53_2 (.sO [.mv p64 q2 .v, .P p65 (.lenl q64) tI, .mv p66 (ci 0) tI] (.block 2 (.loop v53_19 c53_19b))) c53_2)
def v53_24 : List Pos := [p2, p3, p4, p6, p7, p26, p27]
def c53_24 : XC := (.s (.oX [.bn p63 .add q27 (ci 1) tI, .mv p27 q63 tI]))
def c53_28 : XC := (.cond q58 (.s (.oX [.L p59 (.cells 7 q3) .v, .fa p60 16 q4, .ld p61 q60 tI, .cl p62 54 [q59, (ci 13), q61] .v, .ss 7 q3 q62])) (.s .skip))
def l53_27 : XL := (XL.of [])
def l53_26 : XL := (XL.pre [.P p58 (.pick q38 q57 (cb false)) .b, .jn p38 [p2, p3, p4, p6, p7, p26, p27, p58]] l53_27)
def l53_25 : XL := (XL.pre [.G p38 true p57 (.pick q47 (cb true) q56) .b, .jn p47 [p2, p3, p4, p6, p7, p26, p27, p38, p57]] l53_26)
def v53_23 : List Pos := [p2, p3, p4, p6, p7, p26, p27]
def c53_23b : XC := (.sO [.bn p28 .lss q27 q26 .b] (.seq (.cond q28 .skip (.exit 0)) (.sj v53_24 (.block 1 (.sO [.mv p29 q27 tI, .mv p8 q29 tI] (.opq true (XL.pre [.mv p30 q2 .v, .mv p31 q8 tI, .P p32 (.iaddr (.sl 17) q30 q31) .v, .fa p33 3 q32, .ld p34 q33 .s, .fa p35 3 q4, .ld p36 q35 .s, .bn p37 .eql q34 q36 .b, .mv p38 q37 .b, .sp p38, .G p38 true p39 (.mov q2) .v, .G p38 true p40 (.mov q8) tI, .G p38 true p41 (.iaddr (.sl 17) q39 q40) .v, .G p38 true p42 (.faddr 0 q41) .v, .o ⟨(some p43), (.l (.cell q42)), (some (p38, true)), []⟩ .b, .G p38 true p44 (.faddr 0 q4) .v, .o ⟨(some p45), (.l (.cell q44)), (some (p38, true)), []⟩ .b, .G p38 true p46 (.eqb true q43 q45) .b, .G p38 true p47 (.mov q46) .b, .sp p47, .G p47 false p48 (.mov q2) .v, .G p47 false p49 (.mov q8) tI, .G p47 false p50 (.iaddr (.sl 17) q48 q49) .v, .o ⟨(some p51), (.l (.cells 17 q50)), (some (p47, false)), []⟩ .v, .o ⟨(some p52), (.call (.fn 37) [q51]), (some (p47, false)), []⟩ .b, .G p47 false p53 (.mov q52) .b, .sp p53, .o ⟨(some p54), (.l (.cells 17 q4)), (some (p53, true)), []⟩ .v, .o ⟨(some p55), (.call (.fn 37) [q54]), (some (p53, true)), []⟩ .b, .G p47 false p56 (.pick q53 q55 (cb false)) .b, .jn p53 [p2, p3, p4, p6, p7, p26, p27, p38, p47, p56]] l53_25) c53_28))) c53_24)))
def v53_0 : List Pos := [p2, p3, p4, p6, p7]
def c53_0 : XC := (.sj v53_1 (.sO [.mv p25 q2 .v, .P p26 (.lenl q25) tI, .mv p27 (ci 0) tI] (.block 0 (.loop v53_23 c53_23b))) c53_1)
def c53_e : XC := (.sO [.al p3 (.box q0), .al p4 (.box q1), .al p6 (.new [.nils, (kI 0), (kI 0), (kI 0), (kI 0), (kI 0), (kI 0)]), .al p7 (.new [(.bool false), (.bool false), (.bool false), (.str []), (kI 0), (kI 0), .nils, (.bool false), .nils, (kI 0), .nils, .nils, (.str []), (kI 0), (kI 0), (kI 0), (kI 0)])] (.sj v53_0 (.sO [.fa p18 3 q4, .ld p19 q18 .s, .cl p20 83 [q19] .b] (.cond q20 (.s (.oX [.L p21 (.cells 7 q3) .v, .fa p22 16 q4, .ld p23 q22 tI, .cl p24 54 [q21, (ci 13), q23] .v, .ss 7 q3 q24])) (.s .skip))) c53_0))
def x53 : XFn := ⟨[.v, .v, .v], false, [(.cells 7 p6), (.cells 17 p7)], c53_e⟩
def e53_7 (k t3 t4 t6 t7 h) := kN k [(p3, t3), (p4, t4), (p6, t6), (p7, t7)] h
def S53_7 (D : CallD) (m : Nat) (t3 t4 t6 t7 : AV) (h : HP) : Res2 :=
 cellsC 7 t3 h fun t280 =>
 cellsC 17 t4 h fun t282 =>
 cal D 90 [t280] h fun t281 h41 =>
 br (again [⟨none, .cells 17 q4, p282⟩] (mkT [(p282, t282), (p4, t4)]) h41) (
 stsC 7 t6 t281 h41 fun h42 =>
 br (againE (.stores 7 q6 q281) [⟨none, .cells 17 q4, p282⟩] (mkT [(p6, t6), (p282, t282), (p4, t4)]) h42) (
 stsC 17 t7 t282 h42 fun h43 =>
 cellsC 7 t6 h43 fun t6a =>
 cellsC 17 t7 h43 fun t7a =>
 some (.ret (.tup [t6a, t7a]) h43, .no)) none) none
def e53_6 (k t3 t4 t6 t7 t15 h) := kN k [(p3, t3), (p4, t4), (p6, t6), (p7, t7), (p15, t15)] h
def S53_6 (D : CallD) (m : Nat) (t3 t4 t6 t7 t15 : AV) (h : HP) : Res2 :=
 faC 6 t4 fun t258 =>
 stoC t258 t15 h fun h40 =>
 faC 0 t4 fun t259 =>
 ldB t259 h40 fun t260 =>
 obB (brV t260 (
 faCV 7 t4 fun t262 =>
 ldBV t262 h40 fun t263 =>
 some (vB t263)) (
 some (vB false))) fun t264 =>
 obB (brV t264 (
 faCV 5 t3 fun t266 =>
 ldIV t266 h40 fun t267 =>
 let t268 := eqQ t267 (Int.ofNat 0)
 some (vB t268)) (
 some (vB false))) fun t269 =>
 br t269 (
 cellsC 7 t3 h40 fun t271 =>
 faC 9 t4 fun t272 =>
 faC 2 t272 fun t273 =>
 cellC t273 h40 fun t274 =>
 cal D 89 [t271, t274] h40 fun t275 h44 =>
 extC t275 0 fun t276 =>
 extC t275 1 fun t277 =>
 stsC 7 t3 t276 h44 fun h45 =>
 faC 9 t4 fun t278 =>
 faC 2 t278 fun t279 =>
 stoC t279 t277 h45 fun h46 =>
 S53_7 D m t3 t4 t6 t7 h46) (
 S53_7 D m t3 t4 t6 t7 h40)
def e53_9 (k t3 t4 t6 t7 t15 t216 t217 h) := kN k [(p3, t3), (p4, t4), (p6, t6), (p7, t7), (p15, t15), (p216, (vI t216)), (p217, (vI t217))] h
def S53_9 (D : CallD) (m : Nat) (g8 : AV → AV → AV → AV → AV → Int → Int → HP → Res2) (t3 t4 t6 t7 t15 : AV) (t216 t217 : Int) (h : HP) : Res2 :=
 let t256 := wrQ .i64 (addQ t217 (Int.ofNat 1))
 g8 t3 t4 t6 t7 t15 t216 t256 h
def e53_10 (k t3 t4 t6 t7 t15 t17 t216 t217 h) := kN k [(p3, t3), (p4, t4), (p6, t6), (p7, t7), (p15, t15), (p17, t17), (p216, (vI t216)), (p217, (vI t217))] h
def S53_10 (D : CallD) (m : Nat) (g8 : AV → AV → AV → AV → AV → Int → Int → HP → Res2) (t3 t4 t6 t7 t15 t17 : AV) (t216 t217 : Int) (h : HP) : Res2 :=
 cellsC 8 t17 h fun t253 =>
 obQ (evA (.bsl [(kI 0), (.str []), (.str []), (.int .u32 (.ofNat 0)), (.int .u64 (.ofNat 0)), .nils, (kI 0), (kI 0)] 1 [⟨0, 8, (.c t253)⟩]) .leaf) fun r52 =>
 let t254 := vkV r52.2 (HP.nxQ h)
 let h53 := HP.newQ h r52.1
 eff (.app 8 96 (.c t15) (.c t254)) h53 fun t255 h54 =>
 S53_9 D m g8 t3 t4 t6 t7 t255 t216 t217 h54
def e53_8 (k t3 t4 t6 t7 t15 t216 t217 h) := kN k [(p3, t3), (p4, t4), (p6, t6), (p7, t7), (p15, t15), (p216, (vI t216)), (p217, (vI t217))] h
def S53_8b (D : CallD) (m : Nat) (g8 : AV → AV → AV → AV → AV → Int → Int → HP → Res2) (t3 t4 t6 t7 t15 : AV) (t216 t217 : Int) (h : HP) : Res2 :=
 let t218 := ltQ t217 t216
 br t218 (
 let t220 := (AV.agg [(kI 0), (vS ([] : LN)), (vS ([] : LN)), (vW (Int.ofNat 0)), (AV.int .u64 (Int.ofNat 0)), (.nils : AV), (kI 0), (kI 0)])
 let t17 := P0 h
 let h47 := nQ h [(kI 0), (.str []), (.str []), (.int .u32 (.ofNat 0)), (.int .u64 (.ofNat 0)), .nils, (kI 0), (kI 0)]
 stsC 8 t17 t220 h47 fun h48 =>
 cellsC 7 t3 h48 fun t222 =>
 faC 6 t4 fun t223 =>
 cellC t223 h48 fun t224 =>
 iasC 8 t224 (vI t217) fun t226 =>
 cellsC 8 t226 h48 fun t227 =>
 faC 4 t4 fun t228 =>
 ldI t228 h48 fun t229 =>
 faC 6 t4 fun t230 =>
 cellC t230 h48 fun t231 =>
 iasC 8 t231 (vI t217) fun t233 =>
 faC 7 t233 fun t234 =>
 ldI t234 h48 fun t235 =>
 cal D 88 [t222, t227, (vI t229), (vI t235)] h48 fun t236 h49 =>
 extC t236 0 fun t237 =>
 extC t236 1 fun t238 =>
 stsC 7 t3 t237 h49 fun h50 =>
 stsC 8 t17 t238 h50 fun h51 =>
 faC 5 t4 fun t239 =>
 ldI t239 h51 fun t240 =>
 let t241 := ltQ (Int.ofNat 0) t240
 obB (brV t241 (
 faCV 5 t4 fun t244 =>
 ldIV t244 h51 fun t245 =>
 let t246 := leQ t245 t217
 some (vB t246)) (
 some (vB false))) fun t247 =>
 br t247 (
 cellsC 7 t3 h51 fun t248 =>
 let t249 := (AV.ptr (HP.nxQ h) (Nat.add 0 7))
 ldI t249 h51 fun t250 =>
 cal D 54 [t248, (kI 1), (vI t250)] h51 fun t251 h55 =>
 stsC 7 t3 t251 h55 fun h56 =>
 S53_10 D m g8 t3 t4 t6 t7 t15 t17 t216 t217 h56) (
 S53_10 D m g8 t3 t4 t6 t7 t15 t17 t216 t217 h51)) (
 S53_6 D m t3 t4 t6 t7 t15 h)
def S53_8 (D : CallD) (m : Nat) : AV → AV → AV → AV → AV → Int → Int → HP → Res2 := nrec (fun _ _ _ _ _ _ _ _ => none) (fun _ g => S53_8b D m g) m
def e53_5 (k t3 t4 t6 t7 t10 h) := kN k [(p3, t3), (p4, t4), (p6, t6), (p7, t7), (p10, t10)] h
def S53_5 (D : CallD) (m : Nat) (t3 t4 t6 t7 t10 : AV) (h : HP) : Res2 :=
 faC 8 t4 fun t213 =>
 stoC t213 t10 h fun h39 =>
 faC 6 t4 fun t214 =>
 cellC t214 h39 fun t215 =>
 lenC t215 fun vt216 => asI .i64 vt216 fun t216 =>
 S53_8 D m t3 t4 t6 t7 (.nils : AV) t216 (Int.ofNat 0) h39
def e53_12 (k t3 t4 t6 t7 t10 t161 t162 h) := kN k [(p3, t3), (p4, t4), (p6, t6), (p7, t7), (p10, t10), (p161, (vI t161)), (p162, (vI t162))] h
def S53_12 (D : CallD) (m : Nat) (g11 : AV → AV → AV → AV → AV → Int → Int → HP → Res2) (t3 t4 t6 t7 t10 : AV) (t161 t162 : Int) (h : HP) : Res2 :=
 let t211 := wrQ .i64 (addQ t162 (Int.ofNat 1))
 g11 t3 t4 t6 t7 t10 t161 t211 h
def e53_14 (k t3 t4 t6 t7 t10 t12 t161 t162 h) := kN k [(p3, t3), (p4, t4), (p6, t6), (p7, t7), (p10, t10), (p12, t12), (p161, (vI t161)), (p162, (vI t162))] h
def S53_14 (D : CallD) (m : Nat) (g11 : AV → AV → AV → AV → AV → Int → Int → HP → Res2) (t3 t4 t6 t7 t10 t12 : AV) (t161 t162 : Int) (h : HP) : Res2 :=
 cellsC 7 t3 h fun t197 =>
 faC 0 t12 fun t198 =>
 ldS t198 h fun t199 =>
 faC 1 t12 fun t200 =>
 ldI t200 h fun t201 =>
 let t202 := (AV.agg [(vB false), (vB false), (vB false), (vS t199), (vI t201), (kI 0), (.nils : AV), (vB false), (.nils : AV), (kI 0), (.nils : AV), (.nils : AV), (vS ([] : LN)), (kI 0), (kI 0), (kI 0), (kI 0)])
 cal D 87 [t197, t202] h fun t203 h59 =>
 extC t203 0 fun t204 =>
 extC t203 1 fun vt205 => asS vt205 fun t205 =>
 stsC 7 t3 t204 h59 fun h60 =>
 faC 0 t12 fun t206 =>
 stoC t206 (vS t205) h60 fun h61 =>
 cellsC 3 t12 h61 fun t208 =>
 obQ (evA (.bsl [(.str []), (kI 0), (kI 0)] 1 [⟨0, 3, (.c t208)⟩]) .leaf) fun r62 =>
 let t209 := vkV r62.2 (HP.nxQ h61)
 let h63 := HP.newQ h61 r62.1
 eff (.app 3 32 (.c t10) (.c t209)) h63 fun t210 h64 =>
 S53_12 D m g11 t3 t4 t6 t7 t210 t161 t162 h64
def e53_13 (k t3 t4 t6 t7 t10 t12 t161 t162 h) := kN k [(p3, t3), (p4, t4), (p6, t6), (p7, t7), (p10, t10), (p12, t12), (p161, (vI t161)), (p162, (vI t162))] h
def S53_13 (D : CallD) (m : Nat) (g11 : AV → AV → AV → AV → AV → Int → Int → HP → Res2) (t3 t4 t6 t7 t10 t12 : AV) (t161 t162 : Int) (h : HP) : Res2 :=
 cellsC 7 t3 h fun t178 =>
 faC 0 t12 fun t179 =>
 ldS t179 h fun t180 =>
 cal D 86 [t178, (vS t180)] h fun t181 h65 =>
 extC t181 0 fun t182 =>
 extC t181 1 fun vt183 => asB vt183 fun t183 =>
 let t13 := P0 h65
 let h66 := nQ h65 [(.bool false), (.bool false), (.bool false), (.str []), (kI 0), (kI 0), .nils, (.bool false), .nils, (kI 0), .nils, .nils, (.str []), (kI 0), (kI 0), (kI 0), (kI 0), (.str []), (kI 0)]
 stsC 19 t13 t182 h66 fun h67 =>
 obB (brV t183 (
 let t186 := (AV.ptr (HP.nxQ h65) (Nat.add 0 18))
 ldIV t186 h67 fun t187 =>
 faCV 1 t3 fun t188 =>
 ldIV t188 h67 fun t189 =>
 let t190 := eqQ t187 t189
 some (vB t190)) (
 some (vB false))) fun t191 =>
 br t191 (
 cellsC 7 t3 h67 fun t192 =>
 faC 2 t12 fun t193 =>
 ldI t193 h67 fun t194 =>
 cal D 54 [t192, (kI 13), (vI t194)] h67 fun t195 h68 =>
 stsC 7 t3 t195 h68 fun h69 =>
 S53_14 D m g11 t3 t4 t6 t7 t10 t12 t161 t162 h69) (
 S53_14 D m g11 t3 t4 t6 t7 t10 t12 t161 t162 h67)
def e53_11 (k t3 t4 t6 t7 t10 t161 t162 h) := kN k [(p3, t3), (p4, t4), (p6, t6), (p7, t7), (p10, t10), (p161, (vI t161)), (p162, (vI t162))] h
def S53_11b (D : CallD) (m : Nat) (g11 : AV → AV → AV → AV → AV → Int → Int → HP → Res2) (t3 t4 t6 t7 t10 : AV) (t161 t162 : Int) (h : HP) : Res2 :=
 let t163 := ltQ t162 t161
 br t163 (
 faC 8 t4 fun t165 =>
 cellC t165 h fun t166 =>
 iasC 3 t166 (vI t162) fun t168 =>
 cellsC 3 t168 h fun t169 =>
 let t12 := P0 h
 let h57 := nQ h [(.str []), (kI 0), (kI 0)]
 stsC 3 t12 t169 h57 fun h58 =>
 let t170 := (AV.ptr (HP.nxQ h) (Nat.add 0 1))
 ldI t170 h58 fun t171 =>
 let t172 := eqQ t171 (Int.ofNat 0)
 br t172 (
 cellsC 7 t3 h58 fun t173 =>
 let t174 := (AV.ptr (HP.nxQ h) (Nat.add 0 2))
 ldI t174 h58 fun t175 =>
 cal D 54 [t173, (kI 14), (vI t175)] h58 fun t176 h70 =>
 stsC 7 t3 t176 h70 fun h71 =>
 S53_13 D m g11 t3 t4 t6 t7 t10 t12 t161 t162 h71) (
 S53_13 D m g11 t3 t4 t6 t7 t10 t12 t161 t162 h58)) (
 S53_5 D m t3 t4 t6 t7 t10 h)
def S53_11 (D : CallD) (m : Nat) : AV → AV → AV → AV → AV → Int → Int → HP → Res2 := nrec (fun _ _ _ _ _ _ _ _ => none) (fun _ g => S53_11b D m g) m
def e53_4 (k t3 t4 t6 t7 h) := kN k [(p3, t3), (p4, t4), (p6, t6), (p7, t7)] h
def S53_4 (D : CallD) (m : Nat) (t3 t4 t6 t7 : AV) (h : HP) : Res2 :=
 cellsC 7 t3 h fun t149 =>
 cellsC 17 t4 h fun t150 =>
 faC 3 t4 fun t151 =>
 ldS t151 h fun t152 =>
 cal D 82 [t149, t150, (vS t152)] h fun t153 h34 =>
 cal D 85 [t153] h34 fun t154 h35 =>
 stsC 7 t3 t154 h35 fun h36 =>
 faC 4 t4 fun t155 =>
 ldI t155 h36 fun t156 =>
 faC 2 t3 fun t157 =>
 stoC t157 (vI t156) h36 fun h37 =>
 faC 3 t3 fun t158 =>
 stoC t158 (kI 0) h37 fun h38 =>
 faC 8 t4 fun t159 =>
 cellC t159 h38 fun t160 =>
 lenC t160 fun vt161 => asI .i64 vt161 fun t161 =>
 S53_11 D m t3 t4 t6 t7 (.nils : AV) t161 (Int.ofNat 0) h38
def e53_3 (k t3 t4 t6 t7 h) := kN k [(p3, t3), (p4, t4), (p6, t6), (p7, t7)] h
def S53_3 (D : CallD) (m : Nat) (t3 t4 t6 t7 : AV) (h : HP) : Res2 :=
 faC 3 t4 fun t122 =>
 ldS t122 h fun t123 =>
 let t124 := eqL t123 ([109, 97, 105, 110] : LN)
 obB (brV t124 (
 faCV 0 t4 fun t126 =>
 ldBV t126 h fun t127 =>
 let t128 := !t127
 obBV (brV t128 (
 some (vB true)) (
 faCV 1 t4 fun t130 =>
 ldBV t130 h fun t131 =>
 some (vB t131))) fun t132 =>
 obBV (brV t132 (
 some (vB true)) (
 faCV 4 t4 fun t134 =>
 ldIV t134 h fun t135 =>
 let t136 := notQ (eqQ t135 (Int.ofNat 1))
 some (vB t136))) fun t137 =>
 obBV (brV t137 (
 some (vB true)) (
 faCV 8 t4 fun t139 =>
 cellCV t139 h fun t140 =>
 lenCV t140 fun vt141 => asIV .i64 vt141 fun t141 =>
 let t142 := ltQ (Int.ofNat 0) t141
 some (vB t142))) fun t143 =>
 some (vB t143)) (
 some (vB false))) fun t144 =>
 br t144 (
 cellsC 7 t3 h fun t145 =>
 faC 16 t4 fun t146 =>
 ldI t146 h fun t147 =>
 cal D 54 [t145, (kI 14), (vI t147)] h fun t148 h72 =>
 stsC 7 t3 t148 h72 fun h73 =>
 S53_4 D m t3 t4 t6 t7 h73) (
 S53_4 D m t3 t4 t6 t7 h)
def e53_17 (k t3 t4 t6 t7 t117 h) := kN k [(p3, t3), (p4, t4), (p6, t6), (p7, t7), (p117, (vB t117))] h
def S53_17 (D : CallD) (m : Nat) (t3 t4 t6 t7 : AV) (t117 : Bool) (h : HP) : Res2 :=
 br t117 (
 cellsC 7 t3 h fun t118 =>
 faC 16 t4 fun t119 =>
 ldI t119 h fun t120 =>
 cal D 54 [t118, (kI 14), (vI t120)] h fun t121 h74 =>
 stsC 7 t3 t121 h74 fun h75 =>
 S53_3 D m t3 t4 t6 t7 h75) (
 S53_3 D m t3 t4 t6 t7 h)
def e53_16 (k t3 t4 t6 t7 t108 h) := kN k [(p3, t3), (p4, t4), (p6, t6), (p7, t7), (p94, .bool true), (p108, (vB t108))] h
def S53_16 (D : CallD) (m : Nat) (t3 t4 t6 t7 : AV) (t108 : Bool) (h : HP) : Res2 :=
 obB (brV t108 (
 some (vB true)) (
 faCV 2 t4 fun t110 =>
 ldBV t110 h fun t111 =>
 obBV (brV t111 (
 faCV 7 t4 fun t113 =>
 ldBV t113 h fun t114 =>
 some (vB t114)) (
 some (vB false))) fun t115 =>
 some (vB t115))) fun t116 =>
 S53_17 D m t3 t4 t6 t7 t116 h
def e53_15 (k t3 t4 t6 t7 t98 t107 h) := kN k [(p3, t3), (p4, t4), (p6, t6), (p7, t7), (p94, .bool true), (p98, (vB t98)), (p107, (vB t107))] h
def S53_15 (D : CallD) (m : Nat) (t3 t4 t6 t7 : AV) (t98 t107 : Bool) (h : HP) : Res2 :=
 obB (brV t98 (some (vB true)) (some (vB t107))) fun t108 =>
 S53_16 D m t3 t4 t6 t7 t108 h
def e53_2 (k t3 t4 t6 t7 h) := kN k [(p3, t3), (p4, t4), (p6, t6), (p7, t7)] h
def S53_2 (D : CallD) (m : Nat) (t3 t4 t6 t7 : AV) (h : HP) : Res2 :=
 faC 0 t4 fun t91 =>
 ldB t91 h fun t92 =>
 let t93 := !t92
 br t93 (
 faC 4 t4 fun t95 =>
 ldI t95 h fun t96 =>
 let t97 := eqQ t96 (Int.ofNat 0)
 br t97 (
 S53_16 D m t3 t4 t6 t7 true h) (
 faC 5 t4 fun t99 =>
 ldI t99 h fun t100 =>
 let t101 := ltQ (Int.ofNat 0) t100
 br t101 (
 faC 4 t4 fun t103 =>
 ldI t103 h fun t104 =>
 cal D 84 [(vI t104)] h fun t105 h76 =>
 asB t105 fun t105a =>
 let t106 := !t105a
 S53_15 D m t3 t4 t6 t7 false t106 h76) (
 S53_15 D m t3 t4 t6 t7 false false h))) (
 S53_17 D m t3 t4 t6 t7 false h)
def e53_20 (k t2 t3 t4 t6 t7 t65 t66 h) := kN k [(p2, t2), (p3, t3), (p4, t4), (p6, t6), (p7, t7), (p65, (vI t65)), (p66, (vI t66))] h
def S53_20 (D : CallD) (m : Nat) (g19 : AV → AV → AV → AV → AV → Int → Int → HP → Res2) (t2 t3 t4 t6 t7 : AV) (t65 t66 : Int) (h : HP) : Res2 :=
 let t90 := wrQ .i64 (addQ t66 (Int.ofNat 1))
 g19 t2 t3 t4 t6 t7 t65 t90 h
def e53_21 (k t2 t3 t4 t6 t7 t65 t66 t85 h) := kN k [(p2, t2), (p3, t3), (p4, t4), (p6, t6), (p7, t7), (p65, (vI t65)), (p66, (vI t66)), (p85, (vB t85))] h
def S53_21 (D : CallD) (m : Nat) (g19 : AV → AV → AV → AV → AV → Int → Int → HP → Res2) (t2 t3 t4 t6 t7 : AV) (t65 t66 : Int) (t85 : Bool) (h : HP) : Res2 :=
 br t85 (
 cellsC 7 t3 h fun t86 =>
 faC 16 t4 fun t87 =>
 ldI t87 h fun t88 =>
 cal D 54 [t86, (kI 14), (vI t88)] h fun t89 h78 =>
 stsC 7 t3 t89 h78 fun h79 =>
 S53_20 D m g19 t2 t3 t4 t6 t7 t65 t66 h79) (
 S53_20 D m g19 t2 t3 t4 t6 t7 t65 t66 h)
def e53_19 (k t2 t3 t4 t6 t7 t65 t66 h) := kN k [(p2, t2), (p3, t3), (p4, t4), (p6, t6), (p7, t7), (p65, (vI t65)), (p66, (vI t66))] h
def S53_19b (D : CallD) (m : Nat) (g19 : AV → AV → AV → AV → AV → Int → Int → HP → Res2) (t2 t3 t4 t6 t7 : AV) (t65 t66 : Int) (h : HP) : Res2 :=
 let t67 := ltQ t66 t65
 br t67 (
 iasC 17 t2 (vI t66) fun t71 =>
 faC 3 t71 fun t72 =>
 ldS t72 h fun t73 =>
 faC 3 t4 fun t74 =>
 ldS t74 h fun t75 =>
 let t76 := eqL t73 t75
 br t76 (
 iasC 17 t2 (vI t66) fun t80 =>
 cellsC 17 t80 h fun t81 =>
 cellsC 17 t4 h fun t82 =>
 cal D 38 [t81, t82] h fun t83 h77 =>
 asB t83 fun t83a =>
 let t84 := !t83a
 S53_21 D m g19 t2 t3 t4 t6 t7 t65 t66 t84 h77) (
 S53_21 D m g19 t2 t3 t4 t6 t7 t65 t66 false h)) (
 S53_2 D m t3 t4 t6 t7 h)
def S53_19 (D : CallD) (m : Nat) : AV → AV → AV → AV → AV → Int → Int → HP → Res2 := nrec (fun _ _ _ _ _ _ _ _ => none) (fun _ g => S53_19b D m g) m
def e53_1 (k t2 t3 t4 t6 t7 h) := kN k [(p2, t2), (p3, t3), (p4, t4), (p6, t6), (p7, t7)] h
def S53_1 (D : CallD) (m : Nat) (t2 t3 t4 t6 t7 : AV) (h : HP) : Res2 :=
 lenC t2 fun vt65 => asI .i64 vt65 fun t65 =>
 S53_19 D m t2 t3 t4 t6 t7 t65 (Int.ofNat 0) h
def e53_24 (k t2 t3 t4 t6 t7 t26 t27 h) := kN k [(p2, t2), (p3, t3), (p4, t4), (p6, t6), (p7, t7), (p26, (vI t26)), (p27, (vI t27))] h
def S53_24 (D : CallD) (m : Nat) (g23 : AV → AV → AV → AV → AV → Int → Int → HP → Res2) (t2 t3 t4 t6 t7 : AV) (t26 t27 : Int) (h : HP) : Res2 :=
 let t63 := wrQ .i64 (addQ t27 (Int.ofNat 1))
 g23 t2 t3 t4 t6 t7 t26 t63 h
def e53_27 (k t2 t3 t4 t6 t7 t26 t27 t58 h) := kN k [(p2, t2), (p3, t3), (p4, t4), (p6, t6), (p7, t7), (p26, (vI t26)), (p27, (vI t27)), (p58, (vB t58))] h
def S53_27 (D : CallD) (m : Nat) (g23 : AV → AV → AV → AV → AV → Int → Int → HP → Res2) (t2 t3 t4 t6 t7 : AV) (t26 t27 : Int) (t58 : Bool) (h : HP) : Res2 :=
 br t58 (
 cellsC 7 t3 h fun t59 =>
 faC 16 t4 fun t60 =>
 ldI t60 h fun t61 =>
 cal D 54 [t59, (kI 13), (vI t61)] h fun t62 h80 =>
 stsC 7 t3 t62 h80 fun h81 =>
 S53_24 D m g23 t2 t3 t4 t6 t7 t26 t27 h81) (
 S53_24 D m g23 t2 t3 t4 t6 t7 t26 t27 h)
def e53_26 (k t2 t3 t4 t6 t7 t26 t27 t38 t57 h) := kN k [(p2, t2), (p3, t3), (p4, t4), (p6, t6), (p7, t7), (p26, (vI t26)), (p27, (vI t27)), (p38, (vB t38)), (p57, (vB t57))] h
def S53_26 (D : CallD) (m : Nat) (g23 : AV → AV → AV → AV → AV → Int → Int → HP → Res2) (t2 t3 t4 t6 t7 : AV) (t26 t27 : Int) (t38 t57 : Bool) (h : HP) : Res2 :=
 obB (brV t38 (some (vB t57)) (some (vB false))) fun t58 =>
 S53_27 D m g23 t2 t3 t4 t6 t7 t26 t27 t58 h
def e53_25 (k t2 t3 t4 t6 t7 t26 t27 t47 t56 h) := kN k [(p2, t2), (p3, t3), (p4, t4), (p6, t6), (p7, t7), (p26, (vI t26)), (p27, (vI t27)), (p38, .bool true), (p47, (vB t47)), (p56, (vB t56))] h
def S53_25 (D : CallD) (m : Nat) (g23 : AV → AV → AV → AV → AV → Int → Int → HP → Res2) (t2 t3 t4 t6 t7 : AV) (t26 t27 : Int) (t47 t56 : Bool) (h : HP) : Res2 :=
 obB (brV t47 (some (vB true)) (some (vB t56))) fun t57 =>
 S53_26 D m g23 t2 t3 t4 t6 t7 t26 t27 true t57 h
def e53_23 (k t2 t3 t4 t6 t7 t26 t27 h) := kN k [(p2, t2), (p3, t3), (p4, t4), (p6, t6), (p7, t7), (p26, (vI t26)), (p27, (vI t27))] h
def S53_23b (D : CallD) (m : Nat) (g23 : AV → AV → AV → AV → AV → Int → Int → HP → Res2) (t2 t3 t4 t6 t7 : AV) (t26 t27 : Int) (h : HP) : Res2 :=
 let t28 := ltQ t27 t26
 br t28 (
 iasC 17 t2 (vI t27) fun t32 =>
 faC 3 t32 fun t33 =>
 ldS t33 h fun t34 =>
 faC 3 t4 fun t35 =>
 ldS t35 h fun t36 =>
 let t37 := eqL t34 t36
 br t37 (
 iasC 17 t2 (vI t27) fun t41 =>
 faC 0 t41 fun t42 =>
 ldB t42 h fun t43 =>
 faC 0 t4 fun t44 =>
 ldB t44 h fun t45 =>
 let t46 := ((t43 == t45) != true)
 br t46 (
 S53_26 D m g23 t2 t3 t4 t6 t7 t26 t27 true true h) (
 iasC 17 t2 (vI t27) fun t50 =>
 cellsC 17 t50 h fun t51 =>
 cal D 37 [t51] h fun t52 h82 =>
 asB t52 fun t52a =>
 br t52a (
 cellsC 17 t4 h82 fun t54 =>
 cal D 37 [t54] h82 fun t55 h83 =>
 asB t55 fun t55a =>
 S53_25 D m g23 t2 t3 t4 t6 t7 t26 t27 false t55a h83) (
 S53_25 D m g23 t2 t3 t4 t6 t7 t26 t27 false false h82))) (
 S53_27 D m g23 t2 t3 t4 t6 t7 t26 t27 false h)) (
 S53_1 D m t2 t3 t4 t6 t7 h)
def S53_23 (D : CallD) (m : Nat) : AV → AV → AV → AV → AV → Int → Int → HP → Res2 := nrec (fun _ _ _ _ _ _ _ _ => none) (fun _ g => S53_23b D m g) m
def e53_0 (k t2 t3 t4 t6 t7 h) := kN k [(p2, t2), (p3, t3), (p4, t4), (p6, t6), (p7, t7)] h
def S53_0 (D : CallD) (m : Nat) (t2 t3 t4 t6 t7 : AV) (h : HP) : Res2 :=
 lenC t2 fun vt26 => asI .i64 vt26 fun t26 =>
 S53_23 D m t2 t3 t4 t6 t7 t26 (Int.ofNat 0) h
def e53_29 (k t0 t1 t2 h) := kN k [(p0, t0), (p1, t1), (p2, t2)] h
def S53_29 (D : CallD) (m : Nat) (t0 t1 t2 : AV) (h : HP) : Res2 :=
 let t3 := P0 h
 let h30 := HP.newQ h (.cells true (AV.cells t0))
 let t4 := P0 h30
 let h31 := HP.newQ h30 (.cells true (AV.cells t1))
 let t6 := P0 h31
 let h32 := nQ h31 [.nils, (kI 0), (kI 0), (kI 0), (kI 0), (kI 0), (kI 0)]
 let t7 := P0 h32
 let h33 := nQ h32 [(.bool false), (.bool false), (.bool false), (.str []), (kI 0), (kI 0), .nils, (.bool false), .nils, (kI 0), .nils, .nils, (.str []), (kI 0), (kI 0), (kI 0), (kI 0)]
 let t18 := (AV.ptr (HP.nxQ h30) (Nat.add 0 3))
 ldS t18 h33 fun t19 =>
 cal D 83 [(vS t19)] h33 fun t20 h84 =>
 asB t20 fun t20a =>
 br t20a (
 cellsC 7 t3 h84 fun t21 =>
 let t22 := (AV.ptr (HP.nxQ h30) (Nat.add 0 16))
 ldI t22 h84 fun t23 =>
 cal D 54 [t21, (kI 13), (vI t23)] h84 fun t24 h85 =>
 stsC 7 t3 t24 h85 fun h86 =>
 S53_0 D m t2 t3 t4 t6 t7 h86) (
 S53_0 D m t2 t3 t4 t6 t7 h84)
def S53 : SFn := fun D m args h u => nou u <| popV args fun t0 args => popV args fun t1 args => popV args fun t2 args => endA args (S53_29 D m t0 t1 t2 h)
theorem T53_7 (hE : FX x53 D m E) : S53_7 D m = e53_7 (E c53_7 []) := by unfold S53_7; rw [hE c53_7]; kernel_rfl
theorem T53_6 (hE : FX x53 D m E) : S53_6 D m = e53_6 (E c53_6 []) := by unfold S53_6; rw [T53_7 hE, hE c53_6]; kernel_rfl
theorem T53_9 (hE : FX x53 D m E) (G8) : S53_9 D m (e53_8 G8) = e53_9 (E c53_9 [.lp v53_8 G8, .blk 6, .sj v53_6 c53_6]) := by unfold S53_9; rw [hE c53_9]; kernel_rfl
theorem T53_10 (hE : FX x53 D m E) (G8) : S53_10 D m (e53_8 G8) = e53_10 (E c53_10 [.blk 7, .sj v53_9 c53_9, .lp v53_8 G8, .blk 6, .sj v53_6 c53_6]) := by unfold S53_10; rw [T53_9 hE G8, hE c53_10]; kernel_rfl
theorem T53_8b (hE : FX x53 D m E) (G8) : S53_8b D m (e53_8 G8) = e53_8 (E c53_8b [.lp v53_8 G8, .blk 6, .sj v53_6 c53_6]) := by unfold S53_8b; rw [T53_10 hE G8, T53_6 hE, hE c53_8b]; kernel_rfl
theorem T53_8 (hE : FX x53 D m E) : S53_8 D m = e53_8 (nrec (fun _ => none) (fun _ G8 st => E c53_8b [.lp v53_8 G8, .blk 6, .sj v53_6 c53_6] st) m) :=
  nrec_emb e53_8 (fun _ _ _ _ _ _ _ _ => none) (fun g => S53_8b D m g) (fun G8 st => E c53_8b [.lp v53_8 G8, .blk 6, .sj v53_6 c53_6] st) rfl (fun g => T53_8b hE g) m
theorem T53_5 (hE : FX x53 D m E) : S53_5 D m = e53_5 (E c53_5 []) := by unfold S53_5; rw [T53_8 hE, hE c53_5]; kernel_rfl
theorem T53_12 (hE : FX x53 D m E) (G11) : S53_12 D m (e53_11 G11) = e53_12 (E c53_12 [.lp v53_11 G11, .blk 4, .sj v53_5 c53_5]) := by unfold S53_12; rw [hE c53_12]; kernel_rfl
theorem T53_14 (hE : FX x53 D m E) (G11) : S53_14 D m (e53_11 G11) = e53_14 (E c53_14 [.blk 5, .sj v53_12 c53_12, .lp v53_11 G11, .blk 4, .sj v53_5 c53_5]) := by unfold S53_14; rw [T53_12 hE G11, hE c53_14]; kernel_rfl
theorem T53_13 (hE : FX x53 D m E) (G11) : S53_13 D m (e53_11 G11) = e53_13 (E c53_13 [.blk 5, .sj v53_12 c53_12, .lp v53_11 G11, .blk 4, .sj v53_5 c53_5]) := by unfold S53_13; rw [T53_14 hE G11, hE c53_13]; kernel_rfl
theorem T53_11b (hE : FX x53 D m E) (G11) : S53_11b D m (e53_11 G11) = e53_11 (E c53_11b [.lp v53_11 G11, .blk 4, .sj v53_5 c53_5]) := by unfold S53_11b; rw [T53_13 hE G11, T53_5 hE, hE c53_11b]; kernel_rfl
theorem T53_11 (hE : FX x53 D m E) : S53_11 D m = e53_11 (nrec (fun _ => none) (fun _ G11 st => E c53_11b [.lp v53_11 G11, .blk 4, .sj v53_5 c53_5] st) m) :=
  nrec_emb e53_11 (fun _ _ _ _ _ _ _ _ => none) (fun g => S53_11b D m g) (fun G11 st => E c53_11b [.lp v53_11 G11, .blk 4, .sj v53_5 c53_5] st) rfl (fun g => T53_11b hE g) m
theorem T53_4 (hE : FX x53 D m E) : S53_4 D m = e53_4 (E c53_4 []) := by unfold S53_4; rw [T53_11 hE, hE c53_4]; kernel_rfl
theorem T53_3 (hE : FX x53 D m E) : S53_3 D m = e53_3 (E c53_3 []) := by unfold S53_3; rw [T53_4 hE, hE c53_3]; kernel_rfl
theorem T53_17 (hE : FX x53 D m E) : S53_17 D m = e53_17 (E (.opq false l53_17 c53_18) [.sj v53_3 c53_3]) := by unfold S53_17; rw [T53_3 hE, hE (.opq false l53_17 c53_18)]; kernel_rfl
theorem T53_16 (hE : FX x53 D m E) : S53_16 D m = e53_16 (E (.opq false l53_16 c53_18) [.sj v53_3 c53_3]) := by unfold S53_16; rw [T53_17 hE, hE (.opq false l53_16 c53_18)]; kernel_rfl
theorem T53_15 (hE : FX x53 D m E) : S53_15 D m = e53_15 (E (.opq false l53_15 c53_18) [.sj v53_3 c53_3]) := by unfold S53_15; rw [T53_16 hE, hE (.opq false l53_15 c53_18)]; kernel_rfl
theorem T53_2 (hE : FX x53 D m E) : S53_2 D m = e53_2 (E c53_2 []) := by unfold S53_2; rw [T53_16 hE, T53_15 hE, T53_17 hE, hE c53_2]; kernel_rfl
theorem T53_20 (hE : FX x53 D m E) (G19) : S53_20 D m (e53_19 G19) = e53_20 (E c53_20 [.lp v53_19 G19, .blk 2, .sj v53_2 c53_2]) := by unfold S53_20; rw [hE c53_20]; kernel_rfl
theorem T53_21 (hE : FX x53 D m E) (G19) : S53_21 D m (e53_19 G19) = e53_21 (E (.opq true l53_21 c53_22) [.blk 3, .sj v53_20 c53_20, .lp v53_19 G19, .blk 2, .sj v53_2 c53_2]) := by unfold S53_21; rw [T53_20 hE G19, hE (.opq true l53_21 c53_22)]; kernel_rfl
theorem T53_19b (hE : FX x53 D m E) (G19) : S53_19b D m (e53_19 G19) = e53_19 (E c53_19b [.lp v53_19 G19, .blk 2, .sj v53_2 c53_2]) := by unfold S53_19b; rw [T53_21 hE G19, T53_2 hE, hE c53_19b]; kernel_rfl
theorem T53_19 (hE : FX x53 D m E) : S53_19 D m = e53_19 (nrec (fun _ => none) (fun _ G19 st => E c53_19b [.lp v53_19 G19, .blk 2, .sj v53_2 c53_2] st) m) :=
  nrec_emb e53_19 (fun _ _ _ _ _ _ _ _ => none) (fun g => S53_19b D m g) (fun G19 st => E c53_19b [.lp v53_19 G19, .blk 2, .sj v53_2 c53_2] st) rfl (fun g => T53_19b hE g) m
theorem T53_1 (hE : FX x53 D m E) : S53_1 D m = e53_1 (E c53_1 []) := by unfold S53_1; rw [T53_19 hE, hE c53_1]; kernel_rfl
theorem T53_24 (hE : FX x53 D m E) (G23) : S53_24 D m (e53_23 G23) = e53_24 (E c53_24 [.lp v53_23 G23, .blk 0, .sj v53_1 c53_1]) := by unfold S53_24; rw [hE c53_24]; kernel_rfl
theorem T53_27 (hE : FX x53 D m E) (G23) : S53_27 D m (e53_23 G23) = e53_27 (E (.opq true l53_27 c53_28) [.blk 1, .sj v53_24 c53_24, .lp v53_23 G23, .blk 0, .sj v53_1 c53_1]) := by unfold S53_27; rw [T53_24 hE G23, hE (.opq true l53_27 c53_28)]; kernel_rfl
theorem T53_26 (hE : FX x53 D m E) (G23) : S53_26 D m (e53_23 G23) = e53_26 (E (.opq true l53_26 c53_28) [.blk 1, .sj v53_24 c53_24, .lp v53_23 G23, .blk 0, .sj v53_1 c53_1]) := by unfold S53_26; rw [T53_27 hE G23, hE (.opq true l53_26 c53_28)]; kernel_rfl
theorem T53_25 (hE : FX x53 D m E) (G23) : S53_25 D m (e53_23 G23) = e53_25 (E (.opq true l53_25 c53_28) [.blk 1, .sj v53_24 c53_24, .lp v53_23 G23, .blk 0, .sj v53_1 c53_1]) := by unfold S53_25; rw [T53_26 hE G23, hE (.opq true l53_25 c53_28)]; kernel_rfl
theorem T53_23b (hE : FX x53 D m E) (G23) : S53_23b D m (e53_23 G23) = e53_23 (E c53_23b [.lp v53_23 G23, .blk 0, .sj v53_1 c53_1]) := by unfold S53_23b; rw [T53_26 hE G23, T53_25 hE G23, T53_27 hE G23, T53_1 hE, hE c53_23b]; kernel_rfl
theorem T53_23 (hE : FX x53 D m E) : S53_23 D m = e53_23 (nrec (fun _ => none) (fun _ G23 st => E c53_23b [.lp v53_23 G23, .blk 0, .sj v53_1 c53_1] st) m) :=
  nrec_emb e53_23 (fun _ _ _ _ _ _ _ _ => none) (fun g => S53_23b D m g) (fun G23 st => E c53_23b [.lp v53_23 G23, .blk 0, .sj v53_1 c53_1] st) rfl (fun g => T53_23b hE g) m
theorem T53_0 (hE : FX x53 D m E) : S53_0 D m = e53_0 (E c53_0 []) := by unfold S53_0; rw [T53_23 hE, hE c53_0]; kernel_rfl
theorem T53_29 (hE : FX x53 D m E) : S53_29 D m = e53_29 (E c53_e []) := by unfold S53_29; rw [T53_0 hE, hE c53_e]; kernel_rfl
theorem X53 : XTie S53 x53 := X_of fun D m E hE args h u => by unfold S53; rw [T53_29 hE]; kernel_rfl
/- 55 -/
def v55_0 : List Pos := [p1]
def c55_0 : XC := (.sO [.mv p25 q1 .v, .mv p4 q25 .v] (.s .ret))
def v55_1 : List Pos := [p0, p1, p7, p8]
def c55_1b : XC := (.sO [.bn p9 .lss q8 q7 .b] (.seq (.cond q9 .skip (.exit 0)) (.seq (.block 1 (.seq (.oX [.mv p10 q8 tI, .mv p5 q10 tI]) (.ops true (XL.of [.mv p11 q0 .v, .mv p12 q5 tI, .P p13 (.iaddr (.sl 7) q11 q12) .v, .fa p14 2 q13, .ld p15 q14 .v, .mv p16 q0 .v, .mv p17 q5 tI, .P p18 (.iaddr (.sl 7) q16 q17) .v, .fa p19 1 q18, .ld p20 q19 .v, .mv p21 q1 .v, .o ⟨(some p22), (.call (.fn 56) [q20, q21]), none, [⟨none, .cell q14, p15⟩]⟩ .v, .cl p23 55 [q15, q22] .v, .mv p1 q23 .v])))) (.s (.oX [.bn p24 .add q8 (ci 1) tI, .mv p8 q24 tI])))))
def c55_e : XC := (.sO [.mv p4 (.c .nils) .v] (.sj v55_0 (.sO [.mv p6 q0 .v, .P p7 (.lenl q6) tI, .mv p8 (ci 0) tI] (.block 0 (.loop v55_1 c55_1b))) c55_0))
def x55 : XFn := ⟨[.v, .v], false, [(.tmp p4)], c55_e⟩
def e55_0 (k t1 h) := kN k [(p1, t1)] h
def S55_0 (D : CallD) (m : Nat) (t1 : AV) (h : HP) : Res2 :=
 some (.ret t1 h, .no)
def e55_1 (k t0 t1 t7 t8 h) := kN k [(p0, t0), (p1, t1), (p7, (vI t7)), (p8, (vI t8))] h
def S55_1b (D : CallD) (m : Nat) (g1 : AV → AV → Int → Int → HP → Res2) (t0 t1 : AV) (t7 t8 : Int) (h : HP) : Res2 :=
 let t9 := ltQ t8 t7
 br t9 (
 iasC 7 t0 (vI t8) fun t13 =>
 faC 2 t13 fun t14 =>
 cellC t14 h fun t15 =>
 iasC 7 t0 (vI t8) fun t18 =>
 faC 1 t18 fun t19 =>
 cellC t19 h fun t20 =>
 cal D 56 [t20, t1] h fun t22 h3 =>
 br (again [⟨none, .cell q14, p15⟩] (mkT [(p15, t15), (p14, t14)]) h3) (
 cal D 55 [t15, t22] h3 fun t23 h4 =>
 let t24 := wrQ .i64 (addQ t8 (Int.ofNat 1))
 g1 t0 t23 t7 t24 h4) none) (
 S55_0 D m t1 h)
def S55_1 (D : CallD) (m : Nat) : AV → AV → Int → Int → HP → Res2 := nrec (fun _ _ _ _ _ => none) (fun _ g => S55_1b D m g) m
def e55_2 (k t0 t1 h) := kN k [(p0, t0), (p1, t1)] h
def S55_2 (D : CallD) (m : Nat) (t0 t1 : AV) (h : HP) : Res2 :=
 lenC t0 fun vt7 => asI .i64 vt7 fun t7 =>
 S55_1 D m t0 t1 t7 (Int.ofNat 0) h
def S55 : SFn := fun D m args h u => nou u <| popV args fun t0 args => popV args fun t1 args => endA args (S55_2 D m t0 t1 h)
theorem T55_0 (hE : FX x55 D m E) : S55_0 D m = e55_0 (E c55_0 []) := by unfold S55_0; rw [hE c55_0]; kernel_rfl
theorem T55_1b (hE : FX x55 D m E) (G1) : S55_1b D m (e55_1 G1) = e55_1 (E c55_1b [.lp v55_1 G1, .blk 0, .sj v55_0 c55_0]) := by unfold S55_1b; rw [T55_0 hE, hE c55_1b]; kernel_rfl
theorem T55_1 (hE : FX x55 D m E) : S55_1 D m = e55_1 (nrec (fun _ => none) (fun _ G1 st => E c55_1b [.lp v55_1 G1, .blk 0, .sj v55_0 c55_0] st) m) :=
  nrec_emb e55_1 (fun _ _ _ _ _ => none) (fun g => S55_1b D m g) (fun G1 st => E c55_1b [.lp v55_1 G1, .blk 0, .sj v55_0 c55_0] st) rfl (fun g => T55_1b hE g) m
theorem T55_2 (hE : FX x55 D m E) : S55_2 D m = e55_2 (E c55_e []) := by unfold S55_2; rw [T55_1 hE, hE c55_e]; kernel_rfl
theorem X55 : XTie S55 x55 := X_of fun D m E hE args h u => by unfold S55; rw [T55_2 hE]; kernel_rfl
/- 56 -/
def v56_0 : List Pos := [p1]
def c56_0 : XC := (.sO [.mv p31 q1 .v, .mv p4 q31 .v] (.s .ret))
def v56_2 : List Pos := [p0, p1, p7, p8]
def c56_2 : XC := (.s (.oX [.bn p30 .add q8 (ci 1) tI, .mv p8 q30 tI]))
def v56_3 : List Pos := [p0, p1, p5, p7, p8]
def c56_3 : XC := (.s (.oX [.mv p23 q0 .v, .mv p24 q5 tI, .P p25 (.iaddr (.sl 8) q23 q24) .v, .fa p26 5 q25, .ld p27 q26 .v, .mv p28 q1 .v, .cl p29 56 [q27, q28] .v, .mv p1 q29 .v]))
def v56_1 : List Pos := [p0, p1, p7, p8]
def c56_1b : XC := (.sO [.bn p9 .lss q8 q7 .b] (.seq (.cond q9 .skip (.exit 0)) (.sj v56_2 (.block 1 (.sO [.mv p10 q8 tI, .mv p5 q10 tI] (.sj v56_3 (.sO [.mv p11 q0 .v, .mv p12 q5 tI, .P p13 (.iaddr (.sl 8) q11 q12) .v, .L p14 (.cells 8 q13) .v, .cl p15 58 [q14] .b] (.cond q15 (.s (.oX [.mv p16 q1 .v, .mv p17 q0 .v, .mv p18 q5 tI, .P p19 (.iaddr (.sl 8) q17 q18) .v, .fa p20 2 q19, .ld p21 q20 .s, .cl p22 91 [q16, q21] .v, .mv p1 q22 .v])) (.s .skip))) c56_3))) c56_2)))
def c56_e : XC := (.sO [.mv p4 (.c .nils) .v] (.sj v56_0 (.sO [.mv p6 q0 .v, .P p7 (.lenl q6) tI, .mv p8 (ci 0) tI] (.block 0 (.loop v56_1 c56_1b))) c56_0))
def x56 : XFn := ⟨[.v, .v], false, [(.tmp p4)], c56_e⟩
def e56_0 (k t1 h) := kN k [(p1, t1)] h
def S56_0 (D : CallD) (m : Nat) (t1 : AV) (h : HP) : Res2 :=
 some (.ret t1 h, .no)
def e56_2 (k t0 t1 t7 t8 h) := kN k [(p0, t0), (p1, t1), (p7, (vI t7)), (p8, (vI t8))] h
def S56_2 (D : CallD) (m : Nat) (g1 : AV → AV → Int → Int → HP → Res2) (t0 t1 : AV) (t7 t8 : Int) (h : HP) : Res2 :=
 let t30 := wrQ .i64 (addQ t8 (Int.ofNat 1))
 g1 t0 t1 t7 t30 h
def e56_3 (k t0 t1 t5 t7 t8 h) := kN k [(p0, t0), (p1, t1), (p5, (vI t5)), (p7, (vI t7)), (p8, (vI t8))] h
def S56_3 (D : CallD) (m : Nat) (g1 : AV → AV → Int → Int → HP → Res2) (t0 t1 : AV) (t5 t7 t8 : Int) (h : HP) : Res2 :=
 iasC 8 t0 (vI t5) fun t25 =>
 faC 5 t25 fun t26 =>
 cellC t26 h fun t27 =>
 cal D 56 [t27, t1] h fun t29 h5 =>
 S56_2 D m g1 t0 t29 t7 t8 h5
def e56_1 (k t0 t1 t7 t8 h) := kN k [(p0, t0), (p1, t1), (p7, (vI t7)), (p8, (vI t8))] h
def S56_1b (D : CallD) (m : Nat) (g1 : AV → AV → Int → Int → HP → Res2) (t0 t1 : AV) (t7 t8 : Int) (h : HP) : Res2 :=
 let t9 := ltQ t8 t7
 br t9 (
 iasC 8 t0 (vI t8) fun t13 =>
 cellsC 8 t13 h fun t14 =>
 cal D 58 [t14] h fun t15 h6 =>
 asB t15 fun t15a =>
 br t15a (
 iasC 8 t0 (vI t8) fun t19 =>
 faC 2 t19 fun t20 =>
 ldS t20 h6 fun t21 =>
 cal D 91 [t1, (vS t21)] h6 fun t22 h7 =>
 S56_3 D m g1 t0 t22 t8 t7 t8 h7) (
 S56_3 D m g1 t0 t1 t8 t7 t8 h6)) (
 S56_0 D m t1 h)
def S56_1 (D : CallD) (m : Nat) : AV → AV → Int → Int → HP → Res2 := nrec (fun _ _ _ _ _ => none) (fun _ g => S56_1b D m g) m
def e56_4 (k t0 t1 h) := kN k [(p0, t0), (p1, t1)] h
def S56_4 (D : CallD) (m : Nat) (t0 t1 : AV) (h : HP) : Res2 :=
 lenC t0 fun vt7 => asI .i64 vt7 fun t7 =>
 S56_1 D m t0 t1 t7 (Int.ofNat 0) h
def S56 : SFn := fun D m args h u => nou u <| popV args fun t0 args => popV args fun t1 args => endA args (S56_4 D m t0 t1 h)
theorem T56_0 (hE : FX x56 D m E) : S56_0 D m = e56_0 (E c56_0 []) := by unfold S56_0; rw [hE c56_0]; kernel_rfl
theorem T56_2 (hE : FX x56 D m E) (G1) : S56_2 D m (e56_1 G1) = e56_2 (E c56_2 [.lp v56_1 G1, .blk 0, .sj v56_0 c56_0]) := by unfold S56_2; rw [hE c56_2]; kernel_rfl
theorem T56_3 (hE : FX x56 D m E) (G1) : S56_3 D m (e56_1 G1) = e56_3 (E c56_3 [.blk 1, .sj v56_2 c56_2, .lp v56_1 G1, .blk 0, .sj v56_0 c56_0]) := by unfold S56_3; rw [T56_2 hE G1, hE c56_3]; kernel_rfl
theorem T56_1b (hE : FX x56 D m E) (G1) : S56_1b D m (e56_1 G1) = e56_1 (E c56_1b [.lp v56_1 G1, .blk 0, .sj v56_0 c56_0]) := by unfold S56_1b; rw [T56_3 hE G1, T56_0 hE, hE c56_1b]; kernel_rfl
theorem T56_1 (hE : FX x56 D m E) : S56_1 D m = e56_1 (nrec (fun _ => none) (fun _ G1 st => E c56_1b [.lp v56_1 G1, .blk 0, .sj v56_0 c56_0] st) m) :=
  nrec_emb e56_1 (fun _ _ _ _ _ => none) (fun g => S56_1b D m g) (fun G1 st => E c56_1b [.lp v56_1 G1, .blk 0, .sj v56_0 c56_0] st) rfl (fun g => T56_1b hE g) m
theorem T56_4 (hE : FX x56 D m E) : S56_4 D m = e56_4 (E c56_e []) := by unfold S56_4; rw [T56_1 hE, hE c56_e]; kernel_rfl
theorem X56 : XTie S56 x56 := X_of fun D m E hE args h u => by unfold S56; rw [T56_4 hE]; kernel_rfl
/- 57 -/
def v57_0 : List Pos := []
def c57_0 : XC := (.sO [.mv p4 (cb false) .b] (.s .ret))
def v57_1 : List Pos := [p1, p2, p8, p9]
def c57_1b : XC := (.sO [.bn p10 .lss q9 q8 .b] (.seq (.cond q10 .skip (.exit 0)) (.seq (.block 1 (.seq (.oX [.mv p11 q9 tI, .mv p5 q11 tI]) (.seq (.oX [.fa p12 0 q2, .ld p13 q12 .v, .mv p14 q5 tI, .P p15 (.iaddr (.sl 17) q13 q14) .v, .fa p16 3 q15, .ld p17 q16 .s, .mv p18 q1 .s, .bn p19 .eql q17 q18 .b, .mv p20 q19 .b, .ge p20 (XL.of [.G p20 true p21 (.faddr 0 q2) .v, .o ⟨(some p22), (.l (.cell q21)), (some (p20, true)), []⟩ .v, .G p20 true p23 (.mov q5) tI, .G p20 true p24 (.iaddr (.sl 17) q22 q23) .v, .G p20 true p25 (.faddr 1 q24) .v, .o ⟨(some p26), (.l (.cell q25)), (some (p20, true)), []⟩ .b, .P p27 (.pick q20 q26 (cb false)) .b]) p27 .b]) (.cond q27 (.seq (.oX [.mv p4 (cb true) .b]) .ret) .skip)))) (.s (.oX [.bn p28 .add q9 (ci 1) tI, .mv p9 q28 tI])))))
def c57_e : XC := (.sO [.al p2 (.box q0), .mv p4 (cb false) .b] (.sj v57_0 (.sO [.fa p6 0 q2, .ld p7 q6 .v, .P p8 (.lenl q7) tI, .mv p9 (ci 0) tI] (.block 0 (.loop v57_1 c57_1b))) c57_0))
def x57 : XFn := ⟨[.v, .s], false, [(.tmp p4)], c57_e⟩
def e57_0 (k h) := kN k [] h
def S57_0 (D : CallD) (m : Nat) (h : HP) : Res2 :=
 some (.ret (vB false) h, .no)
def e57_1 (k t1 t2 t8 t9 h) := kN k [(p1, (vS t1)), (p2, t2), (p8, (vI t8)), (p9, (vI t9))] h
def S57_1b (D : CallD) (m : Nat) (g1 : LN → AV → Int → Int → HP → Res2) (t1 : LN) (t2 : AV) (t8 t9 : Int) (h : HP) : Res2 :=
 let t10 := ltQ t9 t8
 br t10 (
 faC 0 t2 fun t12 =>
 cellC t12 h fun t13 =>
 iasC 17 t13 (vI t9) fun t15 =>
 faC 3 t15 fun t16 =>
 ldS t16 h fun t17 =>
 let t19 := eqL t17 t1
 obB (brV t19 (
 faCV 0 t2 fun t21 =>
 cellCV t21 h fun t22 =>
 iasCV 17 t22 (vI t9) fun t24 =>
 faCV 1 t24 fun t25 =>
 ldBV t25 h fun t26 =>
 some (vB t26)) (
 some (vB false))) fun t27 =>
 br t27 (
 some (.ret (vB true) h, .no)) (
 let t28 := wrQ .i64 (addQ t9 (Int.ofNat 1))
 g1 t1 t2 t8 t28 h)) (
 S57_0 D m h)
def S57_1 (D : CallD) (m : Nat) : LN → AV → Int → Int → HP → Res2 := nrec (fun _ _ _ _ _ => none) (fun _ g => S57_1b D m g) m
def e57_2 (k t0 t1 h) := kN k [(p0, t0), (p1, (vS t1))] h
def S57_2 (D : CallD) (m : Nat) (t0 : AV) (t1 : LN) (h : HP) : Res2 :=
 let t2 := P0 h
 let h3 := HP.newQ h (.cells true (AV.cells t0))
 let t6 := (AV.ptr (HP.nxQ h) (Nat.add 0 0))
 cellC t6 h3 fun t7 =>
 lenC t7 fun vt8 => asI .i64 vt8 fun t8 =>
 S57_1 D m t1 t2 t8 (Int.ofNat 0) h3
def S57 : SFn := fun D m args h u => nou u <| popV args fun t0 args => popS args fun t1 args => endA args (S57_2 D m t0 t1 h)
theorem T57_0 (hE : FX x57 D m E) : S57_0 D m = e57_0 (E c57_0 []) := by unfold S57_0; rw [hE c57_0]; kernel_rfl
theorem T57_1b (hE : FX x57 D m E) (G1) : S57_1b D m (e57_1 G1) = e57_1 (E c57_1b [.lp v57_1 G1, .blk 0, .sj v57_0 c57_0]) := by unfold S57_1b; rw [T57_0 hE, hE c57_1b]; kernel_rfl
theorem T57_1 (hE : FX x57 D m E) : S57_1 D m = e57_1 (nrec (fun _ => none) (fun _ G1 st => E c57_1b [.lp v57_1 G1, .blk 0, .sj v57_0 c57_0] st) m) :=
  nrec_emb e57_1 (fun _ _ _ _ _ => none) (fun g => S57_1b D m g) (fun G1 st => E c57_1b [.lp v57_1 G1, .blk 0, .sj v57_0 c57_0] st) rfl (fun g => T57_1b hE g) m
theorem T57_2 (hE : FX x57 D m E) : S57_2 D m = e57_2 (E c57_e []) := by unfold S57_2; rw [T57_1 hE, hE c57_e]; kernel_rfl
theorem X57 : XTie S57 x57 := X_of fun D m E hE args h u => by unfold S57; rw [T57_2 hE]; kernel_rfl
/- 58 -/
def c58_1 : XC := (.s .ret)
def l58_0 : XL := (XL.of [.mv p2 q27 .b])
def c58_e : XC := (.sO [.al p1 (.box q0), .mv p2 (cb false) .b] (.opq false (XL.pre [.fa p3 0 q1, .ld p4 q3 tI, .bn p5 .eql q4 (ci 3) .b, .mv p6 q5 .b, .ge p6 (XL.of [.G p6 false p7 (.faddr 0 q1) .v, .o ⟨(some p8), (.l (.cell q7)), (some (p6, false)), []⟩ tI, .G p6 false p9 (.bin .eql q8 (ci 7)) .b, .P p10 (.pick q6 (cb true) q9) .b]) p10 .b, .mv p11 q10 .b, .ge p11 (XL.of [.G p11 true p12 (.faddr 2 q1) .v, .o ⟨(some p13), (.l (.cell q12)), (some (p11, true)), []⟩ .s, .G p11 true p14 (.bin .neq q13 (.c (.str []))) .b, .P p15 (.pick q11 q14 (cb false)) .b]) p15 .b, .mv p16 q15 .b, .ge p16 (XL.of [.G p16 true p17 (.faddr 2 q1) .v, .o ⟨(some p18), (.l (.cell q17)), (some (p16, true)), []⟩ .s, .G p16 true p19 (.idxs q18 (ci 0)) tC, .G p16 true p20 (.bin .neq q19 (.c (.int .u8 (.ofNat 36)))) .b, .P p21 (.pick q16 q20 (cb false)) .b]) p21 .b, .mv p22 q21 .b, .sp p22, .G p22 true p23 (.faddr 2 q1) .v, .o ⟨(some p24), (.l (.cell q23)), (some (p22, true)), []⟩ .s, .o ⟨(some p25), (.call (.fn 83) [q24]), (some (p22, true)), []⟩ .b, .G p22 true p26 (.un .not q25) .b, .P p27 (.pick q22 q26 (cb false)) .b, .jn p22 [p27]] l58_0) c58_1))
def x58 : XFn := ⟨[.v], false, [(.tmp p2)], c58_e⟩
def e58_0 (k t27 h) := kN k [(p27, (vB t27))] h
def S58_0 (D : CallD) (m : Nat) (t27 : Bool) (h : HP) : Res2 :=
 some (.ret (vB t27) h, .no)
def e58_2 (k t0 h) := kN k [(p0, t0)] h
def S58_2 (D : CallD) (m : Nat) (t0 : AV) (h : HP) : Res2 :=
 let t1 := P0 h
 let h3 := HP.newQ h (.cells true (AV.cells t0))
 let t3 := (AV.ptr (HP.nxQ h) (Nat.add 0 0))
 ldI t3 h3 fun t4 =>
 let t5 := eqQ t4 (Int.ofNat 3)
 obB (brV t5 (
 some (vB true)) (
 let t7 := (AV.ptr (HP.nxQ h) (Nat.add 0 0))
 ldIV t7 h3 fun t8 =>
 let t9 := eqQ t8 (Int.ofNat 7)
 some (vB t9))) fun t10 =>
 obB (brV t10 (
 let t12 := (AV.ptr (HP.nxQ h) (Nat.add 0 2))
 ldSV t12 h3 fun t13 =>
 let t14 := !(eqL t13 ([] : LN))
 some (vB t14)) (
 some (vB false))) fun t15 =>
 obB (brV t15 (
 let t17 := (AV.ptr (HP.nxQ h) (Nat.add 0 2))
 ldSV t17 h3 fun t18 =>
 ixCV (vS t18) (kI 0) fun vt19 => asIV .u8 vt19 fun t19 =>
 let t20 := notQ (eqQ t19 (Int.ofNat 36))
 some (vB t20)) (
 some (vB false))) fun t21 =>
 br t21 (
 let t23 := (AV.ptr (HP.nxQ h) (Nat.add 0 2))
 ldS t23 h3 fun t24 =>
 cal D 83 [(vS t24)] h3 fun t25 h4 =>
 asB t25 fun t25a =>
 let t26 := !t25a
 S58_0 D m t26 h4) (
 S58_0 D m false h3)
def S58 : SFn := fun D m args h u => nou u <| popV args fun t0 args => endA args (S58_2 D m t0 h)
theorem T58_0 (hE : FX x58 D m E) : S58_0 D m = e58_0 (E (.opq false l58_0 c58_1) []) := by unfold S58_0; rw [hE (.opq false l58_0 c58_1)]; kernel_rfl
theorem T58_2 (hE : FX x58 D m E) : S58_2 D m = e58_2 (E c58_e []) := by unfold S58_2; rw [T58_0 hE, hE c58_e]; kernel_rfl
theorem X58 : XTie S58 x58 := X_of fun D m E hE args h u => by unfold S58; rw [T58_2 hE]; kernel_rfl
/- 66 -/
def c66_e : XC := (.sO [.mv p4 (.c .nilp) .v] (.sO [.mv p5 q0 tI, .cl p6 68 [q5] .v, .al p7 (.bsl [(kI 0), (.int .u32 (.ofNat 0)), (.int .u64 (.ofNat 0)), (.str []), (kI 0), .nilp, (kI 0)] 1 [⟨0, 7, q6⟩]), .mv p8 q1 tI, .P p9 (.mm true [q8, (ci 1)]) tI, .cl p10 102 [q7, q9] .v, .P p11 (.build [.nils, (.bool false)] [⟨0, 1, q10⟩]) .v, .al p12 (.box q11), .mv p4 q12 .v] (.s .ret)))
def x66 : XFn := ⟨[tI, tI], false, [(.tmp p4)], c66_e⟩
def e66_0 (k t0 t1 h) := kN k [(p0, (vI t0)), (p1, (vI t1))] h
def S66_0 (D : CallD) (m : Nat) (t0 t1 : Int) (h : HP) : Res2 :=
 cal D 68 [(vI t0)] h fun t6 h1 =>
 obQ (evA (.bsl [(kI 0), (.int .u32 (.ofNat 0)), (.int .u64 (.ofNat 0)), (.str []), (kI 0), .nilp, (kI 0)] 1 [⟨0, 7, (.c t6)⟩]) .leaf) fun r2 =>
 let t7 := vkV r2.2 (HP.nxQ h1)
 let h3 := HP.newQ h1 r2.1
 let t9 := mmI true t1 (Int.ofNat 1)
 cal D 102 [t7, (vI t9)] h3 fun t10 h4 =>
 obQ (evP (.build [.nils, (.bool false)] [⟨0, 1, (.c t10)⟩]) .leaf) fun t11 =>
 let t12 := P0 h4
 let h5 := HP.newQ h4 (.cells true (AV.cells t11))
 some (.ret t12 h5, .no)
def S66 : SFn := fun D m args h u => nou u <| popI .i64 args fun t0 args => popI .i64 args fun t1 args => endA args (S66_0 D m t0 t1 h)
theorem T66_0 (hE : FX x66 D m E) : S66_0 D m = e66_0 (E c66_e []) := by unfold S66_0; rw [hE c66_e]; kernel_rfl
theorem X66 : XTie S66 x66 := X_of fun D m E hE args h u => by unfold S66; rw [T66_0 hE]; kernel_rfl
/- 68 -/
def c68_e : XC := (.sO [.al p2 (.new [(kI 0), (.int .u32 (.ofNat 0)), (.int .u64 (.ofNat 0)), (.str []), (kI 0), .nilp, (kI 0)])] (.sO [.mv p3 q0 tI, .P p4 (.build [(kI 0), (.int .u32 (.ofNat 0)), (.int .u64 (.ofNat 0)), (.str []), (kI 0)] [⟨0, 1, q3⟩]) .v, .P p5 (.build [(kI 0), (.int .u32 (.ofNat 0)), (.int .u64 (.ofNat 0)), (.str []), (kI 0), .nilp, (kI 0)] [⟨0, 5, q4⟩]) .v, .ss 7 q2 q5] (.s .ret)))
def x68 : XFn := ⟨[tI], false, [(.cells 7 p2)], c68_e⟩
def e68_0 (k t0 h) := kN k [(p0, (vI t0))] h
def S68_0 (D : CallD) (m : Nat) (t0 : Int) (h : HP) : Res2 :=
 let t2 := P0 h
 let h1 := nQ h [(kI 0), (.int .u32 (.ofNat 0)), (.int .u64 (.ofNat 0)), (.str []), (kI 0), .nilp, (kI 0)]
 let t4 := (AV.agg [(vI t0), (vW (Int.ofNat 0)), (AV.int .u64 (Int.ofNat 0)), (vS ([] : LN)), (kI 0)])
 let t5 := (AV.agg [(vI t0), (vW (Int.ofNat 0)), (AV.int .u64 (Int.ofNat 0)), (vS ([] : LN)), (kI 0), (.nilp : AV), (kI 0)])
 stsC 7 t2 t5 h1 fun h2 =>
 cellsC 7 t2 h2 fun t2a =>
 some (.ret t2a h2, .no)
def S68 : SFn := fun D m args h u => nou u <| popI .i64 args fun t0 args => endA args (S68_0 D m t0 h)
theorem T68_0 (hE : FX x68 D m E) : S68_0 D m = e68_0 (E c68_e []) := by unfold S68_0; rw [hE c68_e]; kernel_rfl
theorem X68 : XTie S68 x68 := X_of fun D m E hE args h u => by unfold S68; rw [T68_0 hE]; kernel_rfl
/- 69 -/
def v69_0 : List Pos := [p0, p1, p2, p3]
def c69_0 : XC := (.sO [.mv p22 q2 tI, .mv p23 q3 tI, .cl p24 66 [q22, q23] .v, .mv p10 q24 .v] (.sO [.mv p25 q0 .v, .P p26 (.nilck q25) .v, .fa p27 1 q26, .ld p28 q27 .v, .mv p29 q1 .s, .mv p30 q10 .v, .o ⟨none, (.e (.mset .str q28 q29 q30)), none, []⟩ .v] (.sO [.mv p31 q10 .v, .mv p8 q31 .v] (.s .ret))))
def c69_e : XC := (.sO [.mv p8 (.c .nilp) .v] (.sj v69_0 (.sO [.mv p11 q0 .v, .P p12 (.nilck q11) .v, .fa p13 1 q12, .ld p14 q13 .v, .mv p15 q1 .s, .L p16 (.look .str .nilp false q14 q15) .v, .mv p9 q16 .v] (.sO [.mv p17 q9 .v, .L p18 (.eqp true q17 (.c .nilp)) .b] (.cond q18 (.s (.oX [.mv p19 q9 .v, .P p20 (.nilck q19) .v, .fa p21 1 q20, .st q21 (cb true)])) (.s .skip)))) c69_0))
def x69 : XFn := ⟨[.v, .s, tI, tI], false, [(.tmp p8)], c69_e⟩
def e69_0 (k t0 t1 t2 t3 h) := kN k [(p0, t0), (p1, (vS t1)), (p2, (vI t2)), (p3, (vI t3))] h
def S69_0 (D : CallD) (m : Nat) (t0 : AV) (t1 : LN) (t2 t3 : Int) (h : HP) : Res2 :=
 cal D 66 [(vI t2), (vI t3)] h fun t24 h2 =>
 nilckC t0 fun t26 =>
 faC 1 t26 fun t27 =>
 cellC t27 h2 fun t28 =>
 eff (.mset .str (.c t28) (.c (vS t1)) (.c t24)) h2 fun t0a h3 =>
 some (.ret t24 h3, .no)
def e69_1 (k t0 t1 t2 t3 h) := kN k [(p0, t0), (p1, (vS t1)), (p2, (vI t2)), (p3, (vI t3))] h
def S69_1 (D : CallD) (m : Nat) (t0 : AV) (t1 : LN) (t2 t3 : Int) (h : HP) : Res2 :=
 nilckC t0 fun t12 =>
 faC 1 t12 fun t13 =>
 cellC t13 h fun t14 =>
 obQ (evL (.look .str .nilp false (.c t14) (.c (vS t1))) .leaf h) fun t16 =>
 obB (eqPtr true t16 (.nilp : AV) h) fun t18 =>
 br t18 (
 nilckC t16 fun t20 =>
 faC 1 t20 fun t21 =>
 stoC t21 (vB true) h fun h4 =>
 S69_0 D m t0 t1 t2 t3 h4) (
 S69_0 D m t0 t1 t2 t3 h)
def S69 : SFn := fun D m args h u => nou u <| popV args fun t0 args => popS args fun t1 args => popI .i64 args fun t2 args => popI .i64 args fun t3 args => endA args (S69_1 D m t0 t1 t2 t3 h)
theorem T69_0 (hE : FX x69 D m E) : S69_0 D m = e69_0 (E c69_0 []) := by unfold S69_0; rw [hE c69_0]; kernel_rfl
theorem T69_1 (hE : FX x69 D m E) : S69_1 D m = e69_1 (E c69_e []) := by unfold S69_1; rw [T69_0 hE, hE c69_e]; kernel_rfl
theorem X69 : XTie S69 x69 := X_of fun D m E hE args h u => by unfold S69; rw [T69_1 hE]; kernel_rfl
/- 70 -/
def v70_0 : List Pos := []
def c70_0 : XC := (.sO [.mv p4 (ci 0) tI] (.s .ret))
def v70_1 : List Pos := [p0, p8, p9, p10]
def c70_1b : XC := (.sO [.bn p11 .lss q10 q9 .b] (.seq (.cond q11 .skip (.exit 0)) (.seq (.block 1 (.seq (.oX [.P p12 (.iaddr (.sl 7) q8 q10) .v, .L p13 (.cells 7 q12) .v, .al p6 (.new [(kI 0), .nils, .nils, (.str []), (kI 0), (kI 0), (kI 0)]), .ss 7 q6 q13]) (.seq (.oX [.mv p14 q0 .v, .L p15 (.cells 7 q6) .v, .cl p16 105 [q14, q15] tI, .mv p7 q16 tI]) (.seq (.oX [.mv p17 q7 tI, .bn p18 .neq q17 (ci 0) .b]) (.cond q18 (.seq (.oX [.mv p19 q7 tI, .mv p4 q19 tI]) .ret) .skip))))) (.s (.oX [.bn p20 .add q10 (ci 1) tI, .mv p10 q20 tI])))))
def c70_e : XC := (.sO [.mv p4 (ci 0) tI] (.sj v70_0 (.sO [.mv p8 q1 .v, .P p9 (.lenl q8) tI, .mv p10 (ci 0) tI] (.block 0 (.loop v70_1 c70_1b))) c70_0))
def x70 : XFn := ⟨[.v, .v], false, [(.tmp p4)], c70_e⟩
def e70_0 (k h) := kN k [] h
def S70_0 (D : CallD) (m : Nat) (h : HP) : Res2 :=
 some (.ret (kI 0) h, .no)
def e70_1 (k t0 t8 t9 t10 h) := kN k [(p0, t0), (p8, t8), (p9, (vI t9)), (p10, (vI t10))] h
def S70_1b (D : CallD) (m : Nat) (g1 : AV → AV → Int → Int → HP → Res2) (t0 t8 : AV) (t9 t10 : Int) (h : HP) : Res2 :=
 let t11 := ltQ t10 t9
 br t11 (
 iasC 7 t8 (vI t10) fun t12 =>
 cellsC 7 t12 h fun t13 =>
 let t6 := P0 h
 let h3 := nQ h [(kI 0), .nils, .nils, (.str []), (kI 0), (kI 0), (kI 0)]
 stsC 7 t6 t13 h3 fun h4 =>
 cellsC 7 t6 h4 fun t15 =>
 cal D 105 [t0, t15] h4 fun t16 h5 =>
 asI .i64 t16 fun t16a =>
 let t18 := notQ (eqQ t16a (Int.ofNat 0))
 br t18 (
 some (.ret (vI t16a) h5, .no)) (
 let t20 := wrQ .i64 (addQ t10 (Int.ofNat 1))
 g1 t0 t8 t9 t20 h5)) (
 S70_0 D m h)
def S70_1 (D : CallD) (m : Nat) : AV → AV → Int → Int → HP → Res2 := nrec (fun _ _ _ _ _ => none) (fun _ g => S70_1b D m g) m
def e70_2 (k t0 t1 h) := kN k [(p0, t0), (p1, t1)] h
def S70_2 (D : CallD) (m : Nat) (t0 t1 : AV) (h : HP) : Res2 :=
 lenC t1 fun vt9 => asI .i64 vt9 fun t9 =>
 S70_1 D m t0 t1 t9 (Int.ofNat 0) h
def S70 : SFn := fun D m args h u => nou u <| popV args fun t0 args => popV args fun t1 args => endA args (S70_2 D m t0 t1 h)
theorem T70_0 (hE : FX x70 D m E) : S70_0 D m = e70_0 (E c70_0 []) := by unfold S70_0; rw [hE c70_0]; kernel_rfl
theorem T70_1b (hE : FX x70 D m E) (G1) : S70_1b D m (e70_1 G1) = e70_1 (E c70_1b [.lp v70_1 G1, .blk 0, .sj v70_0 c70_0]) := by unfold S70_1b; rw [T70_0 hE, hE c70_1b]; kernel_rfl
theorem T70_1 (hE : FX x70 D m E) : S70_1 D m = e70_1 (nrec (fun _ => none) (fun _ G1 st => E c70_1b [.lp v70_1 G1, .blk 0, .sj v70_0 c70_0] st) m) :=
  nrec_emb e70_1 (fun _ _ _ _ _ => none) (fun g => S70_1b D m g) (fun G1 st => E c70_1b [.lp v70_1 G1, .blk 0, .sj v70_0 c70_0] st) rfl (fun g => T70_1b hE g) m
theorem T70_2 (hE : FX x70 D m E) : S70_2 D m = e70_2 (E c70_e []) := by unfold S70_2; rw [T70_1 hE, hE c70_e]; kernel_rfl
theorem X70 : XTie S70 x70 := X_of fun D m E hE args h u => by unfold S70; rw [T70_2 hE]; kernel_rfl
/- 71 -/
def v71_0 : List Pos := [p1]
def c71_0 : XC := (.sO [.mv p75 q1 tI, .mv p4 q75 tI, .mv p5 (cb true) .b] (.s .ret))
def v71_2 : List Pos := [p0, p1]
def c71_2b : XC := (.seq (.seq (.oX [.mv p38 q1 tI, .mv p39 q0 .s, .P p40 (.lens q39) tI, .bn p41 .lss q38 q40 .b, .mv p42 q41 .b, .ge p42 (XL.of [.G p42 true p43 (.mov q0) .s, .G p42 true p44 (.mov q1) tI, .G p42 true p45 (.idxs q43 q44) tC, .G p42 true p46 (.bin .neq q45 (.c (.int .u8 (.ofNat 10)))) .b, .P p47 (.pick q42 q46 (cb false)) .b]) p47 .b]) (.cond q47 .skip (.exit 2))) (.block 3 (.s (.oX [.mv p48 q1 tI, .bn p49 .add q48 (ci 1) tI, .mv p1 q49 tI]))))
def v71_3 : List Pos := [p0, p1, p6]
def c71_3 : XC := (.seq (.seq (.oX [.mv p67 q6 tI, .mv p68 q0 .s, .P p69 (.lens q68) tI, .bn p70 .geq q67 q69 .b]) (.cond q70 (.seq (.oX [.mv p71 q1 tI, .mv p4 q71 tI, .mv p5 (cb false) .b]) .ret) .skip)) (.s (.oX [.mv p72 q6 tI, .bn p73 .add q72 (ci 2) tI, .mv p1 q73 tI])))
def v71_5 : List Pos := [p0, p1, p6]
def c71_5 : XC := (.block 5 (.s (.oX [.mv p65 q6 tI, .bn p66 .add q65 (ci 1) tI, .mv p6 q66 tI])))
def c71_7 : XC := (.cond q64 (.s .skip) (.s (.exit 4)))
def l71_6 : XL := (XL.of [])
def v71_4 : List Pos := [p0, p1, p6]
def c71_4b : XC := (.sj v71_5 (.opq false (XL.pre [.mv p55 q6 tI, .mv p56 q0 .s, .P p57 (.lens q56) tI, .bn p58 .lss q55 q57 .b, .mv p59 q58 .b, .sp p59, .G p59 true p60 (.mov q0) .s, .G p59 true p61 (.mov q6) tI, .o ⟨(some p62), (.call (.fn 106) [q60, q61, (.c (.str [42, 47]))]), (some (p59, true)), []⟩ .b, .G p59 true p63 (.un .not q62) .b, .P p64 (.pick q59 q63 (cb false)) .b, .jn p59 [p0, p1, p6, p64]] l71_6) c71_7) c71_5)
def v71_1 : List Pos := [p0, p1]
def c71_1b : XC := (.seq (.seq (.oX [.mv p7 q1 tI, .mv p8 q0 .s, .P p9 (.lens q8) tI, .bn p10 .lss q7 q9 .b]) (.cond q10 .skip (.exit 0))) (.block 1 (.sO [.mv p11 q0 .s, .mv p12 q1 tI, .P p13 (.idxs q11 q12) tC, .bn p14 .eql q13 (.c (.int .u8 (.ofNat 32))) .b, .mv p15 q14 .b, .ge p15 (XL.of [.G p15 false p16 (.mov q0) .s, .G p15 false p17 (.mov q1) tI, .G p15 false p18 (.idxs q16 q17) tC, .G p15 false p19 (.bin .eql q18 (.c (.int .u8 (.ofNat 9)))) .b, .P p20 (.pick q15 (cb true) q19) .b]) p20 .b, .mv p21 q20 .b, .ge p21 (XL.of [.G p21 false p22 (.mov q0) .s, .G p21 false p23 (.mov q1) tI, .G p21 false p24 (.idxs q22 q23) tC, .G p21 false p25 (.bin .eql q24 (.c (.int .u8 (.ofNat 10)))) .b, .P p26 (.pick q21 (cb true) q25) .b]) p26 .b, .mv p27 q26 .b, .ge p27 (XL.of [.G p27 false p28 (.mov q0) .s, .G p27 false p29 (.mov q1) tI, .G p27 false p30 (.idxs q28 q29) tC, .G p27 false p31 (.bin .eql q30 (.c (.int .u8 (.ofNat 13)))) .b, .P p32 (.pick q27 (cb true) q31) .b]) p32 .b] (.cond q32 (.s (.oX [.mv p33 q1 tI, .bn p34 .add q33 (ci 1) tI, .mv p1 q34 tI])) (.sO [.mv p35 q0 .s, .mv p36 q1 tI, .cl p37 106 [q35, q36, (.c (.str [47, 47]))] .b] (.cond q37 (.block 2 (.loop v71_2 c71_2b)) (.sO [.mv p50 q0 .s, .mv p51 q1 tI, .cl p52 106 [q50, q51, (.c (.str [47, 42]))] .b] (.cond q52 (.sO [.mv p53 q1 tI, .bn p54 .add q53 (ci 2) tI, .mv p6 q54 tI] (.sj v71_3 (.block 4 (.loop v71_4 c71_4b)) c71_3)) (.sO [.mv p74 q1 tI, .mv p4 q74 tI, .mv p5 (cb true) .b] (.s .ret))))))))))
def c71_e : XC := (.sO [.mv p4 (ci 0) tI, .mv p5 (cb false) .b] (.sj v71_0 (.block 0 (.loop v71_1 c71_1b)) c71_0))
def x71 : XFn := ⟨[.s, tI], false, [(.tmp p4), (.tmp p5)], c71_e⟩
def e71_0 (k t1 h) := kN k [(p1, (vI t1))] h
def S71_0 (D : CallD) (m : Nat) (t1 : Int) (h : HP) : Res2 :=
 some (.ret (.tup [(vI t1), (vB true)]) h, .no)
def e71_2 (k t0 t1 h) := kN k [(p0, (vS t0)), (p1, (vI t1))] h
def S71_2b (D : CallD) (m : Nat) (g2 : LN → Int → HP → Res2) (g1 : LN → Int → HP → Res2) (t0 : LN) (t1 : Int) (h : HP) : Res2 :=
 let t40 := Int.ofNat (lenL t0)
 let t41 := ltQ t1 t40
 obB (brV t41 (
 ixCV (vS t0) (vI t1) fun vt45 => asIV .u8 vt45 fun t45 =>
 let t46 := notQ (eqQ t45 (Int.ofNat 10))
 some (vB t46)) (
 some (vB false))) fun t47 =>
 br t47 (
 let t49 := wrQ .i64 (addQ t1 (Int.ofNat 1))
 g2 t0 t49 h) (
 g1 t0 t1 h)
def S71_2 (D : CallD) (m : Nat) (g1 : LN → Int → HP → Res2) : LN → Int → HP → Res2 := nrec (fun _ _ _ => none) (fun _ g => S71_2b D m g g1) m
def e71_3 (k t0 t1 t6 h) := kN k [(p0, (vS t0)), (p1, (vI t1)), (p6, (vI t6))] h
def S71_3 (D : CallD) (m : Nat) (g1 : LN → Int → HP → Res2) (t0 : LN) (t1 t6 : Int) (h : HP) : Res2 :=
 let t69 := Int.ofNat (lenL t0)
 let t70 := leQ t69 t6
 br t70 (
 some (.ret (.tup [(vI t1), (vB false)]) h, .no)) (
 let t73 := wrQ .i64 (addQ t6 (Int.ofNat 2))
 g1 t0 t73 h)
def e71_5 (k t0 t1 t6 h) := kN k [(p0, (vS t0)), (p1, (vI t1)), (p6, (vI t6))] h
def S71_5 (D : CallD) (m : Nat) (g4 : LN → Int → Int → HP → Res2) (g1 : LN → Int → HP → Res2) (t0 : LN) (t1 t6 : Int) (h : HP) : Res2 :=
 let t66 := wrQ .i64 (addQ t6 (Int.ofNat 1))
 g4 t0 t1 t66 h
def e71_6 (k t0 t1 t6 t64 h) := kN k [(p0, (vS t0)), (p1, (vI t1)), (p6, (vI t6)), (p64, (vB t64))] h
def S71_6 (D : CallD) (m : Nat) (g4 : LN → Int → Int → HP → Res2) (g1 : LN → Int → HP → Res2) (t0 : LN) (t1 t6 : Int) (t64 : Bool) (h : HP) : Res2 :=
 br t64 (
 S71_5 D m g4 g1 t0 t1 t6 h) (
 S71_3 D m g1 t0 t1 t6 h)
def e71_4 (k t0 t1 t6 h) := kN k [(p0, (vS t0)), (p1, (vI t1)), (p6, (vI t6))] h
def S71_4b (D : CallD) (m : Nat) (g4 : LN → Int → Int → HP → Res2) (g1 : LN → Int → HP → Res2) (t0 : LN) (t1 t6 : Int) (h : HP) : Res2 :=
 let t57 := Int.ofNat (lenL t0)
 let t58 := ltQ t6 t57
 br t58 (
 cal D 106 [(vS t0), (vI t6), (vS ([42, 47] : LN))] h fun t62 h11 =>
 asB t62 fun t62a =>
 let t63 := !t62a
 S71_6 D m g4 g1 t0 t1 t6 t63 h11) (
 S71_6 D m g4 g1 t0 t1 t6 false h)
def S71_4 (D : CallD) (m : Nat) (g1 : LN → Int → HP → Res2) : LN → Int → Int → HP → Res2 := nrec (fun _ _ _ _ => none) (fun _ g => S71_4b D m g g1) m
def e71_1 (k t0 t1 h) := kN k [(p0, (vS t0)), (p1, (vI t1))] h
def S71_1b (D : CallD) (m : Nat) (g1 : LN → Int → HP → Res2) (t0 : LN) (t1 : Int) (h : HP) : Res2 :=
 let t9 := Int.ofNat (lenL t0)
 let t10 := ltQ t1 t9
 br t10 (
 ixC (vS t0) (vI t1) fun vt13 => asI .u8 vt13 fun t13 =>
 let t14 := eqQ t13 (Int.ofNat 32)
 obB (brV t14 (
 some (vB true)) (
 ixCV (vS t0) (vI t1) fun vt18 => asIV .u8 vt18 fun t18 =>
 let t19 := eqQ t18 (Int.ofNat 9)
 some (vB t19))) fun t20 =>
 obB (brV t20 (
 some (vB true)) (
 ixCV (vS t0) (vI t1) fun vt24 => asIV .u8 vt24 fun t24 =>
 let t25 := eqQ t24 (Int.ofNat 10)
 some (vB t25))) fun t26 =>
 obB (brV t26 (
 some (vB true)) (
 ixCV (vS t0) (vI t1) fun vt30 => asIV .u8 vt30 fun t30 =>
 let t31 := eqQ t30 (Int.ofNat 13)
 some (vB t31))) fun t32 =>
 br t32 (
 let t34 := wrQ .i64 (addQ t1 (Int.ofNat 1))
 g1 t0 t34 h) (
 cal D 106 [(vS t0), (vI t1), (vS ([47, 47] : LN))] h fun t37 h9 =>
 asB t37 fun t37a =>
 br t37a (
 S71_2 D m g1 t0 t1 h9) (
 cal D 106 [(vS t0), (vI t1), (vS ([47, 42] : LN))] h9 fun t52 h10 =>
 asB t52 fun t52a =>
 br t52a (
 let t54 := wrQ .i64 (addQ t1 (Int.ofNat 2))
 S71_4 D m g1 t0 t1 t54 h10) (
 some (.ret (.tup [(vI t1), (vB true)]) h10, .no))))) (
 S71_0 D m t1 h)
def S71_1 (D : CallD) (m : Nat) : LN → Int → HP → Res2 := nrec (fun _ _ _ => none) (fun _ g => S71_1b D m g) m
def e71_8 (k t0 t1 h) := kN k [(p0, (vS t0)), (p1, (vI t1))] h
def S71_8 (D : CallD) (m : Nat) (t0 : LN) (t1 : Int) (h : HP) : Res2 :=
 S71_1 D m t0 t1 h
def S71 : SFn := fun D m args h u => nou u <| popS args fun t0 args => popI .i64 args fun t1 args => endA args (S71_8 D m t0 t1 h)
theorem T71_0 (hE : FX x71 D m E) : S71_0 D m = e71_0 (E c71_0 []) := by unfold S71_0; rw [hE c71_0]; kernel_rfl
theorem T71_2b (hE : FX x71 D m E) (G2) (G1) : S71_2b D m (e71_2 G2) (e71_1 G1) = e71_2 (E c71_2b [.lp v71_2 G2, .blk 2, .blk 1, .lp v71_1 G1, .blk 0, .sj v71_0 c71_0]) := by unfold S71_2b; rw [hE c71_2b]; kernel_rfl
theorem T71_2 (hE : FX x71 D m E) (G1) : S71_2 D m (e71_1 G1) = e71_2 (nrec (fun _ => none) (fun _ G2 st => E c71_2b [.lp v71_2 G2, .blk 2, .blk 1, .lp v71_1 G1, .blk 0, .sj v71_0 c71_0] st) m) :=
  nrec_emb e71_2 (fun _ _ _ => none) (fun g => S71_2b D m g (e71_1 G1)) (fun G2 st => E c71_2b [.lp v71_2 G2, .blk 2, .blk 1, .lp v71_1 G1, .blk 0, .sj v71_0 c71_0] st) rfl (fun g => T71_2b hE g G1) m
theorem T71_3 (hE : FX x71 D m E) (G1) : S71_3 D m (e71_1 G1) = e71_3 (E c71_3 [.blk 1, .lp v71_1 G1, .blk 0, .sj v71_0 c71_0]) := by unfold S71_3; rw [hE c71_3]; kernel_rfl
theorem T71_5 (hE : FX x71 D m E) (G4) (G1) : S71_5 D m (e71_4 G4) (e71_1 G1) = e71_5 (E c71_5 [.lp v71_4 G4, .blk 4, .sj v71_3 c71_3, .blk 1, .lp v71_1 G1, .blk 0, .sj v71_0 c71_0]) := by unfold S71_5; rw [hE c71_5]; kernel_rfl
theorem T71_6 (hE : FX x71 D m E) (G4) (G1) : S71_6 D m (e71_4 G4) (e71_1 G1) = e71_6 (E (.opq false l71_6 c71_7) [.sj v71_5 c71_5, .lp v71_4 G4, .blk 4, .sj v71_3 c71_3, .blk 1, .lp v71_1 G1, .blk 0, .sj v71_0 c71_0]) := by unfold S71_6; rw [T71_5 hE G4 G1, T71_3 hE G1, hE (.opq false l71_6 c71_7)]; kernel_rfl
theorem T71_4b (hE : FX x71 D m E) (G4) (G1) : S71_4b D m (e71_4 G4) (e71_1 G1) = e71_4 (E c71_4b [.lp v71_4 G4, .blk 4, .sj v71_3 c71_3, .blk 1, .lp v71_1 G1, .blk 0, .sj v71_0 c71_0]) := by unfold S71_4b; rw [T71_6 hE G4 G1, hE c71_4b]; kernel_rfl
theorem T71_4 (hE : FX x71 D m E) (G1) : S71_4 D m (e71_1 G1) = e71_4 (nrec (fun _ => none) (fun _ G4 st => E c71_4b [.lp v71_4 G4, .blk 4, .sj v71_3 c71_3, .blk 1, .lp v71_1 G1, .blk 0, .sj v71_0 c71_0] st) m) :=
  nrec_emb e71_4 (fun _ _ _ _ => none) (fun g => S71_4b D m g (e71_1 G1)) (fun G4 st => E c71_4b [.lp v71_4 G4, .blk 4, .sj v71_3 c71_3, .blk 1, .lp v71_1 G1, .blk 0, .sj v71_0 c71_0] st) rfl (fun g => T71_4b hE g G1) m
theorem T71_1b (hE : FX x71 D m E) (G1) : S71_1b D m (e71_1 G1) = e71_1 (E c71_1b [.lp v71_1 G1, .blk 0, .sj v71_0 c71_0]) := by unfold S71_1b; rw [T71_2 hE G1, T71_4 hE G1, T71_0 hE, hE c71_1b]; kernel_rfl
theorem T71_1 (hE : FX x71 D m E) : S71_1 D m = e71_1 (nrec (fun _ => none) (fun _ G1 st => E c71_1b [.lp v71_1 G1, .blk 0, .sj v71_0 c71_0] st) m) :=
  nrec_emb e71_1 (fun _ _ _ => none) (fun g => S71_1b D m g) (fun G1 st => E c71_1b [.lp v71_1 G1, .blk 0, .sj v71_0 c71_0] st) rfl (fun g => T71_1b hE g) m
theorem T71_8 (hE : FX x71 D m E) : S71_8 D m = e71_8 (E c71_e []) := by unfold S71_8; rw [T71_1 hE, hE c71_e]; kernel_rfl
theorem X71 : XTie S71 x71 := X_of fun D m E hE args h u => by unfold S71; rw [T71_8 hE]; kernel_rfl
/- 72 -/
def v72_1 : List Pos := [p4, p6, p7]
def c72_1 : XC := (.sO [.L p96 (.cells 3 q6) .v, .mv p97 q7 tI, .ss 3 q4 q96, .mv p5 q97 tI] (.s .ret))
def v72_0 : List Pos := [p0, p1, p4, p6, p7]
def c72_0 : XC := (.sj v72_1 (.sO [.mv p89 q7 tI, .bn p90 .gtr q89 (ci 0) .b] (.cond q90 (.s (.oX [.mv p91 q0 .s, .mv p92 q1 tI, .mv p93 q7 tI, .P p94 (.slice .str q91 (some q92) (some q93) none) .s, .fa p95 1 q6, .st q95 q94])) (.s .skip))) c72_1)
def v72_2 : List Pos := [p0, p1, p4, p6, p7]
def c72_2 : XC := (.sO [.fa p37 0 q6, .st q37 (ci 1)] (.sO [.mv p38 q0 .s, .mv p39 q1 tI, .mv p40 q7 tI, .P p41 (.slice .str q38 (some q39) (some q40) none) .s, .cl p42 109 [q41] .b] (.cond q42 (.s (.oX [.fa p43 0 q6, .st q43 (ci 5)])) (.sO [.mv p44 q7 tI, .mv p45 q1 tI, .bn p46 .sub q44 q45 tI, .bn p47 .gtr q46 (ci 40) .b] (.cond q47 (.sO [.L p48 (.cells 3 q6) .v, .ss 3 q4 q48, .mv p5 (ci 0) tI] (.s .ret)) (.s .skip))))))
def v72_4 : List Pos := [p0, p1, p4, p6, p7]
def c72_4 : XC := (.block 1 (.s (.oX [.mv p35 q7 tI, .bn p36 .add q35 (ci 1) tI, .mv p7 q36 tI])))
def c72_7 : XC := (.cond q34 (.s .skip) (.s (.exit 0)))
def l72_6 : XL := (XL.of [])
def l72_5 : XL := (XL.pre [.P p34 (.pick q23 q33 (cb false)) .b, .jn p23 [p0, p1, p4, p6, p7, p34]] l72_6)
def v72_3 : List Pos := [p0, p1, p4, p6, p7]
def c72_3b : XC := (.sj v72_4 (.opq false (XL.pre [.mv p19 q7 tI, .mv p20 q0 .s, .P p21 (.lens q20) tI, .bn p22 .lss q19 q21 .b, .mv p23 q22 .b, .sp p23, .G p23 true p24 (.mov q0) .s, .G p23 true p25 (.mov q7) tI, .G p23 true p26 (.idxs q24 q25) tC, .o ⟨(some p27), (.call (.fn 107) [q26]), (some (p23, true)), []⟩ .b, .G p23 true p28 (.mov q27) .b, .sp p28, .G p28 false p29 (.mov q0) .s, .G p28 false p30 (.mov q7) tI, .G p28 false p31 (.idxs q29 q30) tC, .o ⟨(some p32), (.call (.fn 108) [q31]), (some (p28, false)), []⟩ .b, .G p23 true p33 (.pick q28 (cb true) q32) .b, .jn p28 [p0, p1, p4, p6, p7, p23, p33]] l72_5) c72_7) c72_4)
def v72_9 : List Pos := [p0, p1, p4, p6, p7]
def c72_9 : XC := (.s (.oX [.fa p88 0 q6, .st q88 (ci 4)]))
def v72_11 : List Pos := [p0, p1, p4, p6, p7, p8, p76]
def c72_11 : XC := (.s (.oX [.bn p87 .add q76 (ci 1) tI, .mv p76 q87 tI]))
def v72_10 : List Pos := [p0, p1, p4, p6, p7, p8, p76]
def c72_10b : XC := (.sO [.bn p77 .lss q76 (ci 8) .b] (.seq (.cond q77 .skip (.exit 4)) (.sj v72_11 (.block 5 (.sO [.mv p78 q76 tI, .mv p11 q78 tI] (.sO [.mv p79 q0 .s, .mv p80 q1 tI, .mv p81 q11 tI, .P p82 (.iaddr (.arr 8 1) q8 q81) .v, .ld p83 q82 .s, .cl p84 106 [q79, q80, q83] .b] (.cond q84 (.s (.oX [.mv p85 q1 tI, .bn p86 .add q85 (ci 2) tI, .mv p7 q86 tI])) (.s .skip))))) c72_11)))
def v72_8 : List Pos := [p0, p1, p4, p6, p7, p8]
def c72_8 : XC := (.sj v72_9 (.sO [.mv p76 (ci 0) tI] (.block 4 (.loop v72_10 c72_10b))) c72_9)
def v72_13 : List Pos := [p0, p1, p4, p6, p7, p8, p9, p10]
def c72_13 : XC := (.s (.oX [.mv p65 q10 tI, .bn p66 .add q65 (ci 1) tI, .mv p10 q66 tI]))
def v72_12 : List Pos := [p0, p1, p4, p6, p7, p8, p9, p10]
def c72_12b : XC := (.seq (.seq (.oX [.mv p61 q10 tI, .mv p62 q9 .s, .P p63 (.lens q62) tI, .bn p64 .lss q61 q63 .b]) (.cond q64 .skip (.exit 2))) (.sj v72_13 (.block 3 (.seq (.ops true (XL.of [.mv p67 q9 .s, .mv p68 q10 tI, .P p69 (.idxs q67 q68) tC, .mv p70 q0 .s, .mv p71 q1 tI, .P p72 (.idxs q70 q71) tC, .bn p73 .eql q69 q72 .b])) (.cond q73 (.s (.oX [.mv p74 q1 tI, .bn p75 .add q74 (ci 1) tI, .mv p7 q75 tI])) (.s .skip)))) c72_13))
def c72_e : XC := (.sO [.al p4 (.new [(kI 0), (.str []), (kI 0)]), .mv p5 (ci 0) tI] (.sO [.mv p12 q1 tI, .P p13 (.build [(kI 0), (.str []), (kI 0)] [⟨2, 1, q12⟩]) .v, .al p6 (.new [(kI 0), (.str []), (kI 0)]), .ss 3 q6 q13] (.sO [.mv p7 (ci 0) tI] (.sj v72_0 (.sO [.mv p14 q0 .s, .mv p15 q1 tI, .P p16 (.idxs q14 q15) tC, .cl p17 107 [q16] .b] (.cond q17 (.sO [.mv p18 q1 tI, .mv p7 q18 tI] (.sj v72_2 (.block 0 (.loop v72_3 c72_3b)) c72_2)) (.sO [.mv p49 q0 .s, .mv p50 q1 tI, .P p51 (.idxs q49 q50) tC, .cl p52 108 [q51] .b] (.cond q52 (.s (.oX [.mv p54 q0 .s, .mv p55 q1 tI, .cl p56 110 [q54, q55] .v, .mv p53 q56 .v, .P p57 (.ext q53 0) tI, .P p58 (.ext q53 1) tI, .fa p59 0 q6, .st q59 q57, .mv p7 q58 tI])) (.sO [.P p60 (.build [(.str []), (.str []), (.str []), (.str []), (.str []), (.str []), (.str []), (.str [])] [⟨0, 1, (.c (.str [60, 60]))⟩, ⟨1, 1, (.c (.str [62, 62]))⟩, ⟨2, 1, (.c (.str [60, 61]))⟩, ⟨3, 1, (.c (.str [62, 61]))⟩, ⟨4, 1, (.c (.str [61, 61]))⟩, ⟨5, 1, (.c (.str [33, 61]))⟩, ⟨6, 1, (.c (.str [38, 38]))⟩, ⟨7, 1, (.c (.str [124, 124]))⟩]) .v, .al p8 (.new [(.str []), (.str []), (.str []), (.str []), (.str []), (.str []), (.str []), (.str [])]), .ss 8 q8 q60] (.sO [.mv p9 (.c (.str [43, 45, 42, 47, 37, 38, 124, 94, 126, 33, 60, 62, 61, 40, 41, 123, 125, 91, 93, 59, 44])) .s] (.sj v72_8 (.sO [.mv p10 (ci 0) tI] (.block 2 (.loop v72_12 c72_12b))) c72_8))))))) c72_0))))
def x72 : XFn := ⟨[.s, tI], false, [(.cells 3 p4), (.tmp p5)], c72_e⟩
def e72_1 (k t4 t6 t7 h) := kN k [(p4, t4), (p6, t6), (p7, (vI t7))] h
def S72_1 (D : CallD) (m : Nat) (t4 t6 : AV) (t7 : Int) (h : HP) : Res2 :=
 cellsC 3 t6 h fun t96 =>
 stsC 3 t4 t96 h fun h18 =>
 cellsC 3 t4 h18 fun t4a =>
 some (.ret (.tup [t4a, (vI t7)]) h18, .no)
def e72_0 (k t0 t1 t4 t6 t7 h) := kN k [(p0, (vS t0)), (p1, (vI t1)), (p4, t4), (p6, t6), (p7, (vI t7))] h
def S72_0 (D : CallD) (m : Nat) (t0 : LN) (t1 : Int) (t4 t6 : AV) (t7 : Int) (h : HP) : Res2 :=
 let t90 := ltQ (Int.ofNat 0) t7
 br t90 (
 slC (vS t0) (some (vI t1)) (some (vI t7)) fun vt94 => asS vt94 fun t94 =>
 faC 1 t6 fun t95 =>
 stoC t95 (vS t94) h fun h19 =>
 S72_1 D m t4 t6 t7 h19) (
 S72_1 D m t4 t6 t7 h)
def e72_2 (k t0 t1 t4 t6 t7 h) := kN k [(p0, (vS t0)), (p1, (vI t1)), (p4, t4), (p6, t6), (p7, (vI t7))] h
def S72_2 (D : CallD) (m : Nat) (t0 : LN) (t1 : Int) (t4 t6 : AV) (t7 : Int) (h : HP) : Res2 :=
 faC 0 t6 fun t37 =>
 stoC t37 (kI 1) h fun h21 =>
 slC (vS t0) (some (vI t1)) (some (vI t7)) fun vt41 => asS vt41 fun t41 =>
 cal D 109 [(vS t41)] h21 fun t42 h22 =>
 asB t42 fun t42a =>
 br t42a (
 faC 0 t6 fun t43 =>
 stoC t43 (kI 5) h22 fun h23 =>
 S72_0 D m t0 t1 t4 t6 t7 h23) (
 let t46 := wrQ .i64 (t7 - t1)
 let t47 := ltQ (Int.ofNat 40) t46
 br t47 (
 cellsC 3 t6 h22 fun t48 =>
 stsC 3 t4 t48 h22 fun h24 =>
 cellsC 3 t4 h24 fun t4a =>
 some (.ret (.tup [t4a, (kI 0)]) h24, .no)) (
 S72_0 D m t0 t1 t4 t6 t7 h22))
def e72_4 (k t0 t1 t4 t6 t7 h) := kN k [(p0, (vS t0)), (p1, (vI t1)), (p4, t4), (p6, t6), (p7, (vI t7))] h
def S72_4 (D : CallD) (m : Nat) (g3 : LN → Int → AV → AV → Int → HP → Res2) (t0 : LN) (t1 : Int) (t4 t6 : AV) (t7 : Int) (h : HP) : Res2 :=
 let t36 := wrQ .i64 (addQ t7 (Int.ofNat 1))
 g3 t0 t1 t4 t6 t36 h
def e72_6 (k t0 t1 t4 t6 t7 t34 h) := kN k [(p0, (vS t0)), (p1, (vI t1)), (p4, t4), (p6, t6), (p7, (vI t7)), (p34, (vB t34))] h
def S72_6 (D : CallD) (m : Nat) (g3 : LN → Int → AV → AV → Int → HP → Res2) (t0 : LN) (t1 : Int) (t4 t6 : AV) (t7 : Int) (t34 : Bool) (h : HP) : Res2 :=
 br t34 (
 S72_4 D m g3 t0 t1 t4 t6 t7 h) (
 S72_2 D m t0 t1 t4 t6 t7 h)
def e72_5 (k t0 t1 t4 t6 t7 t23 t33 h) := kN k [(p0, (vS t0)), (p1, (vI t1)), (p4, t4), (p6, t6), (p7, (vI t7)), (p23, (vB t23)), (p33, (vB t33))] h
def S72_5 (D : CallD) (m : Nat) (g3 : LN → Int → AV → AV → Int → HP → Res2) (t0 : LN) (t1 : Int) (t4 t6 : AV) (t7 : Int) (t23 t33 : Bool) (h : HP) : Res2 :=
 obB (brV t23 (some (vB t33)) (some (vB false))) fun t34 =>
 S72_6 D m g3 t0 t1 t4 t6 t7 t34 h
def e72_3 (k t0 t1 t4 t6 t7 h) := kN k [(p0, (vS t0)), (p1, (vI t1)), (p4, t4), (p6, t6), (p7, (vI t7))] h
def S72_3b (D : CallD) (m : Nat) (g3 : LN → Int → AV → AV → Int → HP → Res2) (t0 : LN) (t1 : Int) (t4 t6 : AV) (t7 : Int) (h : HP) : Res2 :=
 let t21 := Int.ofNat (lenL t0)
 let t22 := ltQ t7 t21
 br t22 (
 ixC (vS t0) (vI t7) fun vt26 => asI .u8 vt26 fun t26 =>
 cal D 107 [(vC t26)] h fun t27 h25 =>
 asB t27 fun t27a =>
 br t27a (
 S72_5 D m g3 t0 t1 t4 t6 t7 true true h25) (
 ixC (vS t0) (vI t7) fun vt31 => asI .u8 vt31 fun t31 =>
 cal D 108 [(vC t31)] h25 fun t32 h26 =>
 asB t32 fun t32a =>
 S72_5 D m g3 t0 t1 t4 t6 t7 true t32a h26)) (
 S72_6 D m g3 t0 t1 t4 t6 t7 false h)
def S72_3 (D : CallD) (m : Nat) : LN → Int → AV → AV → Int → HP → Res2 := nrec (fun _ _ _ _ _ _ => none) (fun _ g => S72_3b D m g) m
def e72_9 (k t0 t1 t4 t6 t7 h) := kN k [(p0, (vS t0)), (p1, (vI t1)), (p4, t4), (p6, t6), (p7, (vI t7))] h
def S72_9 (D : CallD) (m : Nat) (t0 : LN) (t1 : Int) (t4 t6 : AV) (t7 : Int) (h : HP) : Res2 :=
 faC 0 t6 fun t88 =>
 stoC t88 (kI 4) h fun h32 =>
 S72_0 D m t0 t1 t4 t6 t7 h32
def e72_11 (k t0 t1 t4 t6 t7 t8 t76 h) := kN k [(p0, (vS t0)), (p1, (vI t1)), (p4, t4), (p6, t6), (p7, (vI t7)), (p8, t8), (p76, (vI t76))] h
def S72_11 (D : CallD) (m : Nat) (g10 : LN → Int → AV → AV → Int → AV → Int → HP → Res2) (t0 : LN) (t1 : Int) (t4 t6 : AV) (t7 : Int) (t8 : AV) (t76 : Int) (h : HP) : Res2 :=
 let t87 := wrQ .i64 (addQ t76 (Int.ofNat 1))
 g10 t0 t1 t4 t6 t7 t8 t87 h
def e72_10 (k t0 t1 t4 t6 t7 t8 t76 h) := kN k [(p0, (vS t0)), (p1, (vI t1)), (p4, t4), (p6, t6), (p7, (vI t7)), (p8, t8), (p76, (vI t76))] h
def S72_10b (D : CallD) (m : Nat) (g10 : LN → Int → AV → AV → Int → AV → Int → HP → Res2) (t0 : LN) (t1 : Int) (t4 t6 : AV) (t7 : Int) (t8 : AV) (t76 : Int) (h : HP) : Res2 :=
 let t77 := ltQ t76 (Int.ofNat 8)
 br t77 (
 iarC 8 1 t8 (vI t76) fun t82 =>
 ldS t82 h fun t83 =>
 cal D 106 [(vS t0), (vI t1), (vS t83)] h fun t84 h33 =>
 asB t84 fun t84a =>
 br t84a (
 let t86 := wrQ .i64 (addQ t1 (Int.ofNat 2))
 S72_11 D m g10 t0 t1 t4 t6 t86 t8 t76 h33) (
 S72_11 D m g10 t0 t1 t4 t6 t7 t8 t76 h33)) (
 S72_9 D m t0 t1 t4 t6 t7 h)
def S72_10 (D : CallD) (m : Nat) : LN → Int → AV → AV → Int → AV → Int → HP → Res2 := nrec (fun _ _ _ _ _ _ _ _ => none) (fun _ g => S72_10b D m g) m
def e72_8 (k t0 t1 t4 t6 t7 t8 h) := kN k [(p0, (vS t0)), (p1, (vI t1)), (p4, t4), (p6, t6), (p7, (vI t7)), (p8, t8)] h
def S72_8 (D : CallD) (m : Nat) (t0 : LN) (t1 : Int) (t4 t6 : AV) (t7 : Int) (t8 : AV) (h : HP) : Res2 :=
 S72_10 D m t0 t1 t4 t6 t7 t8 (Int.ofNat 0) h
def e72_13 (k t0 t1 t4 t6 t7 t8 t9 t10 h) := kN k [(p0, (vS t0)), (p1, (vI t1)), (p4, t4), (p6, t6), (p7, (vI t7)), (p8, t8), (p9, (vS t9)), (p10, (vI t10))] h
def S72_13 (D : CallD) (m : Nat) (g12 : LN → Int → AV → AV → Int → AV → LN → Int → HP → Res2) (t0 : LN) (t1 : Int) (t4 t6 : AV) (t7 : Int) (t8 : AV) (t9 : LN) (t10 : Int) (h : HP) : Res2 :=
 let t66 := wrQ .i64 (addQ t10 (Int.ofNat 1))
 g12 t0 t1 t4 t6 t7 t8 t9 t66 h
def e72_12 (k t0 t1 t4 t6 t7 t8 t9 t10 h) := kN k [(p0, (vS t0)), (p1, (vI t1)), (p4, t4), (p6, t6), (p7, (vI t7)), (p8, t8), (p9, (vS t9)), (p10, (vI t10))] h
def S72_12b (D : CallD) (m : Nat) (g12 : LN → Int → AV → AV → Int → AV → LN → Int → HP → Res2) (t0 : LN) (t1 : Int) (t4 t6 : AV) (t7 : Int) (t8 : AV) (t9 : LN) (t10 : Int) (h : HP) : Res2 :=
 let t63 := Int.ofNat (lenL t9)
 let t64 := ltQ t10 t63
 br t64 (
 ixC (vS t9) (vI t10) fun vt69 => asI .u8 vt69 fun t69 =>
 ixC (vS t0) (vI t1) fun vt72 => asI .u8 vt72 fun t72 =>
 let t73 := eqQ t69 t72
 br t73 (
 let t75 := wrQ .i64 (addQ t1 (Int.ofNat 1))
 S72_13 D m g12 t0 t1 t4 t6 t75 t8 t9 t10 h) (
 S72_13 D m g12 t0 t1 t4 t6 t7 t8 t9 t10 h)) (
 S72_8 D m t0 t1 t4 t6 t7 t8 h)
def S72_12 (D : CallD) (m : Nat) : LN → Int → AV → AV → Int → AV → LN → Int → HP → Res2 := nrec (fun _ _ _ _ _ _ _ _ _ => none) (fun _ g => S72_12b D m g) m
def e72_14 (k t0 t1 h) := kN k [(p0, (vS t0)), (p1, (vI t1))] h
def S72_14 (D : CallD) (m : Nat) (t0 : LN) (t1 : Int) (h : HP) : Res2 :=
 let t4 := P0 h
 let h15 := nQ h [(kI 0), (.str []), (kI 0)]
 let t13 := (AV.agg [(kI 0), (vS ([] : LN)), (vI t1)])
 let t6 := P0 h15
 let h16 := nQ h15 [(kI 0), (.str []), (kI 0)]
 stsC 3 t6 t13 h16 fun h17 =>
 ixC (vS t0) (vI t1) fun vt16 => asI .u8 vt16 fun t16 =>
 cal D 107 [(vC t16)] h17 fun t17 h20 =>
 asB t17 fun t17a =>
 br t17a (
 S72_3 D m t0 t1 t4 t6 t1 h20) (
 ixC (vS t0) (vI t1) fun vt51 => asI .u8 vt51 fun t51 =>
 cal D 108 [(vC t51)] h20 fun t52 h27 =>
 asB t52 fun t52a =>
 br t52a (
 cal D 110 [(vS t0), (vI t1)] h27 fun t56 h28 =>
 extC t56 0 fun vt57 => asI .i64 vt57 fun t57 =>
 extC t56 1 fun vt58 => asI .i64 vt58 fun t58 =>
 let t59 := (AV.ptr (HP.nxQ h15) (Nat.add 0 0))
 stoC t59 (vI t57) h28 fun h29 =>
 S72_0 D m t0 t1 t4 t6 t58 h29) (
 let t60 := (AV.agg [(vS ([60, 60] : LN)), (vS ([62, 62] : LN)), (vS ([60, 61] : LN)), (vS ([62, 61] : LN)), (vS ([61, 61] : LN)), (vS ([33, 61] : LN)), (vS ([38, 38] : LN)), (vS ([124, 124] : LN))])
 let t8 := P0 h27
 let h30 := nQ h27 [(.str []), (.str []), (.str []), (.str []), (.str []), (.str []), (.str []), (.str [])]
 stsC 8 t8 t60 h30 fun h31 =>
 S72_12 D m t0 t1 t4 t6 (Int.ofNat 0) t8 ([43, 45, 42, 47, 37, 38, 124, 94, 126, 33, 60, 62, 61, 40, 41, 123, 125, 91, 93, 59, 44] : LN) (Int.ofNat 0) h31))
def S72 : SFn := fun D m args h u => nou u <| popS args fun t0 args => popI .i64 args fun t1 args => endA args (S72_14 D m t0 t1 h)
theorem T72_1 (hE : FX x72 D m E) : S72_1 D m = e72_1 (E c72_1 []) := by unfold S72_1; rw [hE c72_1]; kernel_rfl
theorem T72_0 (hE : FX x72 D m E) : S72_0 D m = e72_0 (E c72_0 []) := by unfold S72_0; rw [T72_1 hE, hE c72_0]; kernel_rfl
theorem T72_2 (hE : FX x72 D m E) : S72_2 D m = e72_2 (E c72_2 [.sj v72_0 c72_0]) := by unfold S72_2; rw [T72_0 hE, hE c72_2]; kernel_rfl
theorem T72_4 (hE : FX x72 D m E) (G3) : S72_4 D m (e72_3 G3) = e72_4 (E c72_4 [.lp v72_3 G3, .blk 0, .sj v72_2 c72_2, .sj v72_0 c72_0]) := by unfold S72_4; rw [hE c72_4]; kernel_rfl
theorem T72_6 (hE : FX x72 D m E) (G3) : S72_6 D m (e72_3 G3) = e72_6 (E (.opq false l72_6 c72_7) [.sj v72_4 c72_4, .lp v72_3 G3, .blk 0, .sj v72_2 c72_2, .sj v72_0 c72_0]) := by unfold S72_6; rw [T72_4 hE G3, T72_2 hE, hE (.opq false l72_6 c72_7)]; kernel_rfl
theorem T72_5 (hE : FX x72 D m E) (G3) : S72_5 D m (e72_3 G3) = e72_5 (E (.opq false l72_5 c72_7) [.sj v72_4 c72_4, .lp v72_3 G3, .blk 0, .sj v72_2 c72_2, .sj v72_0 c72_0]) := by unfold S72_5; rw [T72_6 hE G3, hE (.opq false l72_5 c72_7)]; kernel_rfl
theorem T72_3b (hE : FX x72 D m E) (G3) : S72_3b D m (e72_3 G3) = e72_3 (E c72_3b [.lp v72_3 G3, .blk 0, .sj v72_2 c72_2, .sj v72_0 c72_0]) := by unfold S72_3b; rw [T72_5 hE G3, T72_6 hE G3, hE c72_3b]; kernel_rfl
theorem T72_3 (hE : FX x72 D m E) : S72_3 D m = e72_3 (nrec (fun _ => none) (fun _ G3 st => E c72_3b [.lp v72_3 G3, .blk 0, .sj v72_2 c72_2, .sj v72_0 c72_0] st) m) :=
  nrec_emb e72_3 (fun _ _ _ _ _ _ => none) (fun g => S72_3b D m g) (fun G3 st => E c72_3b [.lp v72_3 G3, .blk 0, .sj v72_2 c72_2, .sj v72_0 c72_0] st) rfl (fun g => T72_3b hE g) m
theorem T72_9 (hE : FX x72 D m E) : S72_9 D m = e72_9 (E c72_9 [.sj v72_0 c72_0]) := by unfold S72_9; rw [T72_0 hE, hE c72_9]; kernel_rfl
theorem T72_11 (hE : FX x72 D m E) (G10) : S72_11 D m (e72_10 G10) = e72_11 (E c72_11 [.lp v72_10 G10, .blk 4, .sj v72_9 c72_9, .sj v72_0 c72_0]) := by unfold S72_11; rw [hE c72_11]; kernel_rfl
theorem T72_10b (hE : FX x72 D m E) (G10) : S72_10b D m (e72_10 G10) = e72_10 (E c72_10b [.lp v72_10 G10, .blk 4, .sj v72_9 c72_9, .sj v72_0 c72_0]) := by unfold S72_10b; rw [T72_11 hE G10, T72_9 hE, hE c72_10b]; kernel_rfl
theorem T72_10 (hE : FX x72 D m E) : S72_10 D m = e72_10 (nrec (fun _ => none) (fun _ G10 st => E c72_10b [.lp v72_10 G10, .blk 4, .sj v72_9 c72_9, .sj v72_0 c72_0] st) m) :=
  nrec_emb e72_10 (fun _ _ _ _ _ _ _ _ => none) (fun g => S72_10b D m g) (fun G10 st => E c72_10b [.lp v72_10 G10, .blk 4, .sj v72_9 c72_9, .sj v72_0 c72_0] st) rfl (fun g => T72_10b hE g) m
theorem T72_8 (hE : FX x72 D m E) : S72_8 D m = e72_8 (E c72_8 [.sj v72_0 c72_0]) := by unfold S72_8; rw [T72_10 hE, hE c72_8]; kernel_rfl
theorem T72_13 (hE : FX x72 D m E) (G12) : S72_13 D m (e72_12 G12) = e72_13 (E c72_13 [.lp v72_12 G12, .blk 2, .sj v72_8 c72_8, .sj v72_0 c72_0]) := by unfold S72_13; rw [hE c72_13]; kernel_rfl
theorem T72_12b (hE : FX x72 D m E) (G12) : S72_12b D m (e72_12 G12) = e72_12 (E c72_12b [.lp v72_12 G12, .blk 2, .sj v72_8 c72_8, .sj v72_0 c72_0]) := by unfold S72_12b; rw [T72_13 hE G12, T72_8 hE, hE c72_12b]; kernel_rfl
theorem T72_12 (hE : FX x72 D m E) : S72_12 D m = e72_12 (nrec (fun _ => none) (fun _ G12 st => E c72_12b [.lp v72_12 G12, .blk 2, .sj v72_8 c72_8, .sj v72_0 c72_0] st) m) :=
  nrec_emb e72_12 (fun _ _ _ _ _ _ _ _ _ => none) (fun g => S72_12b D m g) (fun G12 st => E c72_12b [.lp v72_12 G12, .blk 2, .sj v72_8 c72_8, .sj v72_0 c72_0] st) rfl (fun g => T72_12b hE g) m
theorem T72_14 (hE : FX x72 D m E) : S72_14 D m = e72_14 (E c72_e []) := by unfold S72_14; rw [T72_3 hE, T72_0 hE, T72_12 hE, hE c72_e]; kernel_rfl
theorem X72 : XTie S72 x72 := X_of fun D m E hE args h u => by unfold S72; rw [T72_14 hE]; kernel_rfl
/- 73 -/
def c73_3 : XC := (.s .ret)
def l73_2 : XL := (XL.of [.mv p4 q26 .b])
def l73_1 : XL := (XL.pre [.mv p20 q19 .b, .sp p20, .o ⟨(some p21), (.l (.cells 5 q2)), (some (p20, true)), []⟩ .v, .o ⟨(some p22), (.call (.fn 50) [q21]), (some (p20, true)), []⟩ .v, .G p20 true p23 (.field 1 1 false q22) .s, .G p20 true p24 (.mov q1) .s, .G p20 true p25 (.bin .eql q23 q24) .b, .P p26 (.pick q20 q25 (cb false)) .b, .jn p20 [p26]] l73_2)
def l73_0 : XL := (XL.pre [.P p19 (.pick q8 q18 (cb false)) .b, .jn p8 [p1, p2, p19]] l73_1)
def c73_e : XC := (.sO [.al p2 (.box q0), .mv p4 (cb false) .b] (.opq false (XL.pre [.fa p5 3 q2, .ld p6 q5 tI, .bn p7 .eql q6 (ci 0) .b, .mv p8 q7 .b, .sp p8, .o ⟨(some p9), (.l (.cells 5 q2)), (some (p8, true)), []⟩ .v, .o ⟨(some p10), (.call (.fn 50) [q9]), (some (p8, true)), []⟩ .v, .G p8 true p11 (.field 0 1 false q10) tI, .G p8 true p12 (.bin .eql q11 (ci 4)) .b, .G p8 true p13 (.mov q12) .b, .sp p13, .o ⟨(some p14), (.l (.cells 5 q2)), (some (p13, false)), []⟩ .v, .o ⟨(some p15), (.call (.fn 50) [q14]), (some (p13, false)), []⟩ .v, .G p13 false p16 (.field 0 1 false q15) tI, .G p13 false p17 (.bin .eql q16 (ci 5)) .b, .G p8 true p18 (.pick q13 (cb true) q17) .b, .jn p13 [p1, p2, p8, p18]] l73_0) c73_3))
def x73 : XFn := ⟨[.v, .s], false, [(.tmp p4)], c73_e⟩
def e73_2 (k t26 h) := kN k [(p26, (vB t26))] h
def S73_2 (D : CallD) (m : Nat) (t26 : Bool) (h : HP) : Res2 :=
 some (.ret (vB t26) h, .no)
def e73_1 (k t1 t2 t19 h) := kN k [(p1, (vS t1)), (p2, t2), (p19, (vB t19))] h
def S73_1 (D : CallD) (m : Nat) (t1 : LN) (t2 : AV) (t19 : Bool) (h : HP) : Res2 :=
 br t19 (
 cellsC 5 t2 h fun t21 =>
 cal D 50 [t21] h fun t22 h7 =>
 fldC 1 1 false t22 fun vt23 => asS vt23 fun t23 =>
 let t25 := eqL t23 t1
 S73_2 D m t25 h7) (
 S73_2 D m false h)
def e73_0 (k t1 t2 t8 t18 h) := kN k [(p1, (vS t1)), (p2, t2), (p8, (vB t8)), (p18, (vB t18))] h
def S73_0 (D : CallD) (m : Nat) (t1 : LN) (t2 : AV) (t8 t18 : Bool) (h : HP) : Res2 :=
 obB (brV t8 (some (vB t18)) (some (vB false))) fun t19 =>
 S73_1 D m t1 t2 t19 h
def e73_4 (k t0 t1 h) := kN k [(p0, t0), (p1, (vS t1))] h
def S73_4 (D : CallD) (m : Nat) (t0 : AV) (t1 : LN) (h : HP) : Res2 :=
 let t2 := P0 h
 let h5 := HP.newQ h (.cells true (AV.cells t0))
 let t5 := (AV.ptr (HP.nxQ h) (Nat.add 0 3))
 ldI t5 h5 fun t6 =>
 let t7 := eqQ t6 (Int.ofNat 0)
 br t7 (
 cellsC 5 t2 h5 fun t9 =>
 cal D 50 [t9] h5 fun t10 h6 =>
 fldC 0 1 false t10 fun vt11 => asI .i64 vt11 fun t11 =>
 let t12 := eqQ t11 (Int.ofNat 4)
 br t12 (
 S73_0 D m t1 t2 true true h6) (
 cellsC 5 t2 h6 fun t14 =>
 cal D 50 [t14] h6 fun t15 h8 =>
 fldC 0 1 false t15 fun vt16 => asI .i64 vt16 fun t16 =>
 let t17 := eqQ t16 (Int.ofNat 5)
 S73_0 D m t1 t2 true t17 h8)) (
 S73_1 D m t1 t2 false h5)
def S73 : SFn := fun D m args h u => nou u <| popV args fun t0 args => popS args fun t1 args => endA args (S73_4 D m t0 t1 h)
theorem T73_2 (hE : FX x73 D m E) : S73_2 D m = e73_2 (E (.opq false l73_2 c73_3) []) := by unfold S73_2; rw [hE (.opq false l73_2 c73_3)]; kernel_rfl
theorem T73_1 (hE : FX x73 D m E) : S73_1 D m = e73_1 (E (.opq false l73_1 c73_3) []) := by unfold S73_1; rw [T73_2 hE, hE (.opq false l73_1 c73_3)]; kernel_rfl
theorem T73_0 (hE : FX x73 D m E) : S73_0 D m = e73_0 (E (.opq false l73_0 c73_3) []) := by unfold S73_0; rw [T73_1 hE, hE (.opq false l73_0 c73_3)]; kernel_rfl
theorem T73_4 (hE : FX x73 D m E) : S73_4 D m = e73_4 (E c73_e []) := by unfold S73_4; rw [T73_0 hE, T73_1 hE, hE c73_e]; kernel_rfl
theorem X73 : XTie S73 x73 := X_of fun D m E hE args h u => by unfold S73; rw [T73_4 hE]; kernel_rfl
/- 74 -/
def v74_0 : List Pos := [p1, p2]
def c74_0 : XC := (.sO [.L p16 (.cells 5 q1) .v, .ss 5 q2 q16] (.s .ret))
def c74_2 : XC := (.cond q11 (.s (.oX [.fa p12 1 q1, .ld p13 q12 tI, .bn p14 .add q13 (ci 1) tI, .fa p15 1 q1, .st q15 q14])) (.s .skip))
def l74_1 : XL := (XL.of [])
def c74_e : XC := (.sO [.al p1 (.box q0), .al p2 (.new [.nils, (kI 0), (kI 0), (kI 0), (kI 0)])] (.sj v74_0 (.opq false (XL.pre [.fa p3 3 q1, .ld p4 q3 tI, .bn p5 .eql q4 (ci 0) .b, .mv p6 q5 .b, .sp p6, .o ⟨(some p7), (.l (.cells 5 q1)), (some (p6, true)), []⟩ .v, .o ⟨(some p8), (.call (.fn 50) [q7]), (some (p6, true)), []⟩ .v, .G p6 true p9 (.field 0 1 false q8) tI, .G p6 true p10 (.bin .neq q9 (ci 0)) .b, .P p11 (.pick q6 q10 (cb false)) .b, .jn p6 [p1, p2, p11]] l74_1) c74_2) c74_0))
def x74 : XFn := ⟨[.v], false, [(.cells 5 p2)], c74_e⟩
def e74_0 (k t1 t2 h) := kN k [(p1, t1), (p2, t2)] h
def S74_0 (D : CallD) (m : Nat) (t1 t2 : AV) (h : HP) : Res2 :=
 cellsC 5 t1 h fun t16 =>
 stsC 5 t2 t16 h fun h6 =>
 cellsC 5 t2 h6 fun t2a =>
 some (.ret t2a h6, .no)
def e74_1 (k t1 t2 t11 h) := kN k [(p1, t1), (p2, t2), (p11, (vB t11))] h
def S74_1 (D : CallD) (m : Nat) (t1 t2 : AV) (t11 : Bool) (h : HP) : Res2 :=
 br t11 (
 faC 1 t1 fun t12 =>
 ldI t12 h fun t13 =>
 let t14 := wrQ .i64 (addQ t13 (Int.ofNat 1))
 faC 1 t1 fun t15 =>
 stoC t15 (vI t14) h fun h8 =>
 S74_0 D m t1 t2 h8) (
 S74_0 D m t1 t2 h)
def e74_3 (k t0 h) := kN k [(p0, t0)] h
def S74_3 (D : CallD) (m : Nat) (t0 : AV) (h : HP) : Res2 :=
 let t1 := P0 h
 let h4 := HP.newQ h (.cells true (AV.cells t0))
 let t2 := P0 h4
 let h5 := nQ h4 [.nils, (kI 0), (kI 0), (kI 0), (kI 0)]
 let t3 := (AV.ptr (HP.nxQ h) (Nat.add 0 3))
 ldI t3 h5 fun t4 =>
 let t5 := eqQ t4 (Int.ofNat 0)
 br t5 (
 cellsC 5 t1 h5 fun t7 =>
 cal D 50 [t7] h5 fun t8 h7 =>
 fldC 0 1 false t8 fun vt9 => asI .i64 vt9 fun t9 =>
 let t10 := notQ (eqQ t9 (Int.ofNat 0))
 S74_1 D m t1 t2 t10 h7) (
 S74_1 D m t1 t2 false h5)
def S74 : SFn := fun D m args h u => nou u <| popV args fun t0 args => endA args (S74_3 D m t0 h)
theorem T74_0 (hE : FX x74 D m E) : S74_0 D m = e74_0 (E c74_0 []) := by unfold S74_0; rw [hE c74_0]; kernel_rfl
theorem T74_1 (hE : FX x74 D m E) : S74_1 D m = e74_1 (E (.opq false l74_1 c74_2) [.sj v74_0 c74_0]) := by unfold S74_1; rw [T74_0 hE, hE (.opq false l74_1 c74_2)]; kernel_rfl
theorem T74_3 (hE : FX x74 D m E) : S74_3 D m = e74_3 (E c74_e []) := by unfold S74_3; rw [T74_1 hE, hE c74_e]; kernel_rfl
theorem X74 : XTie S74 x74 := X_of fun D m E hE args h u => by unfold S74; rw [T74_3 hE]; kernel_rfl
/- 75 -/
def v75_0 : List Pos := [p1, p2]
def c75_0 : XC := (.sO [.L p23 (.cells 5 q1) .v, .cl p24 79 [q23, (.c (.str [118, 111, 105, 100]))] .v, .ss 5 q2 q24, .mv p3 (ci 0) tI] (.s .ret))
def v75_2 : List Pos := [p1, p2, p4]
def c75_2 : XC := (.sO [.L p13 (.cells 5 q1) .v, .cl p14 74 [q13] .v, .ss 5 q1 q14] (.seq (.seq (.oX [.L p15 (.cells 5 q1) .v, .cl p16 73 [q15, (.c (.str [42]))] .b]) (.cond q16 (.seq (.oX [.L p17 (.cells 5 q1) .v, .cl p18 74 [q17] .v, .mv p19 q4 tI, .bn p20 .add q19 (ci 2) tI, .ss 5 q2 q18, .mv p3 q20 tI]) .ret) .skip)) (.sO [.L p21 (.cells 5 q1) .v, .mv p22 q4 tI, .ss 5 q2 q21, .mv p3 q22 tI] (.s .ret))))
def c75_3 : XC := (.cond q10 (.sO [.mv p4 (ci 1) tI] (.sj v75_2 (.sO [.L p11 (.cells 5 q1) .v, .cl p12 73 [q11, (.c (.str [100, 111, 117, 98, 108, 101]))] .b] (.cond q12 (.s (.oX [.mv p4 (ci 2) tI])) (.s .skip))) c75_2)) (.s .skip))
def l75_1 : XL := (XL.of [])
def c75_e : XC := (.sO [.al p1 (.box q0), .al p2 (.new [.nils, (kI 0), (kI 0), (kI 0), (kI 0)]), .mv p3 (ci 0) tI] (.sj v75_0 (.opq false (XL.pre [.L p5 (.cells 5 q1) .v, .cl p6 73 [q5, (.c (.str [105, 110, 116]))] .b, .mv p7 q6 .b, .sp p7, .o ⟨(some p8), (.l (.cells 5 q1)), (some (p7, false)), []⟩ .v, .o ⟨(some p9), (.call (.fn 73) [q8, (.c (.str [100, 111, 117, 98, 108, 101]))]), (some (p7, false)), []⟩ .b, .P p10 (.pick q7 (cb true) q9) .b, .jn p7 [p1, p2, p10]] l75_1) c75_3) c75_0))
def x75 : XFn := ⟨[.v], false, [(.cells 5 p2), (.tmp p3)], c75_e⟩
def e75_0 (k t1 t2 h) := kN k [(p1, t1), (p2, t2)] h
def S75_0 (D : CallD) (m : Nat) (t1 t2 : AV) (h : HP) : Res2 :=
 cellsC 5 t1 h fun t23 =>
 cal D 79 [t23, (vS ([118, 111, 105, 100] : LN))] h fun t24 h7 =>
 stsC 5 t2 t24 h7 fun h8 =>
 cellsC 5 t2 h8 fun t2a =>
 some (.ret (.tup [t2a, (kI 0)]) h8, .no)
def e75_2 (k t1 t2 t4 h) := kN k [(p1, t1), (p2, t2), (p4, (vI t4))] h
def S75_2 (D : CallD) (m : Nat) (t1 t2 : AV) (t4 : Int) (h : HP) : Res2 :=
 cellsC 5 t1 h fun t13 =>
 cal D 74 [t13] h fun t14 h10 =>
 stsC 5 t1 t14 h10 fun h11 =>
 cellsC 5 t1 h11 fun t15 =>
 cal D 73 [t15, (vS ([42] : LN))] h11 fun t16 h12 =>
 asB t16 fun t16a =>
 br t16a (
 cellsC 5 t1 h12 fun t17 =>
 cal D 74 [t17] h12 fun t18 h13 =>
 let t20 := wrQ .i64 (addQ t4 (Int.ofNat 2))
 stsC 5 t2 t18 h13 fun h14 =>
 cellsC 5 t2 h14 fun t2a =>
 some (.ret (.tup [t2a, (vI t20)]) h14, .no)) (
 cellsC 5 t1 h12 fun t21 =>
 stsC 5 t2 t21 h12 fun h15 =>
 cellsC 5 t2 h15 fun t2a =>
 some (.ret (.tup [t2a, (vI t4)]) h15, .no))
def e75_1 (k t1 t2 t10 h) := kN k [(p1, t1), (p2, t2), (p10, (vB t10))] h
def S75_1 (D : CallD) (m : Nat) (t1 t2 : AV) (t10 : Bool) (h : HP) : Res2 :=
 br t10 (
 cellsC 5 t1 h fun t11 =>
 cal D 73 [t11, (vS ([100, 111, 117, 98, 108, 101] : LN))] h fun t12 h16 =>
 asB t12 fun t12a =>
 br t12a (
 S75_2 D m t1 t2 (Int.ofNat 2) h16) (
 S75_2 D m t1 t2 (Int.ofNat 1) h16)) (
 S75_0 D m t1 t2 h)
def e75_4 (k t0 h) := kN k [(p0, t0)] h
def S75_4 (D : CallD) (m : Nat) (t0 : AV) (h : HP) : Res2 :=
 let t1 := P0 h
 let h5 := HP.newQ h (.cells true (AV.cells t0))
 let t2 := P0 h5
 let h6 := nQ h5 [.nils, (kI 0), (kI 0), (kI 0), (kI 0)]
 cellsC 5 t1 h6 fun t5 =>
 cal D 73 [t5, (vS ([105, 110, 116] : LN))] h6 fun t6 h9 =>
 asB t6 fun t6a =>
 br t6a (
 S75_1 D m t1 t2 true h9) (
 cellsC 5 t1 h9 fun t8 =>
 cal D 73 [t8, (vS ([100, 111, 117, 98, 108, 101] : LN))] h9 fun t9 h17 =>
 asB t9 fun t9a =>
 S75_1 D m t1 t2 t9a h17)
def S75 : SFn := fun D m args h u => nou u <| popV args fun t0 args => endA args (S75_4 D m t0 h)
theorem T75_0 (hE : FX x75 D m E) : S75_0 D m = e75_0 (E c75_0 []) := by unfold S75_0; rw [hE c75_0]; kernel_rfl
theorem T75_2 (hE : FX x75 D m E) : S75_2 D m = e75_2 (E c75_2 [.sj v75_0 c75_0]) := by unfold S75_2; rw [hE c75_2]; kernel_rfl
theorem T75_1 (hE : FX x75 D m E) : S75_1 D m = e75_1 (E (.opq false l75_1 c75_3) [.sj v75_0 c75_0]) := by unfold S75_1; rw [T75_2 hE, T75_0 hE, hE (.opq false l75_1 c75_3)]; kernel_rfl
theorem T75_4 (hE : FX x75 D m E) : S75_4 D m = e75_4 (E c75_e []) := by unfold S75_4; rw [T75_1 hE, hE c75_e]; kernel_rfl
theorem X75 : XTie S75 x75 := X_of fun D m E hE args h u => by unfold S75; rw [T75_4 hE]; kernel_rfl
/- 76 -/
def v76_0 : List Pos := [p2, p4]
def c76_0 : XC := (.seq (.ops true (XL.of [.L p18 (.cells 5 q2) .v, .L p20 (.cells 5 q2) .v, .o ⟨(some p19), (.call (.fn 74) [q18]), none, [⟨none, .cells 5 q2, p20⟩]⟩ .v, .cl p21 50 [q20] .v, .P p22 (.field 1 1 false q21) .s, .ss 5 q4 q19, .mv p5 q22 .s])) (.s .ret))
def c76_2 : XC := (.cond q15 (.sO [.L p16 (.cells 5 q2) .v, .cl p17 111 [q16, (ci 11)] .v, .ss 5 q4 q17, .mv p5 (.c (.str [])) .s] (.s .ret)) (.s .skip))
def l76_1 : XL := (XL.of [])
def c76_e : XC := (.sO [.al p2 (.box q0), .al p4 (.new [.nils, (kI 0), (kI 0), (kI 0), (kI 0)]), .mv p5 (.c (.str [])) .s] (.sj v76_0 (.opq false (XL.pre [.fa p6 3 q2, .ld p7 q6 tI, .bn p8 .neq q7 (ci 0) .b, .mv p9 q8 .b, .sp p9, .o ⟨(some p10), (.l (.cells 5 q2)), (some (p9, false)), []⟩ .v, .o ⟨(some p11), (.call (.fn 50) [q10]), (some (p9, false)), []⟩ .v, .G p9 false p12 (.field 0 1 false q11) tI, .G p9 false p13 (.mov q1) tI, .G p9 false p14 (.bin .neq q12 q13) .b, .P p15 (.pick q9 (cb true) q14) .b, .jn p9 [p2, p4, p15]] l76_1) c76_2) c76_0))
def x76 : XFn := ⟨[.v, tI], false, [(.cells 5 p4), (.tmp p5)], c76_e⟩
def e76_0 (k t2 t4 h) := kN k [(p2, t2), (p4, t4)] h
def S76_0 (D : CallD) (m : Nat) (t2 t4 : AV) (h : HP) : Res2 :=
 cellsC 5 t2 h fun t18 =>
 cellsC 5 t2 h fun t20 =>
 cal D 74 [t18] h fun t19 h6 =>
 br (again [⟨none, .cells 5 q2, p20⟩] (mkT [(p20, t20), (p2, t2)]) h6) (
 cal D 50 [t20] h6 fun t21 h7 =>
 fldC 1 1 false t21 fun vt22 => asS vt22 fun t22 =>
 stsC 5 t4 t19 h7 fun h8 =>
 cellsC 5 t4 h8 fun t4a =>
 some (.ret (.tup [t4a, (vS t22)]) h8, .no)) none
def e76_1 (k t2 t4 t15 h) := kN k [(p2, t2), (p4, t4), (p15, (vB t15))] h
def S76_1 (D : CallD) (m : Nat) (t2 t4 : AV) (t15 : Bool) (h : HP) : Res2 :=
 br t15 (
 cellsC 5 t2 h fun t16 =>
 cal D 111 [t16, (kI 11)] h fun t17 h9 =>
 stsC 5 t4 t17 h9 fun h10 =>
 cellsC 5 t4 h10 fun t4a =>
 some (.ret (.tup [t4a, (vS ([] : LN))]) h10, .no)) (
 S76_0 D m t2 t4 h)
def e76_3 (k t0 t1 h) := kN k [(p0, t0), (p1, (vI t1))] h
def S76_3 (D : CallD) (m : Nat) (t0 : AV) (t1 : Int) (h : HP) : Res2 :=
 let t2 := P0 h
 let h4 := HP.newQ h (.cells true (AV.cells t0))
 let t4 := P0 h4
 let h5 := nQ h4 [.nils, (kI 0), (kI 0), (kI 0), (kI 0)]
 let t6 := (AV.ptr (HP.nxQ h) (Nat.add 0 3))
 ldI t6 h5 fun t7 =>
 let t8 := notQ (eqQ t7 (Int.ofNat 0))
 br t8 (
 S76_1 D m t2 t4 true h5) (
 cellsC 5 t2 h5 fun t10 =>
 cal D 50 [t10] h5 fun t11 h11 =>
 fldC 0 1 false t11 fun vt12 => asI .i64 vt12 fun t12 =>
 let t14 := notQ (eqQ t12 t1)
 S76_1 D m t2 t4 t14 h11)
def S76 : SFn := fun D m args h u => nou u <| popV args fun t0 args => popI .i64 args fun t1 args => endA args (S76_3 D m t0 t1 h)
theorem T76_0 (hE : FX x76 D m E) : S76_0 D m = e76_0 (E c76_0 []) := by unfold S76_0; rw [hE c76_0]; kernel_rfl
theorem T76_1 (hE : FX x76 D m E) : S76_1 D m = e76_1 (E (.opq false l76_1 c76_2) [.sj v76_0 c76_0]) := by unfold S76_1; rw [T76_0 hE, hE (.opq false l76_1 c76_2)]; kernel_rfl
theorem T76_3 (hE : FX x76 D m E) : S76_3 D m = e76_3 (E c76_e []) := by unfold S76_3; rw [T76_1 hE, hE c76_e]; kernel_rfl
theorem X76 : XTie S76 x76 := X_of fun D m E hE args h u => by unfold S76; rw [T76_3 hE]; kernel_rfl
/- 77 -/
def v77_1 : List Pos := [p1, p2, p4]
def c77_1 : XC := (.sO [.L p72 (.cells 5 q1) .v, .mv p73 q4 .v, .ss 5 q2 q72, .mv p3 q73 .v] (.s .ret))
def v77_2 : List Pos := [p1, p2, p4]
def c77_2b : XC := (.seq (.seq (.oX [.fa p36 3 q1, .ld p37 q36 tI, .bn p38 .eql q37 (ci 0) .b]) (.cond q38 .skip (.exit 0))) (.block 1 (.seq (.seq (.oX [.mv p39 q4 .v, .P p40 (.lenl q39) tI, .bn p41 .geq q40 (ci 8) .b]) (.cond q41 (.seq (.oX [.L p42 (.cells 5 q1) .v, .cl p43 111 [q42, (ci 5)] .v, .ss 5 q2 q43, .mv p3 (.c .nils) .v]) .ret) .skip)) (.sO [.L p44 (.cells 5 q1) .v, .cl p45 50 [q44] .v, .P p46 (.field 2 1 false q45) tI, .P p47 (.build [(.str []), (kI 0), (kI 0)] [⟨2, 1, q46⟩]) .v, .al p5 (.new [(.str []), (kI 0), (kI 0)]), .ss 3 q5 q47] (.sO [.L p49 (.cells 5 q1) .v, .cl p50 75 [q49] .v, .mv p48 q50 .v, .P p51 (.ext q48 0) .v, .P p52 (.ext q48 1) tI, .ss 5 q1 q51, .fa p53 1 q5, .st q53 q52] (.sO [.L p55 (.cells 5 q1) .v, .cl p56 76 [q55, (ci 1)] .v, .mv p54 q56 .v, .P p57 (.ext q54 0) .v, .P p58 (.ext q54 1) .s, .ss 5 q1 q57, .fa p59 0 q5, .st q59 q58] (.sO [.mv p60 q4 .v, .L p61 (.cells 3 q5) .v, .al p62 (.bsl [(.str []), (kI 0), (kI 0)] 1 [⟨0, 3, q61⟩]), .o ⟨(some p63), (.e (.app 3 32 q60 q62)), none, []⟩ .v, .mv p4 q63 .v] (.seq (.seq (.oX [.L p64 (.cells 5 q1) .v, .cl p65 73 [q64, (.c (.str [44]))] .b, .P p66 (.un .not q65) .b]) (.cond q66 (.seq (.oX [.L p67 (.cells 5 q1) .v, .cl p68 79 [q67, (.c (.str [41]))] .v, .mv p69 q4 .v, .ss 5 q2 q68, .mv p3 q69 .v]) .ret) .skip)) (.s (.oX [.L p70 (.cells 5 q1) .v, .cl p71 74 [q70] .v, .ss 5 q1 q71]))))))))))
def v77_0 : List Pos := [p1, p2]
def c77_0 : XC := (.seq (.seq (.oX [.L p32 (.cells 5 q1) .v, .cl p33 73 [q32, (.c (.str [41]))] .b]) (.cond q33 (.seq (.oX [.L p34 (.cells 5 q1) .v, .cl p35 74 [q34] .v, .ss 5 q2 q35, .mv p3 (.c .nils) .v]) .ret) .skip)) (.sO [.mv p4 (.c .nils) .v] (.sj v77_1 (.block 0 (.loop v77_2 c77_2b)) c77_1)))
def c77_e : XC := (.sO [.al p1 (.box q0), .al p2 (.new [.nils, (kI 0), (kI 0), (kI 0), (kI 0)]), .mv p3 (.c .nils) .v] (.sj v77_0 (.sO [.L p6 (.cells 5 q1) .v, .cl p7 73 [q6, (.c (.str [118, 111, 105, 100]))] .b, .mv p8 q7 .b, .ge p8 (XL.of [.G p8 true p9 (.faddr 0 q1) .v, .o ⟨(some p10), (.l (.cell q9)), (some (p8, true)), []⟩ .v, .G p8 true p11 (.faddr 1 q1) .v, .o ⟨(some p12), (.l (.cell q11)), (some (p8, true)), []⟩ tI, .G p8 true p13 (.bin .add q12 (ci 1)) tI, .G p8 true p14 (.iaddr (.sl 3) q10 q13) .v, .G p8 true p15 (.faddr 0 q14) .v, .o ⟨(some p16), (.l (.cell q15)), (some (p8, true)), []⟩ tI, .G p8 true p17 (.bin .eql q16 (ci 4)) .b, .P p18 (.pick q8 q17 (cb false)) .b]) p18 .b, .mv p19 q18 .b, .ge p19 (XL.of [.G p19 true p20 (.faddr 0 q1) .v, .o ⟨(some p21), (.l (.cell q20)), (some (p19, true)), []⟩ .v, .G p19 true p22 (.faddr 1 q1) .v, .o ⟨(some p23), (.l (.cell q22)), (some (p19, true)), []⟩ tI, .G p19 true p24 (.bin .add q23 (ci 1)) tI, .G p19 true p25 (.iaddr (.sl 3) q21 q24) .v, .G p19 true p26 (.faddr 1 q25) .v, .o ⟨(some p27), (.l (.cell q26)), (some (p19, true)), []⟩ .s, .G p19 true p28 (.bin .eql q27 (.c (.str [41]))) .b, .P p29 (.pick q19 q28 (cb false)) .b]) p29 .b] (.cond q29 (.s (.oX [.L p30 (.cells 5 q1) .v, .cl p31 74 [q30] .v, .ss 5 q1 q31])) (.s .skip))) c77_0))
def x77 : XFn := ⟨[.v], false, [(.cells 5 p2), (.tmp p3)], c77_e⟩
def e77_1 (k t1 t2 t4 h) := kN k [(p1, t1), (p2, t2), (p4, t4)] h
def S77_1 (D : CallD) (m : Nat) (t1 t2 t4 : AV) (h : HP) : Res2 :=
 cellsC 5 t1 h fun t72 =>
 stsC 5 t2 t72 h fun h9 =>
 cellsC 5 t2 h9 fun t2a =>
 some (.ret (.tup [t2a, t4]) h9, .no)
def e77_2 (k t1 t2 t4 h) := kN k [(p1, t1), (p2, t2), (p4, t4)] h
def S77_2b (D : CallD) (m : Nat) (g2 : AV → AV → AV → HP → Res2) (t1 t2 t4 : AV) (h : HP) : Res2 :=
 faC 3 t1 fun t36 =>
 ldI t36 h fun t37 =>
 let t38 := eqQ t37 (Int.ofNat 0)
 br t38 (
 lenC t4 fun vt40 => asI .i64 vt40 fun t40 =>
 let t41 := leQ (Int.ofNat 8) t40
 br t41 (
 cellsC 5 t1 h fun t42 =>
 cal D 111 [t42, (kI 5)] h fun t43 h10 =>
 stsC 5 t2 t43 h10 fun h11 =>
 cellsC 5 t2 h11 fun t2a =>
 some (.ret (.tup [t2a, (.nils : AV)]) h11, .no)) (
 cellsC 5 t1 h fun t44 =>
 cal D 50 [t44] h fun t45 h12 =>
 fldC 2 1 false t45 fun vt46 => asI .i64 vt46 fun t46 =>
 let t47 := (AV.agg [(vS ([] : LN)), (kI 0), (vI t46)])
 let t5 := P0 h12
 let h13 := nQ h12 [(.str []), (kI 0), (kI 0)]
 stsC 3 t5 t47 h13 fun h14 =>
 cellsC 5 t1 h14 fun t49 =>
 cal D 75 [t49] h14 fun t50 h15 =>
 extC t50 0 fun t51 =>
 extC t50 1 fun vt52 => asI .i64 vt52 fun t52 =>
 stsC 5 t1 t51 h15 fun h16 =>
 let t53 := (AV.ptr (HP.nxQ h12) (Nat.add 0 1))
 stoC t53 (vI t52) h16 fun h17 =>
 cellsC 5 t1 h17 fun t55 =>
 cal D 76 [t55, (kI 1)] h17 fun t56 h18 =>
 extC t56 0 fun t57 =>
 extC t56 1 fun vt58 => asS vt58 fun t58 =>
 stsC 5 t1 t57 h18 fun h19 =>
 let t59 := (AV.ptr (HP.nxQ h12) (Nat.add 0 0))
 stoC t59 (vS t58) h19 fun h20 =>
 cellsC 3 t5 h20 fun t61 =>
 obQ (evA (.bsl [(.str []), (kI 0), (kI 0)] 1 [⟨0, 3, (.c t61)⟩]) .leaf) fun r21 =>
 let t62 := vkV r21.2 (HP.nxQ h20)
 let h22 := HP.newQ h20 r21.1
 eff (.app 3 32 (.c t4) (.c t62)) h22 fun t63 h23 =>
 cellsC 5 t1 h23 fun t64 =>
 cal D 73 [t64, (vS ([44] : LN))] h23 fun t65 h24 =>
 asB t65 fun t65a =>
 let t66 := !t65a
 br t66 (
 cellsC 5 t1 h24 fun t67 =>
 cal D 79 [t67, (vS ([41] : LN))] h24 fun t68 h25 =>
 stsC 5 t2 t68 h25 fun h26 =>
 cellsC 5 t2 h26 fun t2a =>
 some (.ret (.tup [t2a, t63]) h26, .no)) (
 cellsC 5 t1 h24 fun t70 =>
 cal D 74 [t70] h24 fun t71 h27 =>
 stsC 5 t1 t71 h27 fun h28 =>
 g2 t1 t2 t63 h28))) (
 S77_1 D m t1 t2 t4 h)
def S77_2 (D : CallD) (m : Nat) : AV → AV → AV → HP → Res2 := nrec (fun _ _ _ _ => none) (fun _ g => S77_2b D m g) m
def e77_0 (k t1 t2 h) := kN k [(p1, t1), (p2, t2)] h
def S77_0 (D : CallD) (m : Nat) (t1 t2 : AV) (h : HP) : Res2 :=
 cellsC 5 t1 h fun t32 =>
 cal D 73 [t32, (vS ([41] : LN))] h fun t33 h6 =>
 asB t33 fun t33a =>
 br t33a (
 cellsC 5 t1 h6 fun t34 =>
 cal D 74 [t34] h6 fun t35 h7 =>
 stsC 5 t2 t35 h7 fun h8 =>
 cellsC 5 t2 h8 fun t2a =>
 some (.ret (.tup [t2a, (.nils : AV)]) h8, .no)) (
 S77_2 D m t1 t2 (.nils : AV) h6)
def e77_3 (k t0 h) := kN k [(p0, t0)] h
def S77_3 (D : CallD) (m : Nat) (t0 : AV) (h : HP) : Res2 :=
 let t1 := P0 h
 let h4 := HP.newQ h (.cells true (AV.cells t0))
 let t2 := P0 h4
 let h5 := nQ h4 [.nils, (kI 0), (kI 0), (kI 0), (kI 0)]
 cellsC 5 t1 h5 fun t6 =>
 cal D 73 [t6, (vS ([118, 111, 105, 100] : LN))] h5 fun t7 h29 =>
 asB t7 fun t7a =>
 obB (brV t7a (
 let t9 := (AV.ptr (HP.nxQ h) (Nat.add 0 0))
 cellCV t9 h29 fun t10 =>
 let t11 := (AV.ptr (HP.nxQ h) (Nat.add 0 1))
 ldIV t11 h29 fun t12 =>
 let t13 := wrQ .i64 (addQ t12 (Int.ofNat 1))
 iasCV 3 t10 (vI t13) fun t14 =>
 faCV 0 t14 fun t15 =>
 ldIV t15 h29 fun t16 =>
 let t17 := eqQ t16 (Int.ofNat 4)
 some (vB t17)) (
 some (vB false))) fun t18 =>
 obB (brV t18 (
 let t20 := (AV.ptr (HP.nxQ h) (Nat.add 0 0))
 cellCV t20 h29 fun t21 =>
 let t22 := (AV.ptr (HP.nxQ h) (Nat.add 0 1))
 ldIV t22 h29 fun t23 =>
 let t24 := wrQ .i64 (addQ t23 (Int.ofNat 1))
 iasCV 3 t21 (vI t24) fun t25 =>
 faCV 1 t25 fun t26 =>
 ldSV t26 h29 fun t27 =>
 let t28 := eqL t27 ([41] : LN)
 some (vB t28)) (
 some (vB false))) fun t29 =>
 br t29 (
 cellsC 5 t1 h29 fun t30 =>
 cal D 74 [t30] h29 fun t31 h30 =>
 stsC 5 t1 t31 h30 fun h31 =>
 S77_0 D m t1 t2 h31) (
 S77_0 D m t1 t2 h29)
def S77 : SFn := fun D m args h u => nou u <| popV args fun t0 args => endA args (S77_3 D m t0 h)
theorem T77_1 (hE : FX x77 D m E) : S77_1 D m = e77_1 (E c77_1 []) := by unfold S77_1; rw [hE c77_1]; kernel_rfl
theorem T77_2b (hE : FX x77 D m E) (G2) : S77_2b D m (e77_2 G2) = e77_2 (E c77_2b [.lp v77_2 G2, .blk 0, .sj v77_1 c77_1]) := by unfold S77_2b; rw [T77_1 hE, hE c77_2b]; kernel_rfl
theorem T77_2 (hE : FX x77 D m E) : S77_2 D m = e77_2 (nrec (fun _ => none) (fun _ G2 st => E c77_2b [.lp v77_2 G2, .blk 0, .sj v77_1 c77_1] st) m) :=
  nrec_emb e77_2 (fun _ _ _ _ => none) (fun g => S77_2b D m g) (fun G2 st => E c77_2b [.lp v77_2 G2, .blk 0, .sj v77_1 c77_1] st) rfl (fun g => T77_2b hE g) m
theorem T77_0 (hE : FX x77 D m E) : S77_0 D m = e77_0 (E c77_0 []) := by unfold S77_0; rw [T77_2 hE, hE c77_0]; kernel_rfl
theorem T77_3 (hE : FX x77 D m E) : S77_3 D m = e77_3 (E c77_e []) := by unfold S77_3; rw [T77_0 hE, hE c77_e]; kernel_rfl
theorem X77 : XTie S77 x77 := X_of fun D m E hE args h u => by unfold S77; rw [T77_3 hE]; kernel_rfl
/- 78 -/
def v78_0 : List Pos := [p1, p2, p3, p4]
def c78_0 : XC := (.seq (.ops true (XL.of [.L p32 (.cells 5 q1) .v, .L p34 (.cells 7 q4) .v, .o ⟨(some p33), (.call (.fn 79) [q32, (.c (.str [125]))]), none, [⟨none, .cells 7 q4, p34⟩]⟩ .v, .o ⟨none, (.e (.stores 5 q2 q33)), none, [⟨none, .cells 7 q4, p34⟩]⟩ .v, .ss 7 q3 q34])) (.s .ret))
def v78_2 : List Pos := [p1, p2, p3, p4]
def c78_2 : XC := (.block 1 (.sO [.P p20 (.build [(kI 0), .nils, .nils, (.str []), (kI 0), (kI 0), (kI 0)] []) .v, .al p5 (.new [(kI 0), .nils, .nils, (.str []), (kI 0), (kI 0), (kI 0)]), .ss 7 q5 q20] (.sO [.L p22 (.cells 5 q1) .v, .cl p23 112 [q22] .v, .mv p21 q23 .v, .P p24 (.ext q21 0) .v, .P p25 (.ext q21 1) .v, .ss 5 q1 q24, .ss 7 q5 q25] (.s (.oX [.fa p26 2 q4, .ld p27 q26 .v, .L p28 (.cells 7 q5) .v, .al p29 (.bsl [(kI 0), .nils, .nils, (.str []), (kI 0), (kI 0), (kI 0)] 1 [⟨0, 7, q28⟩]), .o ⟨(some p30), (.e (.app 7 96 q27 q29)), none, []⟩ .v, .fa p31 2 q4, .st q31 q30])))))
def c78_4 : XC := (.cond q19 (.s .skip) (.s (.exit 0)))
def l78_3 : XL := (XL.of [])
def v78_1 : List Pos := [p1, p2, p3, p4]
def c78_1b : XC := (.sj v78_2 (.opq false (XL.pre [.fa p12 3 q1, .ld p13 q12 tI, .bn p14 .eql q13 (ci 0) .b, .mv p15 q14 .b, .sp p15, .o ⟨(some p16), (.l (.cells 5 q1)), (some (p15, true)), []⟩ .v, .o ⟨(some p17), (.call (.fn 73) [q16, (.c (.str [125]))]), (some (p15, true)), []⟩ .b, .G p15 true p18 (.un .not q17) .b, .P p19 (.pick q15 q18 (cb false)) .b, .jn p15 [p1, p2, p3, p4, p19]] l78_3) c78_4) c78_2)
def c78_e : XC := (.sO [.al p1 (.box q0), .al p2 (.new [.nils, (kI 0), (kI 0), (kI 0), (kI 0)]), .al p3 (.new [(kI 0), .nils, .nils, (.str []), (kI 0), (kI 0), (kI 0)])] (.sO [.L p6 (.cells 5 q1) .v, .cl p7 50 [q6] .v, .P p8 (.field 2 1 false q7) tI, .P p9 (.build [(kI 0), .nils, .nils, (.str []), (kI 0), (kI 0), (kI 0)] [⟨0, 1, (ci 1)⟩, ⟨6, 1, q8⟩]) .v, .al p4 (.new [(kI 0), .nils, .nils, (.str []), (kI 0), (kI 0), (kI 0)]), .ss 7 q4 q9] (.sO [.L p10 (.cells 5 q1) .v, .cl p11 79 [q10, (.c (.str [123]))] .v, .ss 5 q1 q11] (.sj v78_0 (.block 0 (.loop v78_1 c78_1b)) c78_0))))
def x78 : XFn := ⟨[.v], false, [(.cells 5 p2), (.cells 7 p3)], c78_e⟩
def e78_0 (k t1 t2 t3 t4 h) := kN k [(p1, t1), (p2, t2), (p3, t3), (p4, t4)] h
def S78_0 (D : CallD) (m : Nat) (t1 t2 t3 t4 : AV) (h : HP) : Res2 :=
 cellsC 5 t1 h fun t32 =>
 cellsC 7 t4 h fun t34 =>
 cal D 79 [t32, (vS ([125] : LN))] h fun t33 h14 =>
 br (again [⟨none, .cells 7 q4, p34⟩] (mkT [(p34, t34), (p4, t4)]) h14) (
 stsC 5 t2 t33 h14 fun h15 =>
 br (againE (.stores 5 q2 q33) [⟨none, .cells 7 q4, p34⟩] (mkT [(p2, t2), (p34, t34), (p4, t4)]) h15) (
 stsC 7 t3 t34 h15 fun h16 =>
 cellsC 5 t2 h16 fun t2a =>
 cellsC 7 t3 h16 fun t3a =>
 some (.ret (.tup [t2a, t3a]) h16, .no)) none) none
def e78_2 (k t1 t2 t3 t4 h) := kN k [(p1, t1), (p2, t2), (p3, t3), (p4, t4)] h
def S78_2 (D : CallD) (m : Nat) (g1 : AV → AV → AV → AV → HP → Res2) (t1 t2 t3 t4 : AV) (h : HP) : Res2 :=
 let t20 := (AV.agg [(kI 0), (.nils : AV), (.nils : AV), (vS ([] : LN)), (kI 0), (kI 0), (kI 0)])
 let t5 := P0 h
 let h17 := nQ h [(kI 0), .nils, .nils, (.str []), (kI 0), (kI 0), (kI 0)]
 stsC 7 t5 t20 h17 fun h18 =>
 cellsC 5 t1 h18 fun t22 =>
 cal D 112 [t22] h18 fun t23 h19 =>
 extC t23 0 fun t24 =>
 extC t23 1 fun t25 =>
 stsC 5 t1 t24 h19 fun h20 =>
 stsC 7 t5 t25 h20 fun h21 =>
 faC 2 t4 fun t26 =>
 cellC t26 h21 fun t27 =>
 cellsC 7 t5 h21 fun t28 =>
 obQ (evA (.bsl [(kI 0), .nils, .nils, (.str []), (kI 0), (kI 0), (kI 0)] 1 [⟨0, 7, (.c t28)⟩]) .leaf) fun r22 =>
 let t29 := vkV r22.2 (HP.nxQ h21)
 let h23 := HP.newQ h21 r22.1
 eff (.app 7 96 (.c t27) (.c t29)) h23 fun t30 h24 =>
 faC 2 t4 fun t31 =>
 stoC t31 t30 h24 fun h25 =>
 g1 t1 t2 t3 t4 h25
def e78_3 (k t1 t2 t3 t4 t19 h) := kN k [(p1, t1), (p2, t2), (p3, t3), (p4, t4), (p19, (vB t19))] h
def S78_3 (D : CallD) (m : Nat) (g1 : AV → AV → AV → AV → HP → Res2) (t1 t2 t3 t4 : AV) (t19 : Bool) (h : HP) : Res2 :=
 br t19 (
 S78_2 D m g1 t1 t2 t3 t4 h) (
 S78_0 D m t1 t2 t3 t4 h)
def e78_1 (k t1 t2 t3 t4 h) := kN k [(p1, t1), (p2, t2), (p3, t3), (p4, t4)] h
def S78_1b (D : CallD) (m : Nat) (g1 : AV → AV → AV → AV → HP → Res2) (t1 t2 t3 t4 : AV) (h : HP) : Res2 :=
 faC 3 t1 fun t12 =>
 ldI t12 h fun t13 =>
 let t14 := eqQ t13 (Int.ofNat 0)
 br t14 (
 cellsC 5 t1 h fun t16 =>
 cal D 73 [t16, (vS ([125] : LN))] h fun t17 h26 =>
 asB t17 fun t17a =>
 let t18 := !t17a
 S78_3 D m g1 t1 t2 t3 t4 t18 h26) (
 S78_3 D m g1 t1 t2 t3 t4 false h)
def S78_1 (D : CallD) (m : Nat) : AV → AV → AV → AV → HP → Res2 := nrec (fun _ _ _ _ _ => none) (fun _ g => S78_1b D m g) m
def e78_5 (k t0 h) := kN k [(p0, t0)] h
def S78_5 (D : CallD) (m : Nat) (t0 : AV) (h : HP) : Res2 :=
 let t1 := P0 h
 let h6 := HP.newQ h (.cells true (AV.cells t0))
 let t2 := P0 h6
 let h7 := nQ h6 [.nils, (kI 0), (kI 0), (kI 0), (kI 0)]
 let t3 := P0 h7
 let h8 := nQ h7 [(kI 0), .nils, .nils, (.str []), (kI 0), (kI 0), (kI 0)]
 cellsC 5 t1 h8 fun t6 =>
 cal D 50 [t6] h8 fun t7 h9 =>
 fldC 2 1 false t7 fun vt8 => asI .i64 vt8 fun t8 =>
 let t9 := (AV.agg [(kI 1), (.nils : AV), (.nils : AV), (vS ([] : LN)), (kI 0), (kI 0), (vI t8)])
 let t4 := P0 h9
 let h10 := nQ h9 [(kI 0), .nils, .nils, (.str []), (kI 0), (kI 0), (kI 0)]
 stsC 7 t4 t9 h10 fun h11 =>
 cellsC 5 t1 h11 fun t10 =>
 cal D 79 [t10, (vS ([123] : LN))] h11 fun t11 h12 =>
 stsC 5 t1 t11 h12 fun h13 =>
 S78_1 D m t1 t2 t3 t4 h13
def S78 : SFn := fun D m args h u => nou u <| popV args fun t0 args => endA args (S78_5 D m t0 h)
theorem T78_0 (hE : FX x78 D m E) : S78_0 D m = e78_0 (E c78_0 []) := by unfold S78_0; rw [hE c78_0]; kernel_rfl
theorem T78_2 (hE : FX x78 D m E) (G1) : S78_2 D m (e78_1 G1) = e78_2 (E c78_2 [.lp v78_1 G1, .blk 0, .sj v78_0 c78_0]) := by unfold S78_2; rw [hE c78_2]; kernel_rfl
theorem T78_3 (hE : FX x78 D m E) (G1) : S78_3 D m (e78_1 G1) = e78_3 (E (.opq false l78_3 c78_4) [.sj v78_2 c78_2, .lp v78_1 G1, .blk 0, .sj v78_0 c78_0]) := by unfold S78_3; rw [T78_2 hE G1, T78_0 hE, hE (.opq false l78_3 c78_4)]; kernel_rfl
theorem T78_1b (hE : FX x78 D m E) (G1) : S78_1b D m (e78_1 G1) = e78_1 (E c78_1b [.lp v78_1 G1, .blk 0, .sj v78_0 c78_0]) := by unfold S78_1b; rw [T78_3 hE G1, hE c78_1b]; kernel_rfl
theorem T78_1 (hE : FX x78 D m E) : S78_1 D m = e78_1 (nrec (fun _ => none) (fun _ G1 st => E c78_1b [.lp v78_1 G1, .blk 0, .sj v78_0 c78_0] st) m) :=
  nrec_emb e78_1 (fun _ _ _ _ _ => none) (fun g => S78_1b D m g) (fun G1 st => E c78_1b [.lp v78_1 G1, .blk 0, .sj v78_0 c78_0] st) rfl (fun g => T78_1b hE g) m
theorem T78_5 (hE : FX x78 D m E) : S78_5 D m = e78_5 (E c78_e []) := by unfold S78_5; rw [T78_1 hE, hE c78_e]; kernel_rfl
theorem X78 : XTie S78 x78 := X_of fun D m E hE args h u => by unfold S78; rw [T78_5 hE]; kernel_rfl
/- 79 -/
def c79_e : XC := (.sO [.al p2 (.box q0), .al p4 (.new [.nils, (kI 0), (kI 0), (kI 0), (kI 0)])] (.seq (.seq (.oX [.L p5 (.cells 5 q2) .v, .mv p6 q1 .s, .cl p7 73 [q5, q6] .b]) (.cond q7 (.seq (.oX [.L p8 (.cells 5 q2) .v, .cl p9 74 [q8] .v, .ss 5 q4 q9]) .ret) .skip)) (.sO [.L p10 (.cells 5 q2) .v, .cl p11 111 [q10, (ci 11)] .v, .ss 5 q4 q11] (.s .ret))))
def x79 : XFn := ⟨[.v, .s], false, [(.cells 5 p4)], c79_e⟩
def e79_0 (k t0 t1 h) := kN k [(p0, t0), (p1, (vS t1))] h
def S79_0 (D : CallD) (m : Nat) (t0 : AV) (t1 : LN) (h : HP) : Res2 :=
 let t2 := P0 h
 let h1 := HP.newQ h (.cells true (AV.cells t0))
 let t4 := P0 h1
 let h2 := nQ h1 [.nils, (kI 0), (kI 0), (kI 0), (kI 0)]
 cellsC 5 t2 h2 fun t5 =>
 cal D 73 [t5, (vS t1)] h2 fun t7 h3 =>
 asB t7 fun t7a =>
 br t7a (
 cellsC 5 t2 h3 fun t8 =>
 cal D 74 [t8] h3 fun t9 h4 =>
 stsC 5 t4 t9 h4 fun h5 =>
 cellsC 5 t4 h5 fun t4a =>
 some (.ret t4a h5, .no)) (
 cellsC 5 t2 h3 fun t10 =>
 cal D 111 [t10, (kI 11)] h3 fun t11 h6 =>
 stsC 5 t4 t11 h6 fun h7 =>
 cellsC 5 t4 h7 fun t4a =>
 some (.ret t4a h7, .no))
def S79 : SFn := fun D m args h u => nou u <| popV args fun t0 args => popS args fun t1 args => endA args (S79_0 D m t0 t1 h)
theorem T79_0 (hE : FX x79 D m E) : S79_0 D m = e79_0 (E c79_e []) := by unfold S79_0; rw [hE c79_e]; kernel_rfl
theorem X79 : XTie S79 x79 := X_of fun D m E hE args h u => by unfold S79; rw [T79_0 hE]; kernel_rfl
/- 80 -/
def v80_0 : List Pos := [p1, p2, p5]
def c80_0 : XC := (.sO [.L p32 (.cells 5 q1) .v, .cl p33 79 [q32, (.c (.str [93]))] .v, .mv p34 q5 tI, .ss 5 q2 q33, .mv p3 q34 tI] (.s .ret))
def c80_e : XC := (.sO [.al p1 (.box q0), .al p2 (.new [.nils, (kI 0), (kI 0), (kI 0), (kI 0)]), .mv p3 (ci 0) tI] (.seq (.seq (.oX [.L p7 (.cells 5 q1) .v, .cl p8 73 [q7, (.c (.str [91]))] .b, .P p9 (.un .not q8) .b]) (.cond q9 (.seq (.oX [.L p10 (.cells 5 q1) .v, .ss 5 q2 q10, .mv p3 (ci 0) tI]) .ret) .skip)) (.sO [.L p11 (.cells 5 q1) .v, .cl p12 74 [q11] .v, .ss 5 q1 q12] (.sO [.L p13 (.cells 5 q1) .v, .al p4 (.new [.nils, (kI 0), (kI 0), (kI 0), (kI 0)]), .ss 5 q4 q13] (.sO [.mv p5 (ci 0) tI] (.sO [.L p15 (.cells 5 q1) .v, .cl p16 76 [q15, (ci 2)] .v, .mv p14 q16 .v, .P p17 (.ext q14 0) .v, .P p18 (.ext q14 1) .s, .ss 5 q1 q17, .mv p6 q18 .s] (.sj v80_0 (.sO [.fa p19 3 q1, .ld p20 q19 tI, .bn p21 .eql q20 (ci 0) .b] (.cond q21 (.sO [.mv p22 q6 .s, .cl p23 113 [q22] tI, .mv p5 q23 tI] (.sO [.mv p24 q5 tI, .bn p25 .lss q24 (ci 1) .b, .mv p26 q25 .b, .ge p26 (XL.of [.G p26 false p27 (.mov q5) tI, .G p26 false p28 (.bin .gtr q27 (ci 1000)) .b, .P p29 (.pick q26 (cb true) q28) .b]) p29 .b] (.cond q29 (.sO [.L p30 (.cells 5 q4) .v, .cl p31 111 [q30, (ci 1)] .v, .ss 5 q2 q31, .mv p3 (ci 0) tI] (.s .ret)) (.s .skip)))) (.s .skip))) c80_0)))))))
def x80 : XFn := ⟨[.v], false, [(.cells 5 p2), (.tmp p3)], c80_e⟩
def e80_0 (k t1 t2 t5 h) := kN k [(p1, t1), (p2, t2), (p5, (vI t5))] h
def S80_0 (D : CallD) (m : Nat) (t1 t2 : AV) (t5 : Int) (h : HP) : Res2 :=
 cellsC 5 t1 h fun t32 =>
 cal D 79 [t32, (vS ([93] : LN))] h fun t33 h12 =>
 stsC 5 t2 t33 h12 fun h13 =>
 cellsC 5 t2 h13 fun t2a =>
 some (.ret (.tup [t2a, (vI t5)]) h13, .no)
def e80_1 (k t0 h) := kN k [(p0, t0)] h
def S80_1 (D : CallD) (m : Nat) (t0 : AV) (h : HP) : Res2 :=
 let t1 := P0 h
 let h2 := HP.newQ h (.cells true (AV.cells t0))
 let t2 := P0 h2
 let h3 := nQ h2 [.nils, (kI 0), (kI 0), (kI 0), (kI 0)]
 cellsC 5 t1 h3 fun t7 =>
 cal D 73 [t7, (vS ([91] : LN))] h3 fun t8 h4 =>
 asB t8 fun t8a =>
 let t9 := !t8a
 br t9 (
 cellsC 5 t1 h4 fun t10 =>
 stsC 5 t2 t10 h4 fun h5 =>
 cellsC 5 t2 h5 fun t2a =>
 some (.ret (.tup [t2a, (kI 0)]) h5, .no)) (
 cellsC 5 t1 h4 fun t11 =>
 cal D 74 [t11] h4 fun t12 h6 =>
 stsC 5 t1 t12 h6 fun h7 =>
 cellsC 5 t1 h7 fun t13 =>
 let t4 := P0 h7
 let h8 := nQ h7 [.nils, (kI 0), (kI 0), (kI 0), (kI 0)]
 stsC 5 t4 t13 h8 fun h9 =>
 cellsC 5 t1 h9 fun t15 =>
 cal D 76 [t15, (kI 2)] h9 fun t16 h10 =>
 extC t16 0 fun t17 =>
 extC t16 1 fun vt18 => asS vt18 fun t18 =>
 stsC 5 t1 t17 h10 fun h11 =>
 let t19 := (AV.ptr (HP.nxQ h) (Nat.add 0 3))
 ldI t19 h11 fun t20 =>
 let t21 := eqQ t20 (Int.ofNat 0)
 br t21 (
 cal D 113 [(vS t18)] h11 fun t23 h14 =>
 asI .i64 t23 fun t23a =>
 let t25 := ltQ t23a (Int.ofNat 1)
 obB (brV t25 (
 some (vB true)) (
 let t28 := ltQ (Int.ofNat 1000) t23a
 some (vB t28))) fun t29 =>
 br t29 (
 cellsC 5 t4 h14 fun t30 =>
 cal D 111 [t30, (kI 1)] h14 fun t31 h15 =>
 stsC 5 t2 t31 h15 fun h16 =>
 cellsC 5 t2 h16 fun t2a =>
 some (.ret (.tup [t2a, (kI 0)]) h16, .no)) (
 S80_0 D m t1 t2 t23a h14)) (
 S80_0 D m t1 t2 (Int.ofNat 0) h11))
def S80 : SFn := fun D m args h u => nou u <| popV args fun t0 args => endA args (S80_1 D m t0 h)
theorem T80_0 (hE : FX x80 D m E) : S80_0 D m = e80_0 (E c80_0 []) := by unfold S80_0; rw [hE c80_0]; kernel_rfl
theorem T80_1 (hE : FX x80 D m E) : S80_1 D m = e80_1 (E c80_e []) := by unfold S80_1; rw [T80_0 hE, hE c80_e]; kernel_rfl
theorem X80 : XTie S80 x80 := X_of fun D m E hE args h u => by unfold S80; rw [T80_1 hE]; kernel_rfl
/- 81 -/
def v81_0 : List Pos := [p1, p2, p3, p4]
def c81_0 : XC := (.seq (.ops true (XL.of [.L p27 (.cells 5 q1) .v, .L p29 (.cells 8 q4) .v, .o ⟨(some p28), (.call (.fn 116) [q27]), none, [⟨none, .cells 8 q4, p29⟩]⟩ .v, .o ⟨none, (.e (.stores 5 q2 q28)), none, [⟨none, .cells 8 q4, p29⟩]⟩ .v, .ss 8 q3 q29])) (.s .ret))
def c81_e : XC := (.sO [.al p1 (.box q0), .al p2 (.new [.nils, (kI 0), (kI 0), (kI 0), (kI 0)]), .al p3 (.new [(kI 0), (.str []), (.str []), (.int .u32 (.ofNat 0)), (.int .u64 (.ofNat 0)), .nils, (kI 0), (kI 0)])] (.sO [.L p7 (.cells 5 q1) .v, .cl p8 115 [q7] .v, .cl p9 114 [q8, (ci 0)] .v, .mv p6 q9 .v, .P p10 (.ext q6 0) .v, .P p11 (.ext q6 1) .v, .al p4 (.new [(kI 0), (.str []), (.str []), (.int .u32 (.ofNat 0)), (.int .u64 (.ofNat 0)), .nils, (kI 0), (kI 0)]), .ss 5 q1 q10, .ss 8 q4 q11] (.sj v81_0 (.sO [.L p12 (.cells 5 q1) .v, .cl p13 73 [q12, (.c (.str [61]))] .b] (.cond q13 (.sO [.P p14 (.build [(kI 0), (.str []), (.str []), (.int .u32 (.ofNat 0)), (.int .u64 (.ofNat 0)), .nils, (kI 0), (kI 0)] []) .v, .al p5 (.new [(kI 0), (.str []), (.str []), (.int .u32 (.ofNat 0)), (.int .u64 (.ofNat 0)), .nils, (kI 0), (kI 0)]), .ss 8 q5 q14] (.sO [.L p16 (.cells 5 q1) .v, .cl p17 74 [q16] .v, .cl p18 81 [q17] .v, .mv p15 q18 .v, .P p19 (.ext q15 0) .v, .P p20 (.ext q15 1) .v, .ss 5 q1 q19, .ss 8 q5 q20] (.s (.oX [.L p21 (.cells 8 q4) .v, .L p22 (.cells 8 q5) .v, .al p23 (.bsl [(kI 0), (.str []), (.str []), (.int .u32 (.ofNat 0)), (.int .u64 (.ofNat 0)), .nils, (kI 0), (kI 0), (kI 0), (.str []), (.str []), (.int .u32 (.ofNat 0)), (.int .u64 (.ofNat 0)), .nils, (kI 0), (kI 0)] 2 [⟨0, 8, q21⟩, ⟨8, 8, q22⟩]), .fa p24 7 q4, .ld p25 q24 tI, .P p26 (.build [(kI 0), (.str []), (.str []), (.int .u32 (.ofNat 0)), (.int .u64 (.ofNat 0)), .nils, (kI 0), (kI 0)] [⟨0, 1, (ci 6)⟩, ⟨5, 1, q23⟩, ⟨7, 1, q25⟩]) .v, .ss 8 q4 q26])))) (.s .skip))) c81_0)))
def x81 : XFn := ⟨[.v], false, [(.cells 5 p2), (.cells 8 p3)], c81_e⟩
def e81_0 (k t1 t2 t3 t4 h) := kN k [(p1, t1), (p2, t2), (p3, t3), (p4, t4)] h
def S81_0 (D : CallD) (m : Nat) (t1 t2 t3 t4 : AV) (h : HP) : Res2 :=
 cellsC 5 t1 h fun t27 =>
 cellsC 8 t4 h fun t29 =>
 cal D 116 [t27] h fun t28 h10 =>
 br (again [⟨none, .cells 8 q4, p29⟩] (mkT [(p29, t29), (p4, t4)]) h10) (
 stsC 5 t2 t28 h10 fun h11 =>
 br (againE (.stores 5 q2 q28) [⟨none, .cells 8 q4, p29⟩] (mkT [(p2, t2), (p29, t29), (p4, t4)]) h11) (
 stsC 8 t3 t29 h11 fun h12 =>
 cellsC 5 t2 h12 fun t2a =>
 cellsC 8 t3 h12 fun t3a =>
 some (.ret (.tup [t2a, t3a]) h12, .no)) none) none
def e81_1 (k t0 h) := kN k [(p0, t0)] h
def S81_1 (D : CallD) (m : Nat) (t0 : AV) (h : HP) : Res2 :=
 let t1 := P0 h
 let h2 := HP.newQ h (.cells true (AV.cells t0))
 let t2 := P0 h2
 let h3 := nQ h2 [.nils, (kI 0), (kI 0), (kI 0), (kI 0)]
 let t3 := P0 h3
 let h4 := nQ h3 [(kI 0), (.str []), (.str []), (.int .u32 (.ofNat 0)), (.int .u64 (.ofNat 0)), .nils, (kI 0), (kI 0)]
 cellsC 5 t1 h4 fun t7 =>
 cal D 115 [t7] h4 fun t8 h5 =>
 cal D 114 [t8, (kI 0)] h5 fun t9 h6 =>
 extC t9 0 fun t10 =>
 extC t9 1 fun t11 =>
 let t4 := P0 h6
 let h7 := nQ h6 [(kI 0), (.str []), (.str []), (.int .u32 (.ofNat 0)), (.int .u64 (.ofNat 0)), .nils, (kI 0), (kI 0)]
 stsC 5 t1 t10 h7 fun h8 =>
 stsC 8 t4 t11 h8 fun h9 =>
 cellsC 5 t1 h9 fun t12 =>
 cal D 73 [t12, (vS ([61] : LN))] h9 fun t13 h13 =>
 asB t13 fun t13a =>
 br t13a (
 let t14 := (AV.agg [(kI 0), (vS ([] : LN)), (vS ([] : LN)), (vW (Int.ofNat 0)), (AV.int .u64 (Int.ofNat 0)), (.nils : AV), (kI 0), (kI 0)])
 let t5 := P0 h13
 let h14 := nQ h13 [(kI 0), (.str []), (.str []), (.int .u32 (.ofNat 0)), (.int .u64 (.ofNat 0)), .nils, (kI 0), (kI 0)]
 stsC 8 t5 t14 h14 fun h15 =>
 cellsC 5 t1 h15 fun t16 =>
 cal D 74 [t16] h15 fun t17 h16 =>
 cal D 81 [t17] h16 fun t18 h17 =>
 extC t18 0 fun t19 =>
 extC t18 1 fun t20 =>
 stsC 5 t1 t19 h17 fun h18 =>
 stsC 8 t5 t20 h18 fun h19 =>
 cellsC 8 t4 h19 fun t21 =>
 cellsC 8 t5 h19 fun t22 =>
 obQ (evA (.bsl [(kI 0), (.str []), (.str []), (.int .u32 (.ofNat 0)), (.int .u64 (.ofNat 0)), .nils, (kI 0), (kI 0), (kI 0), (.str []), (.str []), (.int .u32 (.ofNat 0)), (.int .u64 (.ofNat 0)), .nils, (kI 0), (kI 0)] 2 [⟨0, 8, (.c t21)⟩, ⟨8, 8, (.c t22)⟩]) .leaf) fun r20 =>
 let t23 := vkV r20.2 (HP.nxQ h19)
 let h21 := HP.newQ h19 r20.1
 let t24 := (AV.ptr (HP.nxQ h6) (Nat.add 0 7))
 ldI t24 h21 fun t25 =>
 obQ (evP (.build [(kI 0), (.str []), (.str []), (.int .u32 (.ofNat 0)), (.int .u64 (.ofNat 0)), .nils, (kI 0), (kI 0)] [⟨0, 1, (.c (kI 6))⟩, ⟨5, 1, (.c t23)⟩, ⟨7, 1, (.c (vI t25))⟩]) .leaf) fun t26 =>
 stsC 8 t4 t26 h21 fun h22 =>
 S81_0 D m t1 t2 t3 t4 h22) (
 S81_0 D m t1 t2 t3 t4 h13)
def S81 : SFn := fun D m args h u => nou u <| popV args fun t0 args => endA args (S81_1 D m t0 h)
theorem T81_0 (hE : FX x81 D m E) : S81_0 D m = e81_0 (E c81_0 []) := by unfold S81_0; rw [hE c81_0]; kernel_rfl
theorem T81_1 (hE : FX x81 D m E) : S81_1 D m = e81_1 (E c81_e []) := by unfold S81_1; rw [T81_0 hE, hE c81_e]; kernel_rfl
theorem X81 : XTie S81 x81 := X_of fun D m E hE args h u => by unfold S81; rw [T81_1 hE]; kernel_rfl
/- 82 -/
def c82_e : XC := (.sO [.al p3 (.box q0), .al p4 (.box q1), .al p6 (.new [.nils, (kI 0), (kI 0), (kI 0), (kI 0), (kI 0), (kI 0)])] (.seq (.ops true (XL.of [.al p7 (.bsl [] 0 []), .fa p8 0 q3, .ld p9 q8 .v, .L p11 (.cells 17 q4) .v, .mv p12 q2 .s, .fa p13 1 q3, .ld p14 q13 tI, .P p15 (.build [(.bool false), (.bool false), (.bool false), (.str []), (kI 0), (kI 0), .nils, (.bool false), .nils, (kI 0), .nils, .nils, (.str []), (kI 0), (kI 0), (kI 0), (kI 0), (.str []), (kI 0)] [⟨0, 17, q11⟩, ⟨17, 1, q12⟩, ⟨18, 1, q14⟩]) .v, .al p16 (.bsl [(.bool false), (.bool false), (.bool false), (.str []), (kI 0), (kI 0), .nils, (.bool false), .nils, (kI 0), .nils, .nils, (.str []), (kI 0), (kI 0), (kI 0), (kI 0), (.str []), (kI 0)] 1 [⟨0, 19, q15⟩]), .o ⟨(some p10), (.e (.app 19 224 q7 q9)), none, [⟨none, .cells 17 q4, p11⟩, ⟨none, .cell q13, p14⟩]⟩ .v, .o ⟨(some p17), (.e (.app 19 224 q10 q16)), none, []⟩ .v, .fa p18 0 q3, .st q18 q17])) (.sO [.L p19 (.cells 7 q3) .v, .ss 7 q6 q19] (.s .ret))))
def x82 : XFn := ⟨[.v, .v, .s], false, [(.cells 7 p6)], c82_e⟩
def e82_0 (k t0 t1 t2 h) := kN k [(p0, t0), (p1, t1), (p2, (vS t2))] h
def S82_0 (D : CallD) (m : Nat) (t0 t1 : AV) (t2 : LN) (h : HP) : Res2 :=
 let t3 := P0 h
 let h1 := HP.newQ h (.cells true (AV.cells t0))
 let t4 := P0 h1
 let h2 := HP.newQ h1 (.cells true (AV.cells t1))
 let t6 := P0 h2
 let h3 := nQ h2 [.nils, (kI 0), (kI 0), (kI 0), (kI 0), (kI 0), (kI 0)]
 let t7 := AV.slice (HP.nxQ h3) 0 0 (.exact 0)
 let h4 := nQ h3 []
 let t8 := (AV.ptr (HP.nxQ h) (Nat.add 0 0))
 cellC t8 h4 fun t9 =>
 cellsC 17 t4 h4 fun t11 =>
 let t13 := (AV.ptr (HP.nxQ h) (Nat.add 0 1))
 ldI t13 h4 fun t14 =>
 obQ (evP (.build [(.bool false), (.bool false), (.bool false), (.str []), (kI 0), (kI 0), .nils, (.bool false), .nils, (kI 0), .nils, .nils, (.str []), (kI 0), (kI 0), (kI 0), (kI 0), (.str []), (kI 0)] [⟨0, 17, (.c t11)⟩, ⟨17, 1, (.c (vS t2))⟩, ⟨18, 1, (.c (vI t14))⟩]) .leaf) fun t15 =>
 obQ (evA (.bsl [(.bool false), (.bool false), (.bool false), (.str []), (kI 0), (kI 0), .nils, (.bool false), .nils, (kI 0), .nils, .nils, (.str []), (kI 0), (kI 0), (kI 0), (kI 0), (.str []), (kI 0)] 1 [⟨0, 19, (.c t15)⟩]) .leaf) fun r5 =>
 let t16 := vkV r5.2 (HP.nxQ h4)
 let h6 := HP.newQ h4 r5.1
 eff (.app 19 224 (.c t7) (.c t9)) h6 fun t10 h7 =>
 br (againE (.app 19 224 q7 q9) [⟨none, .cells 17 q4, p11⟩, ⟨none, .cell q13, p14⟩] (mkT [(p14, (vI t14)), (p13, t13), (p11, t11), (p4, t4)]) h7) (
 eff (.app 19 224 (.c t10) (.c t16)) h7 fun t17 h8 =>
 let t18 := (AV.ptr (HP.nxQ h) (Nat.add 0 0))
 stoC t18 t17 h8 fun h9 =>
 cellsC 7 t3 h9 fun t19 =>
 stsC 7 t6 t19 h9 fun h10 =>
 cellsC 7 t6 h10 fun t6a =>
 some (.ret t6a h10, .no)) none
def S82 : SFn := fun D m args h u => nou u <| popV args fun t0 args => popV args fun t1 args => popS args fun t2 args => endA args (S82_0 D m t0 t1 t2 h)
theorem T82_0 (hE : FX x82 D m E) : S82_0 D m = e82_0 (E c82_e []) := by unfold S82_0; rw [hE c82_e]; kernel_rfl
theorem X82 : XTie S82 x82 := X_of fun D m E hE args h u => by unfold S82; rw [T82_0 hE]; kernel_rfl
/- 83 -/
def c83_e : XC := (.sO [.mv p2 (cb false) .b] (.sO [.mv p3 q0 .s, .bn p4 .eql q3 (.c (.str [112, 117, 116, 119])) .b, .mv p5 q4 .b, .ge p5 (XL.of [.G p5 false p6 (.mov q0) .s, .G p5 false p7 (.bin .eql q6 (.c (.str [112, 117, 116, 100]))) .b, .P p8 (.pick q5 (cb true) q7) .b]) p8 .b, .mv p9 q8 .b, .ge p9 (XL.of [.G p9 false p10 (.mov q0) .s, .G p9 false p11 (.bin .eql q10 (.c (.str [103, 101, 116, 119]))) .b, .P p12 (.pick q9 (cb true) q11) .b]) p12 .b, .mv p2 q12 .b] (.s .ret)))
def x83 : XFn := ⟨[.s], false, [(.tmp p2)], c83_e⟩
def e83_0 (k t0 h) := kN k [(p0, (vS t0))] h
def S83_0 (D : CallD) (m : Nat) (t0 : LN) (h : HP) : Res2 :=
 let t4 := eqL t0 ([112, 117, 116, 119] : LN)
 obB (brV t4 (
 some (vB true)) (
 let t7 := eqL t0 ([112, 117, 116, 100] : LN)
 some (vB t7))) fun t8 =>
 obB (brV t8 (
 some (vB true)) (
 let t11 := eqL t0 ([103, 101, 116, 119] : LN)
 some (vB t11))) fun t12 =>
 some (.ret (vB t12) h, .no)
def S83 : SFn := fun D m args h u => nou u <| popS args fun t0 args => endA args (S83_0 D m t0 h)
theorem T83_0 (hE : FX x83 D m E) : S83_0 D m = e83_0 (E c83_e []) := by unfold S83_0; rw [hE c83_e]; kernel_rfl
theorem X83 : XTie S83 x83 := X_of fun D m E hE args h u => by unfold S83; rw [T83_0 hE]; kernel_rfl
/- 84 -/
def c84_e : XC := (.sO [.mv p2 (cb false) .b] (.sO [.mv p3 q0 tI, .bn p4 .eql q3 (ci 1) .b, .mv p5 q4 .b, .ge p5 (XL.of [.G p5 false p6 (.mov q0) tI, .G p5 false p7 (.bin .eql q6 (ci 2)) .b, .P p8 (.pick q5 (cb true) q7) .b]) p8 .b, .mv p2 q8 .b] (.s .ret)))
def x84 : XFn := ⟨[tI], false, [(.tmp p2)], c84_e⟩
def e84_0 (k t0 h) := kN k [(p0, (vI t0))] h
def S84_0 (D : CallD) (m : Nat) (t0 : Int) (h : HP) : Res2 :=
 let t4 := eqQ t0 (Int.ofNat 1)
 obB (brV t4 (
 some (vB true)) (
 let t7 := eqQ t0 (Int.ofNat 2)
 some (vB t7))) fun t8 =>
 some (.ret (vB t8) h, .no)
def S84 : SFn := fun D m args h u => nou u <| popI .i64 args fun t0 args => endA args (S84_0 D m t0 h)
theorem T84_0 (hE : FX x84 D m E) : S84_0 D m = e84_0 (E c84_e []) := by unfold S84_0; rw [hE c84_e]; kernel_rfl
theorem X84 : XTie S84 x84 := X_of fun D m E hE args h u => by unfold S84; rw [T84_0 hE]; kernel_rfl
/- 85 -/
def c85_e : XC := (.sO [.al p1 (.box q0), .al p2 (.new [.nils, (kI 0), (kI 0), (kI 0), (kI 0), (kI 0), (kI 0)])] (.sO [.fa p3 1 q1, .ld p4 q3 tI, .bn p5 .add q4 (ci 1) tI, .fa p6 1 q1, .st q6 q5] (.sO [.L p7 (.cells 7 q1) .v, .ss 7 q2 q7] (.s .ret))))
def x85 : XFn := ⟨[.v], false, [(.cells 7 p2)], c85_e⟩
def e85_0 (k t0 h) := kN k [(p0, t0)] h
def S85_0 (D : CallD) (m : Nat) (t0 : AV) (h : HP) : Res2 :=
 let t1 := P0 h
 let h1 := HP.newQ h (.cells true (AV.cells t0))
 let t2 := P0 h1
 let h2 := nQ h1 [.nils, (kI 0), (kI 0), (kI 0), (kI 0), (kI 0), (kI 0)]
 let t3 := (AV.ptr (HP.nxQ h) (Nat.add 0 1))
 ldI t3 h2 fun t4 =>
 let t5 := wrQ .i64 (addQ t4 (Int.ofNat 1))
 let t6 := (AV.ptr (HP.nxQ h) (Nat.add 0 1))
 stoC t6 (vI t5) h2 fun h3 =>
 cellsC 7 t1 h3 fun t7 =>
 stsC 7 t2 t7 h3 fun h4 =>
 cellsC 7 t2 h4 fun t2a =>
 some (.ret t2a h4, .no)
def S85 : SFn := fun D m args h u => nou u <| popV args fun t0 args => endA args (S85_0 D m t0 h)
theorem T85_0 (hE : FX x85 D m E) : S85_0 D m = e85_0 (E c85_e []) := by unfold S85_0; rw [hE c85_e]; kernel_rfl
theorem X85 : XTie S85 x85 := X_of fun D m E hE args h u => by unfold S85; rw [T85_0 hE]; kernel_rfl
/- 86 -/
def v86_0 : List Pos := [p4]
def c86_0 : XC := (.sO [.P p29 (.build [(.bool false), (.bool false), (.bool false), (.str []), (kI 0), (kI 0), .nils, (.bool false), .nils, (kI 0), .nils, .nils, (.str []), (kI 0), (kI 0), (kI 0), (kI 0), (.str []), (kI 0)] []) .v, .ss 19 q4 q29, .mv p5 (cb false) .b] (.s .ret))
def v86_1 : List Pos := [p1, p2, p4, p6]
def c86_1b : XC := (.seq (.seq (.oX [.mv p11 q6 tI, .bn p12 .geq q11 (ci 0) .b]) (.cond q12 .skip (.exit 0))) (.seq (.block 1 (.seq (.oX [.fa p15 0 q2, .ld p16 q15 .v, .mv p17 q6 tI, .P p18 (.iaddr (.sl 19) q16 q17) .v, .fa p19 0 q18, .fa p20 3 q19, .ld p21 q20 .s, .mv p22 q1 .s, .bn p23 .eql q21 q22 .b]) (.cond q23 (.seq (.oX [.fa p24 0 q2, .ld p25 q24 .v, .mv p26 q6 tI, .P p27 (.iaddr (.sl 19) q25 q26) .v, .L p28 (.cells 19 q27) .v, .ss 19 q4 q28, .mv p5 (cb true) .b]) .ret) .skip))) (.s (.oX [.mv p13 q6 tI, .bn p14 .sub q13 (ci 1) tI, .mv p6 q14 tI]))))
def c86_e : XC := (.sO [.al p2 (.box q0), .al p4 (.new [(.bool false), (.bool false), (.bool false), (.str []), (kI 0), (kI 0), .nils, (.bool false), .nils, (kI 0), .nils, .nils, (.str []), (kI 0), (kI 0), (kI 0), (kI 0), (.str []), (kI 0)]), .mv p5 (cb false) .b] (.sj v86_0 (.sO [.fa p7 0 q2, .ld p8 q7 .v, .P p9 (.lenl q8) tI, .bn p10 .sub q9 (ci 1) tI, .mv p6 q10 tI] (.block 0 (.loop v86_1 c86_1b))) c86_0))
def x86 : XFn := ⟨[.v, .s], false, [(.cells 19 p4), (.tmp p5)], c86_e⟩
def e86_0 (k t4 h) := kN k [(p4, t4)] h
def S86_0 (D : CallD) (m : Nat) (t4 : AV) (h : HP) : Res2 :=
 let t29 := (AV.agg [(vB false), (vB false), (vB false), (vS ([] : LN)), (kI 0), (kI 0), (.nils : AV), (vB false), (.nils : AV), (kI 0), (.nils : AV), (.nils : AV), (vS ([] : LN)), (kI 0), (kI 0), (kI 0), (kI 0), (vS ([] : LN)), (kI 0)])
 stsC 19 t4 t29 h fun h5 =>
 cellsC 19 t4 h5 fun t4a =>
 some (.ret (.tup [t4a, (vB false)]) h5, .no)
def e86_1 (k t1 t2 t4 t6 h) := kN k [(p1, (vS t1)), (p2, t2), (p4, t4), (p6, (vI t6))] h
def S86_1b (D : CallD) (m : Nat) (g1 : LN → AV → AV → Int → HP → Res2) (t1 : LN) (t2 t4 : AV) (t6 : Int) (h : HP) : Res2 :=
 let t12 := leQ (Int.ofNat 0) t6
 br t12 (
 faC 0 t2 fun t15 =>
 cellC t15 h fun t16 =>
 iasC 19 t16 (vI t6) fun t18 =>
 faC 0 t18 fun t19 =>
 faC 3 t19 fun t20 =>
 ldS t20 h fun t21 =>
 let t23 := eqL t21 t1
 br t23 (
 faC 0 t2 fun t24 =>
 cellC t24 h fun t25 =>
 iasC 19 t25 (vI t6) fun t27 =>
 cellsC 19 t27 h fun t28 =>
 stsC 19 t4 t28 h fun h6 =>
 cellsC 19 t4 h6 fun t4a =>
 some (.ret (.tup [t4a, (vB true)]) h6, .no)) (
 let t14 := wrQ .i64 (t6 - (Int.ofNat 1))
 g1 t1 t2 t4 t14 h)) (
 S86_0 D m t4 h)
def S86_1 (D : CallD) (m : Nat) : LN → AV → AV → Int → HP → Res2 := nrec (fun _ _ _ _ _ => none) (fun _ g => S86_1b D m g) m
def e86_2 (k t0 t1 h) := kN k [(p0, t0), (p1, (vS t1))] h
def S86_2 (D : CallD) (m : Nat) (t0 : AV) (t1 : LN) (h : HP) : Res2 :=
 let t2 := P0 h
 let h3 := HP.newQ h (.cells true (AV.cells t0))
 let t4 := P0 h3
 let h4 := nQ h3 [(.bool false), (.bool false), (.bool false), (.str []), (kI 0), (kI 0), .nils, (.bool false), .nils, (kI 0), .nils, .nils, (.str []), (kI 0), (kI 0), (kI 0), (kI 0), (.str []), (kI 0)]
 let t7 := (AV.ptr (HP.nxQ h) (Nat.add 0 0))
 cellC t7 h4 fun t8 =>
 lenC t8 fun vt9 => asI .i64 vt9 fun t9 =>
 let t10 := wrQ .i64 (t9 - (Int.ofNat 1))
 S86_1 D m t1 t2 t4 t10 h4
def S86 : SFn := fun D m args h u => nou u <| popV args fun t0 args => popS args fun t1 args => endA args (S86_2 D m t0 t1 h)
theorem T86_0 (hE : FX x86 D m E) : S86_0 D m = e86_0 (E c86_0 []) := by unfold S86_0; rw [hE c86_0]; kernel_rfl
theorem T86_1b (hE : FX x86 D m E) (G1) : S86_1b D m (e86_1 G1) = e86_1 (E c86_1b [.lp v86_1 G1, .blk 0, .sj v86_0 c86_0]) := by unfold S86_1b; rw [T86_0 hE, hE c86_1b]; kernel_rfl
theorem T86_1 (hE : FX x86 D m E) : S86_1 D m = e86_1 (nrec (fun _ => none) (fun _ G1 st => E c86_1b [.lp v86_1 G1, .blk 0, .sj v86_0 c86_0] st) m) :=
  nrec_emb e86_1 (fun _ _ _ _ _ => none) (fun g => S86_1b D m g) (fun G1 st => E c86_1b [.lp v86_1 G1, .blk 0, .sj v86_0 c86_0] st) rfl (fun g => T86_1b hE g) m
theorem T86_2 (hE : FX x86 D m E) : S86_2 D m = e86_2 (E c86_e []) := by unfold S86_2; rw [T86_1 hE, hE c86_e]; kernel_rfl
theorem X86 : XTie S86 x86 := X_of fun D m E hE args h u => by unfold S86; rw [T86_2 hE]; kernel_rfl
/- 87 -/
def c87_e : XC := (.sO [.al p2 (.box q0), .al p3 (.box q1), .al p4 (.new [.nils, (kI 0), (kI 0), (kI 0), (kI 0), (kI 0), (kI 0)]), .mv p5 (.c (.str [])) .s] (.sO [.fa p7 3 q2, .ld p8 q7 tI, .cl p9 19 [q8] .s, .bn p10 .add (.c (.str [36])) q9 .s, .mv p6 q10 .s] (.sO [.fa p11 3 q2, .ld p12 q11 tI, .bn p13 .add q12 (ci 1) tI, .fa p14 3 q2, .st q14 q13] (.sO [.L p15 (.cells 7 q2) .v, .L p16 (.cells 17 q3) .v, .mv p17 q6 .s, .cl p18 82 [q15, q16, q17] .v, .mv p19 q6 .s, .ss 7 q4 q18, .mv p5 q19 .s] (.s .ret)))))
def x87 : XFn := ⟨[.v, .v], false, [(.cells 7 p4), (.tmp p5)], c87_e⟩
def e87_0 (k t0 t1 h) := kN k [(p0, t0), (p1, t1)] h
def S87_0 (D : CallD) (m : Nat) (t0 t1 : AV) (h : HP) : Res2 :=
 let t2 := P0 h
 let h1 := HP.newQ h (.cells true (AV.cells t0))
 let t3 := P0 h1
 let h2 := HP.newQ h1 (.cells true (AV.cells t1))
 let t4 := P0 h2
 let h3 := nQ h2 [.nils, (kI 0), (kI 0), (kI 0), (kI 0), (kI 0), (kI 0)]
 let t7 := (AV.ptr (HP.nxQ h) (Nat.add 0 3))
 ldI t7 h3 fun t8 =>
 cal D 19 [(vI t8)] h3 fun t9 h4 =>
 asS t9 fun t9a =>
 obS (strBin .add ([36] : LN) t9a) fun t10 =>
 let t11 := (AV.ptr (HP.nxQ h) (Nat.add 0 3))
 ldI t11 h4 fun t12 =>
 let t13 := wrQ .i64 (addQ t12 (Int.ofNat 1))
 let t14 := (AV.ptr (HP.nxQ h) (Nat.add 0 3))
 stoC t14 (vI t13) h4 fun h5 =>
 cellsC 7 t2 h5 fun t15 =>
 cellsC 17 t3 h5 fun t16 =>
 cal D 82 [t15, t16, (vS t10)] h5 fun t18 h6 =>
 stsC 7 t4 t18 h6 fun h7 =>
 cellsC 7 t4 h7 fun t4a =>
 some (.ret (.tup [t4a, (vS t10)]) h7, .no)
def S87 : SFn := fun D m args h u => nou u <| popV args fun t0 args => popV args fun t1 args => endA args (S87_0 D m t0 t1 h)
theorem T87_0 (hE : FX x87 D m E) : S87_0 D m = e87_0 (E c87_e []) := by unfold S87_0; rw [hE c87_e]; kernel_rfl
theorem X87 : XTie S87 x87 := X_of fun D m E hE args h u => by unfold S87; rw [T87_0 hE]; kernel_rfl
/- 88 -/
def v88_0 : List Pos := [p4, p5, p8, p9]
def c88_0 : XC := (.seq (.ops true (XL.of [.L p28 (.cells 7 q4) .v, .L p29 (.cells 8 q5) .v, .o ⟨none, (.e (.stores 7 q8 q28)), none, [⟨none, .cells 8 q5, p29⟩]⟩ .v, .ss 8 q9 q29])) (.s .ret))
def c88_e : XC := (.sO [.al p4 (.box q0), .al p5 (.box q1), .al p8 (.new [.nils, (kI 0), (kI 0), (kI 0), (kI 0), (kI 0), (kI 0)]), .al p9 (.new [(kI 0), (.str []), (.str []), (.int .u32 (.ofNat 0)), (.int .u64 (.ofNat 0)), .nils, (kI 0), (kI 0)])] (.sO [.L p12 (.cells 7 q4) .v, .L p13 (.cells 8 q5) .v, .cl p14 117 [q12, q13] .v, .mv p11 q14 .v, .P p15 (.ext q11 0) .v, .P p16 (.ext q11 1) .v, .ss 7 q4 q15, .ss 8 q5 q16] (.sO [.L p18 (.cells 8 q5) .v, .mv p19 q2 tI, .cl p20 118 [q18, q19] .v, .mv p17 q20 .v, .P p21 (.ext q17 0) .v, .P p22 (.ext q17 1) .b, .ss 8 q5 q21, .mv p10 q22 .b] (.sj v88_0 (.sO [.mv p23 q10 .b, .P p24 (.un .not q23) .b] (.cond q24 (.s (.oX [.L p25 (.cells 7 q4) .v, .mv p26 q3 tI, .cl p27 54 [q25, (ci 14), q26] .v, .ss 7 q4 q27])) (.s .skip))) c88_0))))
def x88 : XFn := ⟨[.v, .v, tI, tI], false, [(.cells 7 p8), (.cells 8 p9)], c88_e⟩
def e88_0 (k t4 t5 t8 t9 h) := kN k [(p4, t4), (p5, t5), (p8, t8), (p9, t9)] h
def S88_0 (D : CallD) (m : Nat) (t4 t5 t8 t9 : AV) (h : HP) : Res2 :=
 cellsC 7 t4 h fun t28 =>
 cellsC 8 t5 h fun t29 =>
 stsC 7 t8 t28 h fun h11 =>
 br (againE (.stores 7 q8 q28) [⟨none, .cells 8 q5, p29⟩] (mkT [(p8, t8), (p29, t29), (p5, t5)]) h11) (
 stsC 8 t9 t29 h11 fun h12 =>
 cellsC 7 t8 h12 fun t8a =>
 cellsC 8 t9 h12 fun t9a =>
 some (.ret (.tup [t8a, t9a]) h12, .no)) none
def e88_1 (k t0 t1 t2 t3 h) := kN k [(p0, t0), (p1, t1), (p2, (vI t2)), (p3, (vI t3))] h
def S88_1 (D : CallD) (m : Nat) (t0 t1 : AV) (t2 t3 : Int) (h : HP) : Res2 :=
 let t4 := P0 h
 let h2 := HP.newQ h (.cells true (AV.cells t0))
 let t5 := P0 h2
 let h3 := HP.newQ h2 (.cells true (AV.cells t1))
 let t8 := P0 h3
 let h4 := nQ h3 [.nils, (kI 0), (kI 0), (kI 0), (kI 0), (kI 0), (kI 0)]
 let t9 := P0 h4
 let h5 := nQ h4 [(kI 0), (.str []), (.str []), (.int .u32 (.ofNat 0)), (.int .u64 (.ofNat 0)), .nils, (kI 0), (kI 0)]
 cellsC 7 t4 h5 fun t12 =>
 cellsC 8 t5 h5 fun t13 =>
 cal D 117 [t12, t13] h5 fun t14 h6 =>
 extC t14 0 fun t15 =>
 extC t14 1 fun t16 =>
 stsC 7 t4 t15 h6 fun h7 =>
 stsC 8 t5 t16 h7 fun h8 =>
 cellsC 8 t5 h8 fun t18 =>
 cal D 118 [t18, (vI t2)] h8 fun t20 h9 =>
 extC t20 0 fun t21 =>
 extC t20 1 fun vt22 => asB vt22 fun t22 =>
 stsC 8 t5 t21 h9 fun h10 =>
 let t24 := !t22
 br t24 (
 cellsC 7 t4 h10 fun t25 =>
 cal D 54 [t25, (kI 14), (vI t3)] h10 fun t27 h13 =>
 stsC 7 t4 t27 h13 fun h14 =>
 S88_0 D m t4 t5 t8 t9 h14) (
 S88_0 D m t4 t5 t8 t9 h10)
def S88 : SFn := fun D m args h u => nou u <| popV args fun t0 args => popV args fun t1 args => popI .i64 args fun t2 args => popI .i64 args fun t3 args => endA args (S88_1 D m t0 t1 t2 t3 h)
theorem T88_0 (hE : FX x88 D m E) : S88_0 D m = e88_0 (E c88_0 []) := by unfold S88_0; rw [hE c88_0]; kernel_rfl
theorem T88_1 (hE : FX x88 D m E) : S88_1 D m = e88_1 (E c88_e []) := by unfold S88_1; rw [T88_0 hE, hE c88_e]; kernel_rfl
theorem X88 : XTie S88 x88 := X_of fun D m E hE args h u => by unfold S88; rw [T88_1 hE]; kernel_rfl
/- 89 -/
def v89_0 : List Pos := [p2, p4, p6]
def c89_0 : XC := (.sO [.L p29 (.cells 7 q2) .v, .mv p30 q6 .v, .ss 7 q4 q29, .mv p5 q30 .v] (.s .ret))
def v89_1 : List Pos := [p1, p2, p4, p6, p10, p11]
def c89_1b : XC := (.sO [.bn p12 .lss q11 q10 .b] (.seq (.cond q12 .skip (.exit 0)) (.seq (.block 1 (.seq (.oX [.mv p13 q11 tI, .mv p7 q13 tI]) (.seq (.oX [.P p14 (.build [(kI 0), .nils, .nils, (.str []), (kI 0), (kI 0), (kI 0)] []) .v, .al p8 (.new [(kI 0), .nils, .nils, (.str []), (kI 0), (kI 0), (kI 0)]), .ss 7 q8 q14]) (.seq (.ops true (XL.of [.L p16 (.cells 7 q2) .v, .mv p17 q1 .v, .mv p18 q7 tI, .P p19 (.iaddr (.sl 7) q17 q18) .v, .L p20 (.cells 7 q19) .v, .cl p21 119 [q16, q20] .v, .mv p15 q21 .v, .P p22 (.ext q15 0) .v, .P p23 (.ext q15 1) .v, .ss 7 q2 q22, .ss 7 q8 q23])) (.oX [.mv p24 q6 .v, .L p25 (.cells 7 q8) .v, .al p26 (.bsl [(kI 0), .nils, .nils, (.str []), (kI 0), (kI 0), (kI 0)] 1 [⟨0, 7, q25⟩]), .o ⟨(some p27), (.e (.app 7 96 q24 q26)), none, []⟩ .v, .mv p6 q27 .v]))))) (.s (.oX [.bn p28 .add q11 (ci 1) tI, .mv p11 q28 tI])))))
def c89_e : XC := (.sO [.al p2 (.box q0), .al p4 (.new [.nils, (kI 0), (kI 0), (kI 0), (kI 0), (kI 0), (kI 0)]), .mv p5 (.c .nils) .v] (.sO [.mv p6 (.c .nils) .v] (.sj v89_0 (.sO [.mv p9 q1 .v, .P p10 (.lenl q9) tI, .mv p11 (ci 0) tI] (.block 0 (.loop v89_1 c89_1b))) c89_0)))
def x89 : XFn := ⟨[.v, .v], false, [(.cells 7 p4), (.tmp p5)], c89_e⟩
def e89_0 (k t2 t4 t6 h) := kN k [(p2, t2), (p4, t4), (p6, t6)] h
def S89_0 (D : CallD) (m : Nat) (t2 t4 t6 : AV) (h : HP) : Res2 :=
 cellsC 7 t2 h fun t29 =>
 stsC 7 t4 t29 h fun h5 =>
 cellsC 7 t4 h5 fun t4a =>
 some (.ret (.tup [t4a, t6]) h5, .no)
def e89_1 (k t1 t2 t4 t6 t10 t11 h) := kN k [(p1, t1), (p2, t2), (p4, t4), (p6, t6), (p10, (vI t10)), (p11, (vI t11))] h
def S89_1b (D : CallD) (m : Nat) (g1 : AV → AV → AV → AV → Int → Int → HP → Res2) (t1 t2 t4 t6 : AV) (t10 t11 : Int) (h : HP) : Res2 :=
 let t12 := ltQ t11 t10
 br t12 (
 let t14 := (AV.agg [(kI 0), (.nils : AV), (.nils : AV), (vS ([] : LN)), (kI 0), (kI 0), (kI 0)])
 let t8 := P0 h
 let h6 := nQ h [(kI 0), .nils, .nils, (.str []), (kI 0), (kI 0), (kI 0)]
 stsC 7 t8 t14 h6 fun h7 =>
 cellsC 7 t2 h7 fun t16 =>
 iasC 7 t1 (vI t11) fun t19 =>
 cellsC 7 t19 h7 fun t20 =>
 cal D 119 [t16, t20] h7 fun t21 h8 =>
 extC t21 0 fun t22 =>
 extC t21 1 fun t23 =>
 stsC 7 t2 t22 h8 fun h9 =>
 stsC 7 t8 t23 h9 fun h10 =>
 cellsC 7 t8 h10 fun t25 =>
 obQ (evA (.bsl [(kI 0), .nils, .nils, (.str []), (kI 0), (kI 0), (kI 0)] 1 [⟨0, 7, (.c t25)⟩]) .leaf) fun r11 =>
 let t26 := vkV r11.2 (HP.nxQ h10)
 let h12 := HP.newQ h10 r11.1
 eff (.app 7 96 (.c t6) (.c t26)) h12 fun t27 h13 =>
 let t28 := wrQ .i64 (addQ t11 (Int.ofNat 1))
 g1 t1 t2 t4 t27 t10 t28 h13) (
 S89_0 D m t2 t4 t6 h)
def S89_1 (D : CallD) (m : Nat) : AV → AV → AV → AV → Int → Int → HP → Res2 := nrec (fun _ _ _ _ _ _ _ => none) (fun _ g => S89_1b D m g) m
def e89_2 (k t0 t1 h) := kN k [(p0, t0), (p1, t1)] h
def S89_2 (D : CallD) (m : Nat) (t0 t1 : AV) (h : HP) : Res2 :=
 let t2 := P0 h
 let h3 := HP.newQ h (.cells true (AV.cells t0))
 let t4 := P0 h3
 let h4 := nQ h3 [.nils, (kI 0), (kI 0), (kI 0), (kI 0), (kI 0), (kI 0)]
 lenC t1 fun vt10 => asI .i64 vt10 fun t10 =>
 S89_1 D m t1 t2 t4 (.nils : AV) t10 (Int.ofNat 0) h4
def S89 : SFn := fun D m args h u => nou u <| popV args fun t0 args => popV args fun t1 args => endA args (S89_2 D m t0 t1 h)
theorem T89_0 (hE : FX x89 D m E) : S89_0 D m = e89_0 (E c89_0 []) := by unfold S89_0; rw [hE c89_0]; kernel_rfl
theorem T89_1b (hE : FX x89 D m E) (G1) : S89_1b D m (e89_1 G1) = e89_1 (E c89_1b [.lp v89_1 G1, .blk 0, .sj v89_0 c89_0]) := by unfold S89_1b; rw [T89_0 hE, hE c89_1b]; kernel_rfl
theorem T89_1 (hE : FX x89 D m E) : S89_1 D m = e89_1 (nrec (fun _ => none) (fun _ G1 st => E c89_1b [.lp v89_1 G1, .blk 0, .sj v89_0 c89_0] st) m) :=
  nrec_emb e89_1 (fun _ _ _ _ _ _ _ => none) (fun g => S89_1b D m g) (fun G1 st => E c89_1b [.lp v89_1 G1, .blk 0, .sj v89_0 c89_0] st) rfl (fun g => T89_1b hE g) m
theorem T89_2 (hE : FX x89 D m E) : S89_2 D m = e89_2 (E c89_e []) := by unfold S89_2; rw [T89_1 hE, hE c89_e]; kernel_rfl
theorem X89 : XTie S89 x89 := X_of fun D m E hE args h u => by unfold S89; rw [T89_2 hE]; kernel_rfl
/- 90 -/
def v90_0 : List Pos := [p1, p2, p3]
def c90_0 : XC := (.sO [.mv p29 q3 .v, .fa p30 0 q1, .st q30 q29] (.sO [.fa p31 1 q1, .ld p32 q31 tI, .bn p33 .sub q32 (ci 1) tI, .fa p34 1 q1, .st q34 q33] (.sO [.L p35 (.cells 7 q1) .v, .ss 7 q2 q35] (.s .ret))))
def v90_2 : List Pos := [p1, p2, p3, p7, p8]
def c90_2 : XC := (.s (.oX [.bn p28 .add q8 (ci 1) tI, .mv p8 q28 tI]))
def v90_1 : List Pos := [p1, p2, p3, p7, p8]
def c90_1b : XC := (.sO [.bn p9 .lss q8 q7 .b] (.seq (.cond q9 .skip (.exit 0)) (.sj v90_2 (.block 1 (.sO [.mv p10 q8 tI, .mv p4 q10 tI] (.seq (.ops true (XL.of [.fa p11 0 q1, .ld p12 q11 .v, .mv p13 q4 tI, .P p14 (.iaddr (.sl 19) q12 q13) .v, .fa p15 18 q14, .ld p16 q15 tI, .fa p17 1 q1, .ld p18 q17 tI, .bn p19 .lss q16 q18 .b])) (.cond q19 (.s (.oX [.mv p20 q3 .v, .fa p21 0 q1, .ld p22 q21 .v, .mv p23 q4 tI, .P p24 (.iaddr (.sl 19) q22 q23) .v, .L p25 (.cells 19 q24) .v, .al p26 (.bsl [(.bool false), (.bool false), (.bool false), (.str []), (kI 0), (kI 0), .nils, (.bool false), .nils, (kI 0), .nils, .nils, (.str []), (kI 0), (kI 0), (kI 0), (kI 0), (.str []), (kI 0)] 1 [⟨0, 19, q25⟩]), .o ⟨(some p27), (.e (.app 19 224 q20 q26)), none, []⟩ .v, .mv p3 q27 .v])) (.s .skip))))) c90_2)))
def c90_e : XC := (.sO [.al p1 (.box q0), .al p2 (.new [.nils, (kI 0), (kI 0), (kI 0), (kI 0), (kI 0), (kI 0)])] (.sO [.mv p3 (.c .nils) .v] (.sj v90_0 (.sO [.fa p5 0 q1, .ld p6 q5 .v, .P p7 (.lenl q6) tI, .mv p8 (ci 0) tI] (.block 0 (.loop v90_1 c90_1b))) c90_0)))
def x90 : XFn := ⟨[.v], false, [(.cells 7 p2)], c90_e⟩
def e90_0 (k t1 t2 t3 h) := kN k [(p1, t1), (p2, t2), (p3, t3)] h
def S90_0 (D : CallD) (m : Nat) (t1 t2 t3 : AV) (h : HP) : Res2 :=
 faC 0 t1 fun t30 =>
 stoC t30 t3 h fun h6 =>
 faC 1 t1 fun t31 =>
 ldI t31 h6 fun t32 =>
 let t33 := wrQ .i64 (t32 - (Int.ofNat 1))
 faC 1 t1 fun t34 =>
 stoC t34 (vI t33) h6 fun h7 =>
 cellsC 7 t1 h7 fun t35 =>
 stsC 7 t2 t35 h7 fun h8 =>
 cellsC 7 t2 h8 fun t2a =>
 some (.ret t2a h8, .no)
def e90_2 (k t1 t2 t3 t7 t8 h) := kN k [(p1, t1), (p2, t2), (p3, t3), (p7, (vI t7)), (p8, (vI t8))] h
def S90_2 (D : CallD) (m : Nat) (g1 : AV → AV → AV → Int → Int → HP → Res2) (t1 t2 t3 : AV) (t7 t8 : Int) (h : HP) : Res2 :=
 let t28 := wrQ .i64 (addQ t8 (Int.ofNat 1))
 g1 t1 t2 t3 t7 t28 h
def e90_1 (k t1 t2 t3 t7 t8 h) := kN k [(p1, t1), (p2, t2), (p3, t3), (p7, (vI t7)), (p8, (vI t8))] h
def S90_1b (D : CallD) (m : Nat) (g1 : AV → AV → AV → Int → Int → HP → Res2) (t1 t2 t3 : AV) (t7 t8 : Int) (h : HP) : Res2 :=
 let t9 := ltQ t8 t7
 br t9 (
 faC 0 t1 fun t11 =>
 cellC t11 h fun t12 =>
 iasC 19 t12 (vI t8) fun t14 =>
 faC 18 t14 fun t15 =>
 ldI t15 h fun t16 =>
 faC 1 t1 fun t17 =>
 ldI t17 h fun t18 =>
 let t19 := ltQ t16 t18
 br t19 (
 faC 0 t1 fun t21 =>
 cellC t21 h fun t22 =>
 iasC 19 t22 (vI t8) fun t24 =>
 cellsC 19 t24 h fun t25 =>
 obQ (evA (.bsl [(.bool false), (.bool false), (.bool false), (.str []), (kI 0), (kI 0), .nils, (.bool false), .nils, (kI 0), .nils, .nils, (.str []), (kI 0), (kI 0), (kI 0), (kI 0), (.str []), (kI 0)] 1 [⟨0, 19, (.c t25)⟩]) .leaf) fun r9 =>
 let t26 := vkV r9.2 (HP.nxQ h)
 let h10 := HP.newQ h r9.1
 eff (.app 19 224 (.c t3) (.c t26)) h10 fun t27 h11 =>
 S90_2 D m g1 t1 t2 t27 t7 t8 h11) (
 S90_2 D m g1 t1 t2 t3 t7 t8 h)) (
 S90_0 D m t1 t2 t3 h)
def S90_1 (D : CallD) (m : Nat) : AV → AV → AV → Int → Int → HP → Res2 := nrec (fun _ _ _ _ _ _ => none) (fun _ g => S90_1b D m g) m
def e90_3 (k t0 h) := kN k [(p0, t0)] h
def S90_3 (D : CallD) (m : Nat) (t0 : AV) (h : HP) : Res2 :=
 let t1 := P0 h
 let h4 := HP.newQ h (.cells true (AV.cells t0))
 let t2 := P0 h4
 let h5 := nQ h4 [.nils, (kI 0), (kI 0), (kI 0), (kI 0), (kI 0), (kI 0)]
 let t5 := (AV.ptr (HP.nxQ h) (Nat.add 0 0))
 cellC t5 h5 fun t6 =>
 lenC t6 fun vt7 => asI .i64 vt7 fun t7 =>
 S90_1 D m t1 t2 (.nils : AV) t7 (Int.ofNat 0) h5
def S90 : SFn := fun D m args h u => nou u <| popV args fun t0 args => endA args (S90_3 D m t0 h)
theorem T90_0 (hE : FX x90 D m E) : S90_0 D m = e90_0 (E c90_0 []) := by unfold S90_0; rw [hE c90_0]; kernel_rfl
theorem T90_2 (hE : FX x90 D m E) (G1) : S90_2 D m (e90_1 G1) = e90_2 (E c90_2 [.lp v90_1 G1, .blk 0, .sj v90_0 c90_0]) := by unfold S90_2; rw [hE c90_2]; kernel_rfl
theorem T90_1b (hE : FX x90 D m E) (G1) : S90_1b D m (e90_1 G1) = e90_1 (E c90_1b [.lp v90_1 G1, .blk 0, .sj v90_0 c90_0]) := by unfold S90_1b; rw [T90_2 hE G1, T90_0 hE, hE c90_1b]; kernel_rfl
theorem T90_1 (hE : FX x90 D m E) : S90_1 D m = e90_1 (nrec (fun _ => none) (fun _ G1 st => E c90_1b [.lp v90_1 G1, .blk 0, .sj v90_0 c90_0] st) m) :=
  nrec_emb e90_1 (fun _ _ _ _ _ _ => none) (fun g => S90_1b D m g) (fun G1 st => E c90_1b [.lp v90_1 G1, .blk 0, .sj v90_0 c90_0] st) rfl (fun g => T90_1b hE g) m
theorem T90_3 (hE : FX x90 D m E) : S90_3 D m = e90_3 (E c90_e []) := by unfold S90_3; rw [T90_1 hE, hE c90_e]; kernel_rfl
theorem X90 : XTie S90 x90 := X_of fun D m E hE args h u => by unfold S90; rw [T90_3 hE]; kernel_rfl
/- 91 -/
def v91_1 : List Pos := [p5]
def c91_1 : XC := (.sO [.mv p48 q5 .v, .mv p4 q48 .v] (.s .ret))
def v91_0 : List Pos := [p1, p5, p6]
def c91_0 : XC := (.sj v91_1 (.sO [.mv p42 q6 .b, .P p43 (.un .not q42) .b] (.cond q43 (.s (.oX [.mv p44 q5 .v, .mv p45 q1 .s, .al p46 (.bsl [(.str [])] 1 [⟨0, 1, q45⟩]), .o ⟨(some p47), (.e (.app 1 16 q44 q46)), none, []⟩ .v, .mv p5 q47 .v])) (.s .skip))) c91_1)
def v91_3 : List Pos := [p0, p1, p5, p6, p9, p10]
def c91_3 : XC := (.s (.oX [.bn p41 .add q10 (ci 1) tI, .mv p10 q41 tI]))
def v91_4 : List Pos := [p0, p1, p5, p6, p7, p9, p10]
def c91_4 : XC := (.s (.oX [.mv p34 q5 .v, .mv p35 q0 .v, .mv p36 q7 tI, .P p37 (.iaddr (.sl 1) q35 q36) .v, .ld p38 q37 .s, .al p39 (.bsl [(.str [])] 1 [⟨0, 1, q38⟩]), .o ⟨(some p40), (.e (.app 1 16 q34 q39)), none, []⟩ .v, .mv p5 q40 .v]))
def v91_2 : List Pos := [p0, p1, p5, p6, p9, p10]
def c91_2b : XC := (.sO [.bn p11 .lss q10 q9 .b] (.seq (.cond q11 .skip (.exit 0)) (.sj v91_3 (.block 1 (.sO [.mv p12 q10 tI, .mv p7 q12 tI] (.seq (.seq (.oX [.mv p13 q0 .v, .mv p14 q7 tI, .P p15 (.iaddr (.sl 1) q13 q14) .v, .ld p16 q15 .s, .mv p17 q1 .s, .bn p18 .eql q16 q17 .b]) (.cond q18 (.seq (.oX [.mv p19 q0 .v, .mv p4 q19 .v]) .ret) .skip)) (.sj v91_4 (.sO [.mv p20 q6 .b, .P p21 (.un .not q20) .b, .mv p22 q21 .b, .ge p22 (XL.of [.G p22 true p23 (.mov q1) .s, .G p22 true p24 (.mov q0) .v, .G p22 true p25 (.mov q7) tI, .G p22 true p26 (.iaddr (.sl 1) q24 q25) .v, .o ⟨(some p27), (.l (.cell q26)), (some (p22, true)), []⟩ .s, .G p22 true p28 (.bin .lss q23 q27) .b, .P p29 (.pick q22 q28 (cb false)) .b]) p29 .b] (.cond q29 (.sO [.mv p30 q5 .v, .mv p31 q1 .s, .al p32 (.bsl [(.str [])] 1 [⟨0, 1, q31⟩]), .o ⟨(some p33), (.e (.app 1 16 q30 q32)), none, []⟩ .v, .mv p5 q33 .v] (.s (.oX [.mv p6 (cb true) .b]))) (.s .skip))) c91_4)))) c91_3)))
def c91_e : XC := (.sO [.mv p4 (.c .nils) .v] (.sO [.mv p5 (.c .nils) .v] (.sO [.mv p6 (cb false) .b] (.sj v91_0 (.sO [.mv p8 q0 .v, .P p9 (.lenl q8) tI, .mv p10 (ci 0) tI] (.block 0 (.loop v91_2 c91_2b))) c91_0))))
def x91 : XFn := ⟨[.v, .s], false, [(.tmp p4)], c91_e⟩
def e91_1 (k t5 h) := kN k [(p5, t5)] h
def S91_1 (D : CallD) (m : Nat) (t5 : AV) (h : HP) : Res2 :=
 some (.ret t5 h, .no)
def e91_0 (k t1 t5 t6 h) := kN k [(p1, (vS t1)), (p5, t5), (p6, (vB t6))] h
def S91_0 (D : CallD) (m : Nat) (t1 : LN) (t5 : AV) (t6 : Bool) (h : HP) : Res2 :=
 let t43 := !t6
 br t43 (
 let t46 := AV.slice (HP.nxQ h) 0 1 (.exact 1)
 let h6 := nQ h [(vS t1)]
 eff (.app 1 16 (.c t5) (.c t46)) h6 fun t47 h7 =>
 S91_1 D m t47 h7) (
 S91_1 D m t5 h)
def e91_3 (k t0 t1 t5 t6 t9 t10 h) := kN k [(p0, t0), (p1, (vS t1)), (p5, t5), (p6, (vB t6)), (p9, (vI t9)), (p10, (vI t10))] h
def S91_3 (D : CallD) (m : Nat) (g2 : AV → LN → AV → Bool → Int → Int → HP → Res2) (t0 : AV) (t1 : LN) (t5 : AV) (t6 : Bool) (t9 t10 : Int) (h : HP) : Res2 :=
 let t41 := wrQ .i64 (addQ t10 (Int.ofNat 1))
 g2 t0 t1 t5 t6 t9 t41 h
def e91_4 (k t0 t1 t5 t6 t7 t9 t10 h) := kN k [(p0, t0), (p1, (vS t1)), (p5, t5), (p6, (vB t6)), (p7, (vI t7)), (p9, (vI t9)), (p10, (vI t10))] h
def S91_4 (D : CallD) (m : Nat) (g2 : AV → LN → AV → Bool → Int → Int → HP → Res2) (t0 : AV) (t1 : LN) (t5 : AV) (t6 : Bool) (t7 t9 t10 : Int) (h : HP) : Res2 :=
 iasC 1 t0 (vI t7) fun t37 =>
 ldS t37 h fun t38 =>
 let t39 := AV.slice (HP.nxQ h) 0 1 (.exact 1)
 let h8 := nQ h [(vS t38)]
 eff (.app 1 16 (.c t5) (.c t39)) h8 fun t40 h9 =>
 S91_3 D m g2 t0 t1 t40 t6 t9 t10 h9
def e91_2 (k t0 t1 t5 t6 t9 t10 h) := kN k [(p0, t0), (p1, (vS t1)), (p5, t5), (p6, (vB t6)), (p9, (vI t9)), (p10, (vI t10))] h
def S91_2b (D : CallD) (m : Nat) (g2 : AV → LN → AV → Bool → Int → Int → HP → Res2) (t0 : AV) (t1 : LN) (t5 : AV) (t6 : Bool) (t9 t10 : Int) (h : HP) : Res2 :=
 let t11 := ltQ t10 t9
 br t11 (
 iasC 1 t0 (vI t10) fun t15 =>
 ldS t15 h fun t16 =>
 let t18 := eqL t16 t1
 br t18 (
 some (.ret t0 h, .no)) (
 let t21 := !t6
 obB (brV t21 (
 iasCV 1 t0 (vI t10) fun t26 =>
 ldSV t26 h fun t27 =>
 obBV (strBin .lss t1 t27) fun t28 =>
 some (vB t28)) (
 some (vB false))) fun t29 =>
 br t29 (
 let t32 := AV.slice (HP.nxQ h) 0 1 (.exact 1)
 let h10 := nQ h [(vS t1)]
 eff (.app 1 16 (.c t5) (.c t32)) h10 fun t33 h11 =>
 S91_4 D m g2 t0 t1 t33 true t10 t9 t10 h11) (
 S91_4 D m g2 t0 t1 t5 t6 t10 t9 t10 h))) (
 S91_0 D m t1 t5 t6 h)
def S91_2 (D : CallD) (m : Nat) : AV → LN → AV → Bool → Int → Int → HP → Res2 := nrec (fun _ _ _ _ _ _ _ => none) (fun _ g => S91_2b D m g) m
def e91_5 (k t0 t1 h) := kN k [(p0, t0), (p1, (vS t1))] h
def S91_5 (D : CallD) (m : Nat) (t0 : AV) (t1 : LN) (h : HP) : Res2 :=
 lenC t0 fun vt9 => asI .i64 vt9 fun t9 =>
 S91_2 D m t0 t1 (.nils : AV) false t9 (Int.ofNat 0) h
def S91 : SFn := fun D m args h u => nou u <| popV args fun t0 args => popS args fun t1 args => endA args (S91_5 D m t0 t1 h)
theorem T91_1 (hE : FX x91 D m E) : S91_1 D m = e91_1 (E c91_1 []) := by unfold S91_1; rw [hE c91_1]; kernel_rfl
theorem T91_0 (hE : FX x91 D m E) : S91_0 D m = e91_0 (E c91_0 []) := by unfold S91_0; rw [T91_1 hE, hE c91_0]; kernel_rfl
theorem T91_3 (hE : FX x91 D m E) (G2) : S91_3 D m (e91_2 G2) = e91_3 (E c91_3 [.lp v91_2 G2, .blk 0, .sj v91_0 c91_0]) := by unfold S91_3; rw [hE c91_3]; kernel_rfl
theorem T91_4 (hE : FX x91 D m E) (G2) : S91_4 D m (e91_2 G2) = e91_4 (E c91_4 [.blk 1, .sj v91_3 c91_3, .lp v91_2 G2, .blk 0, .sj v91_0 c91_0]) := by unfold S91_4; rw [T91_3 hE G2, hE c91_4]; kernel_rfl
theorem T91_2b (hE : FX x91 D m E) (G2) : S91_2b D m (e91_2 G2) = e91_2 (E c91_2b [.lp v91_2 G2, .blk 0, .sj v91_0 c91_0]) := by unfold S91_2b; rw [T91_4 hE G2, T91_0 hE, hE c91_2b]; kernel_rfl
theorem T91_2 (hE : FX x91 D m E) : S91_2 D m = e91_2 (nrec (fun _ => none) (fun _ G2 st => E c91_2b [.lp v91_2 G2, .blk 0, .sj v91_0 c91_0] st) m) :=
  nrec_emb e91_2 (fun _ _ _ _ _ _ _ => none) (fun g => S91_2b D m g) (fun G2 st => E c91_2b [.lp v91_2 G2, .blk 0, .sj v91_0 c91_0] st) rfl (fun g => T91_2b hE g) m
theorem T91_5 (hE : FX x91 D m E) : S91_5 D m = e91_5 (E c91_e []) := by unfold S91_5; rw [T91_2 hE, hE c91_e]; kernel_rfl
theorem X91 : XTie S91 x91 := X_of fun D m E hE args h u => by unfold S91; rw [T91_5 hE]; kernel_rfl
/- 102 -/
def v102_2 : List Pos := [p7]
def c102_2 : XC := (.sO [.mv p47 q7 .v, .mv p4 q47 .v] (.s .ret))
def v102_3 : List Pos := [p7, p8]
def c102_3b : XC := (.seq (.seq (.oX [.mv p34 q8 tI, .mv p35 q7 .v, .P p36 (.lenl q35) tI, .bn p37 .lss q34 q36 .b]) (.cond q37 .skip (.exit 0))) (.block 1 (.s (.ops true (XL.of [.mv p38 q8 tI, .mv p39 q7 .v, .mv p40 q8 tI, .P p41 (.slice (.sl 7) q39 (some q40) none none) .v, .mv p42 q7 .v, .mv p43 q8 tI, .P p44 (.slice (.sl 7) q42 none (some q43) none) .v, .o ⟨(some p45), (.e (.copy 7 q41 q44)), none, []⟩ tI, .bn p46 .add q38 q45 tI, .mv p8 q46 tI])))))
def v102_1 : List Pos := [p0, p6]
def c102_1 : XC := (.sO [.mv p28 q6 (.i .u64), .P p29 (.conv (.ii .i64) q28) tI, .al p30 (.mksl [(kI 0), (.int .u32 (.ofNat 0)), (.int .u64 (.ofNat 0)), (.str []), (kI 0), .nilp, (kI 0)] 64 q29 q29), .mv p7 q30 .v] (.sO [.mv p31 q7 .v, .mv p32 q0 .v, .o ⟨(some p33), (.e (.copy 7 q31 q32)), none, []⟩ tI, .mv p8 q33 tI] (.sj v102_2 (.block 0 (.loop v102_3 c102_3b)) c102_2)))
def v102_0 : List Pos := [p0, p1]
def c102_0 : XC := (.sO [.mv p13 q0 .v, .P p14 (.lenl q13) tI, .P p15 (.conv (.ii .u64) q14) (.i .u64), .mv p16 q1 tI, .P p17 (.conv (.ii .u64) q16) (.i .u64), .cl p18 126 [q15, q17] .v, .mv p12 q18 .v, .P p19 (.ext q12 0) (.i .u64), .P p20 (.ext q12 1) (.i .u64), .mv p5 q19 (.i .u64), .mv p6 q20 (.i .u64)] (.sj v102_1 (.sO [.mv p21 q5 (.i .u64), .bn p22 .gtr q21 (.c (.int .u64 (.ofNat 0))) .b, .mv p23 q22 .b, .ge p23 (XL.of [.G p23 false p24 (.mov q6) (.i .u64), .G p23 false p25 (.bin .gtr q24 (.c (.int .u64 (.ofNat 9223372036854775807)))) .b, .P p26 (.pick q23 (cb true) q25) .b]) p26 .b] (.cond q26 (.s (.oX [.P p27 (.mkif 9 (.c (.str [116, 104, 101, 32, 114, 101, 115, 117, 108, 116, 32, 111, 102, 32, 40, 108, 101, 110, 40, 120, 41, 32, 42, 32, 99, 111, 117, 110, 116, 41, 32, 111, 118, 101, 114, 102, 108, 111, 119, 115]))) .v, .o ⟨none, (.panic q27), none, []⟩ .v])) (.s .skip))) c102_1))
def c102_e : XC := (.sO [.mv p4 (.c .nils) .v] (.sj v102_0 (.sO [.mv p9 q1 tI, .bn p10 .lss q9 (ci 0) .b] (.cond q10 (.s (.oX [.P p11 (.mkif 9 (.c (.str [99, 97, 110, 110, 111, 116, 32, 98, 101, 32, 110, 101, 103, 97, 116, 105, 118, 101]))) .v, .o ⟨none, (.panic q11), none, []⟩ .v])) (.s .skip))) c102_0))
def x102 : XFn := ⟨[.v, tI], false, [(.tmp p4)], c102_e⟩
def e102_2 (k t7 h) := kN k [(p7, t7)] h
def S102_2 (D : CallD) (m : Nat) (t7 : AV) (h : HP) : Res2 :=
 some (.ret t7 h, .no)
def e102_3 (k t7 t8 h) := kN k [(p7, t7), (p8, (vI t8))] h
def S102_3b (D : CallD) (m : Nat) (g3 : AV → Int → HP → Res2) (t7 : AV) (t8 : Int) (h : HP) : Res2 :=
 lenC t7 fun vt36 => asI .i64 vt36 fun t36 =>
 let t37 := ltQ t8 t36
 br t37 (
 obQ (evP (.slice (.sl 7) (.c t7) (some (.c (vI t8))) none none) .leaf) fun t41 =>
 obQ (evP (.slice (.sl 7) (.c t7) none (some (.c (vI t8))) none) .leaf) fun t44 =>
 eff (.copy 7 (.c t41) (.c t44)) h fun t45 h9 =>
 asI .i64 t45 fun t45a =>
 let t46 := wrQ .i64 (addQ t8 t45a)
 g3 t7 t46 h9) (
 S102_2 D m t7 h)
def S102_3 (D : CallD) (m : Nat) : AV → Int → HP → Res2 := nrec (fun _ _ _ => none) (fun _ g => S102_3b D m g) m
def e102_1 (k t0 t6 h) := kN k [(p0, t0), (p6, (AV.int .u64 t6))] h
def S102_1 (D : CallD) (m : Nat) (t0 : AV) (t6 : Int) (h : HP) : Res2 :=
 let t29 := wrapF .i64 t6
 obQ (evA (.mksl [(kI 0), (.int .u32 (.ofNat 0)), (.int .u64 (.ofNat 0)), (.str []), (kI 0), .nilp, (kI 0)] 64 (.c (vI t29)) (.c (vI t29))) .leaf) fun r6 =>
 let t30 := vkV r6.2 (HP.nxQ h)
 let h7 := HP.newQ h r6.1
 eff (.copy 7 (.c t30) (.c t0)) h7 fun t33 h8 =>
 asI .i64 t33 fun t33a =>
 S102_3 D m t30 t33a h8
def e102_0 (k t0 t1 h) := kN k [(p0, t0), (p1, (vI t1))] h
def S102_0 (D : CallD) (m : Nat) (t0 : AV) (t1 : Int) (h : HP) : Res2 :=
 lenC t0 fun vt14 => asI .i64 vt14 fun t14 =>
 let t15 := wrapF .u64 t14
 let t17 := wrapF .u64 t1
 cal D 126 [(AV.int .u64 t15), (AV.int .u64 t17)] h fun t18 h5 =>
 extC t18 0 fun vt19 => asI .u64 vt19 fun t19 =>
 extC t18 1 fun vt20 => asI .u64 vt20 fun t20 =>
 let t22 := ltQ (Int.ofNat 0) t19
 obB (brV t22 (
 some (vB true)) (
 let t25 := ltQ (Int.ofNat 9223372036854775807) t20
 some (vB t25))) fun t26 =>
 br t26 (
 let t27 := (AV.iface 9 (vS ([116, 104, 101, 32, 114, 101, 115, 117, 108, 116, 32, 111, 102, 32, 40, 108, 101, 110, 40, 120, 41, 32, 42, 32, 99, 111, 117, 110, 116, 41, 32, 111, 118, 101, 114, 102, 108, 111, 119, 115] : LN)))
 some (.pan [(.iface 9 (vS ([116, 104, 101, 32, 114, 101, 115, 117, 108, 116, 32, 111, 102, 32, 40, 108, 101, 110, 40, 120, 41, 32, 42, 32, 99, 111, 117, 110, 116, 41, 32, 111, 118, 101, 114, 102, 108, 111, 119, 115] : LN)), false)] h5, .no)) (
 S102_1 D m t0 t20 h5)
def e102_4 (k t0 t1 h) := kN k [(p0, t0), (p1, (vI t1))] h
def S102_4 (D : CallD) (m : Nat) (t0 : AV) (t1 : Int) (h : HP) : Res2 :=
 let t10 := ltQ t1 (Int.ofNat 0)
 br t10 (
 let t11 := (AV.iface 9 (vS ([99, 97, 110, 110, 111, 116, 32, 98, 101, 32, 110, 101, 103, 97, 116, 105, 118, 101] : LN)))
 some (.pan [(.iface 9 (vS ([99, 97, 110, 110, 111, 116, 32, 98, 101, 32, 110, 101, 103, 97, 116, 105, 118, 101] : LN)), false)] h, .no)) (
 S102_0 D m t0 t1 h)
def S102 : SFn := fun D m args h u => nou u <| popV args fun t0 args => popI .i64 args fun t1 args => endA args (S102_4 D m t0 t1 h)
theorem T102_2 (hE : FX x102 D m E) : S102_2 D m = e102_2 (E c102_2 []) := by unfold S102_2; rw [hE c102_2]; kernel_rfl
theorem T102_3b (hE : FX x102 D m E) (G3) : S102_3b D m (e102_3 G3) = e102_3 (E c102_3b [.lp v102_3 G3, .blk 0, .sj v102_2 c102_2]) := by unfold S102_3b; rw [T102_2 hE, hE c102_3b]; kernel_rfl
theorem T102_3 (hE : FX x102 D m E) : S102_3 D m = e102_3 (nrec (fun _ => none) (fun _ G3 st => E c102_3b [.lp v102_3 G3, .blk 0, .sj v102_2 c102_2] st) m) :=
  nrec_emb e102_3 (fun _ _ _ => none) (fun g => S102_3b D m g) (fun G3 st => E c102_3b [.lp v102_3 G3, .blk 0, .sj v102_2 c102_2] st) rfl (fun g => T102_3b hE g) m
theorem T102_1 (hE : FX x102 D m E) : S102_1 D m = e102_1 (E c102_1 []) := by unfold S102_1; rw [T102_3 hE, hE c102_1]; kernel_rfl
theorem T102_0 (hE : FX x102 D m E) : S102_0 D m = e102_0 (E c102_0 []) := by unfold S102_0; rw [T102_1 hE, hE c102_0]; kernel_rfl
theorem T102_4 (hE : FX x102 D m E) : S102_4 D m = e102_4 (E c102_e []) := by unfold S102_4; rw [T102_0 hE, hE c102_e]; kernel_rfl
theorem X102 : XTie S102 x102 := X_of fun D m E hE args h u => by unfold S102; rw [T102_4 hE]; kernel_rfl
/- 105 -/
def v105_0 : List Pos := []
def c105_0 : XC := (.sO [.mv p4 (ci 0) tI] (.s .ret))
def v105_1 : List Pos := [p0, p3]
def c105_1b : XC := (.seq (.seq (.oX [.mv p55 q0 .v, .fa p56 1 q3, .ld p57 q56 .v, .P p58 (.iaddr (.sl 8) q57 (ci 0)) .v, .L p59 (.cells 8 q58) .v, .cl p60 135 [q55, q59] .v, .P p61 (.field 0 5 true q60) .v, .P p62 (.field 1 1 false q61) tW, .bn p63 .neq q62 (.c (.int .u32 (.ofNat 0))) .b]) (.cond q63 .skip (.exit 2))) (.block 3 (.seq (.seq (.oX [.mv p64 q0 .v, .fa p65 2 q3, .ld p66 q65 .v, .P p67 (.iaddr (.sl 7) q66 (ci 0)) .v, .L p68 (.cells 7 q67) .v, .cl p69 105 [q64, q68] tI, .mv p5 q69 tI]) (.seq (.oX [.mv p70 q5 tI, .bn p71 .eql q70 (ci 3) .b]) (.cond q71 (.seq (.oX [.mv p72 q5 tI, .mv p4 q72 tI]) .ret) (.seq (.oX [.mv p73 q5 tI, .bn p74 .eql q73 (ci 1) .b]) (.cond q74 (.exit 2) .skip))))) (.s (.oX [.mv p75 q0 .v, .P p76 (.nilck q75) .v, .fa p77 0 q76, .ld p78 q77 .v, .cl p79 134 [q78] .v])))))
def v105_2 : List Pos := []
def c105_2 : XC := (.sO [.mv p4 (ci 3) tI] (.s .ret))
def v105_3 : List Pos := [p0, p102, p103, p104]
def c105_3b : XC := (.sO [.bn p105 .lss q104 q103 .b] (.seq (.cond q105 .skip (.exit 4)) (.seq (.block 5 (.seq (.oX [.P p106 (.iaddr (.sl 8) q102 q104) .v, .L p107 (.cells 8 q106) .v, .al p7 (.new [(kI 0), (.str []), (.str []), (.int .u32 (.ofNat 0)), (.int .u64 (.ofNat 0)), .nils, (kI 0), (kI 0)]), .ss 8 q7 q107]) (.oX [.mv p108 q0 .v, .L p109 (.cells 8 q7) .v, .cl p110 135 [q108, q109] .v]))) (.s (.oX [.bn p111 .add q104 (ci 1) tI, .mv p104 q111 tI])))))
def v105_4 : List Pos := [p0, p3, p8]
def c105_4 : XC := (.s (.ops true (XL.of [.mv p128 q0 .v, .fa p129 3 q3, .ld p130 q129 .s, .fa p131 4 q3, .ld p132 q131 tI, .fa p133 5 q3, .ld p134 q133 tI, .L p139 (.cells 7 q8) .v, .o ⟨(some p135), (.call (.fn 69) [q128, q130, q132, q134]), none, [⟨none, .cells 7 q8, p139⟩]⟩ .v, .P p136 (.nilck q135) .v, .fa p137 0 q136, .ld p138 q137 .v, .P p140 (.iaddr (.sl 7) q138 (ci 0)) .v, .ss 7 q140 q139])))
def v105_5 : List Pos := [p0, p3, p8, p118, p119, p120]
def c105_5b : XC := (.sO [.bn p121 .lss q120 q119 .b] (.seq (.cond q121 .skip (.exit 6)) (.seq (.block 7 (.seq (.oX [.P p122 (.iaddr (.sl 8) q118 q120) .v, .L p123 (.cells 8 q122) .v, .al p10 (.new [(kI 0), (.str []), (.str []), (.int .u32 (.ofNat 0)), (.int .u64 (.ofNat 0)), .nils, (kI 0), (kI 0)]), .ss 8 q10 q123]) (.oX [.mv p124 q0 .v, .L p125 (.cells 8 q10) .v, .cl p126 135 [q124, q125] .v, .ss 7 q8 q126]))) (.s (.oX [.bn p127 .add q120 (ci 1) tI, .mv p120 q127 tI])))))
def c105_e : XC := (.sO [.al p3 (.box q1), .mv p4 (ci 0) tI] (.sO [.mv p11 q0 .v, .P p12 (.nilck q11) .v, .fa p13 0 q12, .ld p14 q13 .v, .cl p15 134 [q14] .v] (.sj v105_0 (.sO [.fa p16 0 q3, .ld p17 q16 tI] (.block 0 (.sO [.bn p19 .eql q17 (ci 1) .b, .mv p18 q19 .b] (.cond q18 (.sO [.mv p20 q0 .v, .fa p21 2 q3, .ld p22 q21 .v, .cl p23 70 [q20, q22] tI, .mv p4 q23 tI] (.s .ret)) (.sO [.bn p25 .eql q17 (ci 2) .b, .mv p24 q25 .b] (.cond q24 (.block 1 (.sO [.mv p27 q0 .v, .fa p28 1 q3, .ld p29 q28 .v, .P p30 (.iaddr (.sl 8) q29 (ci 0)) .v, .L p31 (.cells 8 q30) .v, .cl p32 135 [q27, q31] .v, .P p33 (.field 0 5 true q32) .v, .P p34 (.field 1 1 false q33) tW, .bn p35 .neq q34 (.c (.int .u32 (.ofNat 0))) .b, .mv p26 q35 .b] (.cond q26 (.sO [.mv p36 q0 .v, .fa p37 2 q3, .ld p38 q37 .v, .P p39 (.iaddr (.sl 7) q38 (ci 0)) .v, .L p40 (.cells 7 q39) .v, .cl p41 105 [q36, q40] tI, .mv p4 q41 tI] (.s .ret)) (.sO [.fa p43 2 q3, .ld p44 q43 .v, .P p45 (.lenl q44) tI, .bn p46 .gtr q45 (ci 1) .b, .mv p42 q46 .b] (.cond q42 (.sO [.mv p47 q0 .v, .fa p48 2 q3, .ld p49 q48 .v, .P p50 (.iaddr (.sl 7) q49 (ci 1)) .v, .L p51 (.cells 7 q50) .v, .cl p52 105 [q47, q51] tI, .mv p4 q52 tI] (.s .ret)) (.s .skip)))))) (.sO [.bn p54 .eql q17 (ci 3) .b, .mv p53 q54 .b] (.cond q53 (.block 2 (.loop v105_1 c105_1b)) (.sO [.bn p81 .eql q17 (ci 4) .b, .mv p80 q81 .b] (.cond q80 (.sj v105_2 (.sO [.fa p82 1 q3, .ld p83 q82 .v, .P p84 (.lenl q83) tI, .bn p85 .gtr q84 (ci 0) .b] (.cond q85 (.s (.oX [.mv p86 q0 .v, .mv p87 q0 .v, .fa p88 1 q3, .ld p89 q88 .v, .P p90 (.iaddr (.sl 8) q89 (ci 0)) .v, .L p91 (.cells 8 q90) .v, .cl p92 135 [q87, q91] .v, .P p93 (.nilck q86) .v, .fa p94 2 q93, .ss 7 q94 q92])) (.s .skip))) c105_2) (.sO [.bn p96 .eql q17 (ci 5) .b, .mv p95 q96 .b] (.cond q95 (.sO [.mv p4 (ci 1) tI] (.s .ret)) (.sO [.bn p98 .eql q17 (ci 6) .b, .mv p97 q98 .b] (.cond q97 (.sO [.mv p4 (ci 2) tI] (.s .ret)) (.sO [.bn p100 .eql q17 (ci 7) .b, .mv p99 q100 .b] (.cond q99 (.sO [.fa p101 1 q3, .ld p102 q101 .v, .P p103 (.lenl q102) tI, .mv p104 (ci 0) tI] (.block 4 (.loop v105_3 c105_3b))) (.sO [.bn p113 .eql q17 (ci 8) .b, .mv p112 q113 .b] (.cond q112 (.sO [.fa p114 4 q3, .ld p115 q114 tI, .cl p116 68 [q115] .v, .al p8 (.new [(kI 0), (.int .u32 (.ofNat 0)), (.int .u64 (.ofNat 0)), (.str []), (kI 0), .nilp, (kI 0)]), .ss 7 q8 q116] (.sj v105_4 (.sO [.fa p117 1 q3, .ld p118 q117 .v, .P p119 (.lenl q118) tI, .mv p120 (ci 0) tI] (.block 6 (.loop v105_5 c105_5b))) c105_4)) (.s .skip))))))))))))))))))) c105_0)))
def x105 : XFn := ⟨[.v, .v], false, [(.tmp p4)], c105_e⟩
def e105_0 (k h) := kN k [] h
def S105_0 (D : CallD) (m : Nat) (h : HP) : Res2 :=
 some (.ret (kI 0) h, .no)
def e105_1 (k t0 t3 h) := kN k [(p0, t0), (p3, t3)] h
def S105_1b (D : CallD) (m : Nat) (g1 : AV → AV → HP → Res2) (t0 t3 : AV) (h : HP) : Res2 :=
 faC 1 t3 fun t56 =>
 cellC t56 h fun t57 =>
 iasC 8 t57 (kI 0) fun t58 =>
 cellsC 8 t58 h fun t59 =>
 cal D 135 [t0, t59] h fun t60 h13 =>
 fldC 0 5 true t60 fun t61 =>
 fldC 1 1 false t61 fun vt62 => asI .u32 vt62 fun t62 =>
 binC .neq (vW t62) (vW (Int.ofNat 0)) fun vt63 => asB vt63 fun t63 =>
 br t63 (
 faC 2 t3 fun t65 =>
 cellC t65 h13 fun t66 =>
 iasC 7 t66 (kI 0) fun t67 =>
 cellsC 7 t67 h13 fun t68 =>
 cal D 105 [t0, t68] h13 fun t69 h14 =>
 asI .i64 t69 fun t69a =>
 let t71 := eqQ t69a (Int.ofNat 3)
 br t71 (
 some (.ret (vI t69a) h14, .no)) (
 let t74 := eqQ t69a (Int.ofNat 1)
 br t74 (
 S105_0 D m h14) (
 nilckC t0 fun t76 =>
 faC 0 t76 fun t77 =>
 cellC t77 h14 fun t78 =>
 cal D 134 [t78] h14 fun t79 h15 =>
 g1 t0 t3 h15))) (
 S105_0 D m h13)
def S105_1 (D : CallD) (m : Nat) : AV → AV → HP → Res2 := nrec (fun _ _ _ => none) (fun _ g => S105_1b D m g) m
def e105_2 (k h) := kN k [] h
def S105_2 (D : CallD) (m : Nat) (h : HP) : Res2 :=
 some (.ret (kI 3) h, .no)
def e105_3 (k t0 t102 t103 t104 h) := kN k [(p0, t0), (p102, t102), (p103, (vI t103)), (p104, (vI t104))] h
def S105_3b (D : CallD) (m : Nat) (g3 : AV → AV → Int → Int → HP → Res2) (t0 t102 : AV) (t103 t104 : Int) (h : HP) : Res2 :=
 let t105 := ltQ t104 t103
 br t105 (
 iasC 8 t102 (vI t104) fun t106 =>
 cellsC 8 t106 h fun t107 =>
 let t7 := P0 h
 let h18 := nQ h [(kI 0), (.str []), (.str []), (.int .u32 (.ofNat 0)), (.int .u64 (.ofNat 0)), .nils, (kI 0), (kI 0)]
 stsC 8 t7 t107 h18 fun h19 =>
 cellsC 8 t7 h19 fun t109 =>
 cal D 135 [t0, t109] h19 fun t110 h20 =>
 let t111 := wrQ .i64 (addQ t104 (Int.ofNat 1))
 g3 t0 t102 t103 t111 h20) (
 S105_0 D m h)
def S105_3 (D : CallD) (m : Nat) : AV → AV → Int → Int → HP → Res2 := nrec (fun _ _ _ _ _ => none) (fun _ g => S105_3b D m g) m
def e105_4 (k t0 t3 t8 h) := kN k [(p0, t0), (p3, t3), (p8, t8)] h
def S105_4 (D : CallD) (m : Nat) (t0 t3 t8 : AV) (h : HP) : Res2 :=
 faC 3 t3 fun t129 =>
 ldS t129 h fun t130 =>
 faC 4 t3 fun t131 =>
 ldI t131 h fun t132 =>
 faC 5 t3 fun t133 =>
 ldI t133 h fun t134 =>
 cellsC 7 t8 h fun t139 =>
 cal D 69 [t0, (vS t130), (vI t132), (vI t134)] h fun t135 h24 =>
 br (again [⟨none, .cells 7 q8, p139⟩] (mkT [(p139, t139), (p8, t8)]) h24) (
 nilckC t135 fun t136 =>
 faC 0 t136 fun t137 =>
 cellC t137 h24 fun t138 =>
 iasC 7 t138 (kI 0) fun t140 =>
 stsC 7 t140 t139 h24 fun h25 =>
 S105_0 D m h25) none
def e105_5 (k t0 t3 t8 t118 t119 t120 h) := kN k [(p0, t0), (p3, t3), (p8, t8), (p118, t118), (p119, (vI t119)), (p120, (vI t120))] h
def S105_5b (D : CallD) (m : Nat) (g5 : AV → AV → AV → AV → Int → Int → HP → Res2) (t0 t3 t8 t118 : AV) (t119 t120 : Int) (h : HP) : Res2 :=
 let t121 := ltQ t120 t119
 br t121 (
 iasC 8 t118 (vI t120) fun t122 =>
 cellsC 8 t122 h fun t123 =>
 let t10 := P0 h
 let h26 := nQ h [(kI 0), (.str []), (.str []), (.int .u32 (.ofNat 0)), (.int .u64 (.ofNat 0)), .nils, (kI 0), (kI 0)]
 stsC 8 t10 t123 h26 fun h27 =>
 cellsC 8 t10 h27 fun t125 =>
 cal D 135 [t0, t125] h27 fun t126 h28 =>
 stsC 7 t8 t126 h28 fun h29 =>
 let t127 := wrQ .i64 (addQ t120 (Int.ofNat 1))
 g5 t0 t3 t8 t118 t119 t127 h29) (
 S105_4 D m t0 t3 t8 h)
def S105_5 (D : CallD) (m : Nat) : AV → AV → AV → AV → Int → Int → HP → Res2 := nrec (fun _ _ _ _ _ _ _ => none) (fun _ g => S105_5b D m g) m
def e105_6 (k t0 t1 h) := kN k [(p0, t0), (p1, t1)] h
def S105_6 (D : CallD) (m : Nat) (t0 t1 : AV) (h : HP) : Res2 :=
 let t3 := P0 h
 let h7 := HP.newQ h (.cells true (AV.cells t1))
 nilckC t0 fun t12 =>
 faC 0 t12 fun t13 =>
 cellC t13 h7 fun t14 =>
 cal D 134 [t14] h7 fun t15 h8 =>
 let t16 := (AV.ptr (HP.nxQ h) (Nat.add 0 0))
 ldI t16 h8 fun t17 =>
 let t19 := eqQ t17 (Int.ofNat 1)
 br t19 (
 let t21 := (AV.ptr (HP.nxQ h) (Nat.add 0 2))
 cellC t21 h8 fun t22 =>
 cal D 70 [t0, t22] h8 fun t23 h9 =>
 asI .i64 t23 fun t23a =>
 some (.ret (vI t23a) h9, .no)) (
 let t25 := eqQ t17 (Int.ofNat 2)
 br t25 (
 let t28 := (AV.ptr (HP.nxQ h) (Nat.add 0 1))
 cellC t28 h8 fun t29 =>
 iasC 8 t29 (kI 0) fun t30 =>
 cellsC 8 t30 h8 fun t31 =>
 cal D 135 [t0, t31] h8 fun t32 h10 =>
 fldC 0 5 true t32 fun t33 =>
 fldC 1 1 false t33 fun vt34 => asI .u32 vt34 fun t34 =>
 binC .neq (vW t34) (vW (Int.ofNat 0)) fun vt35 => asB vt35 fun t35 =>
 br t35 (
 let t37 := (AV.ptr (HP.nxQ h) (Nat.add 0 2))
 cellC t37 h10 fun t38 =>
 iasC 7 t38 (kI 0) fun t39 =>
 cellsC 7 t39 h10 fun t40 =>
 cal D 105 [t0, t40] h10 fun t41 h11 =>
 asI .i64 t41 fun t41a =>
 some (.ret (vI t41a) h11, .no)) (
 let t43 := (AV.ptr (HP.nxQ h) (Nat.add 0 2))
 cellC t43 h10 fun t44 =>
 lenC t44 fun vt45 => asI .i64 vt45 fun t45 =>
 let t46 := ltQ (Int.ofNat 1) t45
 br t46 (
 let t48 := (AV.ptr (HP.nxQ h) (Nat.add 0 2))
 cellC t48 h10 fun t49 =>
 iasC 7 t49 (kI 1) fun t50 =>
 cellsC 7 t50 h10 fun t51 =>
 cal D 105 [t0, t51] h10 fun t52 h12 =>
 asI .i64 t52 fun t52a =>
 some (.ret (vI t52a) h12, .no)) (
 S105_0 D m h10))) (
 let t54 := eqQ t17 (Int.ofNat 3)
 br t54 (
 S105_1 D m t0 t3 h8) (
 let t81 := eqQ t17 (Int.ofNat 4)
 br t81 (
 let t82 := (AV.ptr (HP.nxQ h) (Nat.add 0 1))
 cellC t82 h8 fun t83 =>
 lenC t83 fun vt84 => asI .i64 vt84 fun t84 =>
 let t85 := ltQ (Int.ofNat 0) t84
 br t85 (
 let t88 := (AV.ptr (HP.nxQ h) (Nat.add 0 1))
 cellC t88 h8 fun t89 =>
 iasC 8 t89 (kI 0) fun t90 =>
 cellsC 8 t90 h8 fun t91 =>
 cal D 135 [t0, t91] h8 fun t92 h16 =>
 nilckC t0 fun t93 =>
 faC 2 t93 fun t94 =>
 stsC 7 t94 t92 h16 fun h17 =>
 S105_2 D m h17) (
 S105_2 D m h8)) (
 let t96 := eqQ t17 (Int.ofNat 5)
 br t96 (
 some (.ret (kI 1) h8, .no)) (
 let t98 := eqQ t17 (Int.ofNat 6)
 br t98 (
 some (.ret (kI 2) h8, .no)) (
 let t100 := eqQ t17 (Int.ofNat 7)
 br t100 (
 let t101 := (AV.ptr (HP.nxQ h) (Nat.add 0 1))
 cellC t101 h8 fun t102 =>
 lenC t102 fun vt103 => asI .i64 vt103 fun t103 =>
 S105_3 D m t0 t102 t103 (Int.ofNat 0) h8) (
 let t113 := eqQ t17 (Int.ofNat 8)
 br t113 (
 let t114 := (AV.ptr (HP.nxQ h) (Nat.add 0 4))
 ldI t114 h8 fun t115 =>
 cal D 68 [(vI t115)] h8 fun t116 h21 =>
 let t8 := P0 h21
 let h22 := nQ h21 [(kI 0), (.int .u32 (.ofNat 0)), (.int .u64 (.ofNat 0)), (.str []), (kI 0), .nilp, (kI 0)]
 stsC 7 t8 t116 h22 fun h23 =>
 let t117 := (AV.ptr (HP.nxQ h) (Nat.add 0 1))
 cellC t117 h23 fun t118 =>
 lenC t118 fun vt119 => asI .i64 vt119 fun t119 =>
 S105_5 D m t0 t3 t8 t118 t119 (Int.ofNat 0) h23) (
 S105_0 D m h8))))))))
def S105 : SFn := fun D m args h u => nou u <| popV args fun t0 args => popV args fun t1 args => endA args (S105_6 D m t0 t1 h)
theorem T105_0 (hE : FX x105 D m E) : S105_0 D m = e105_0 (E c105_0 []) := by unfold S105_0; rw [hE c105_0]; kernel_rfl
theorem T105_1b (hE : FX x105 D m E) (G1) : S105_1b D m (e105_1 G1) = e105_1 (E c105_1b [.lp v105_1 G1, .blk 2, .blk 0, .sj v105_0 c105_0]) := by unfold S105_1b; rw [T105_0 hE, hE c105_1b]; kernel_rfl
theorem T105_1 (hE : FX x105 D m E) : S105_1 D m = e105_1 (nrec (fun _ => none) (fun _ G1 st => E c105_1b [.lp v105_1 G1, .blk 2, .blk 0, .sj v105_0 c105_0] st) m) :=
  nrec_emb e105_1 (fun _ _ _ => none) (fun g => S105_1b D m g) (fun G1 st => E c105_1b [.lp v105_1 G1, .blk 2, .blk 0, .sj v105_0 c105_0] st) rfl (fun g => T105_1b hE g) m
theorem T105_2 (hE : FX x105 D m E) : S105_2 D m = e105_2 (E c105_2 [.blk 0, .sj v105_0 c105_0]) := by unfold S105_2; rw [hE c105_2]; kernel_rfl
theorem T105_3b (hE : FX x105 D m E) (G3) : S105_3b D m (e105_3 G3) = e105_3 (E c105_3b [.lp v105_3 G3, .blk 4, .blk 0, .sj v105_0 c105_0]) := by unfold S105_3b; rw [T105_0 hE, hE c105_3b]; kernel_rfl
theorem T105_3 (hE : FX x105 D m E) : S105_3 D m = e105_3 (nrec (fun _ => none) (fun _ G3 st => E c105_3b [.lp v105_3 G3, .blk 4, .blk 0, .sj v105_0 c105_0] st) m) :=
  nrec_emb e105_3 (fun _ _ _ _ _ => none) (fun g => S105_3b D m g) (fun G3 st => E c105_3b [.lp v105_3 G3, .blk 4, .blk 0, .sj v105_0 c105_0] st) rfl (fun g => T105_3b hE g) m
theorem T105_4 (hE : FX x105 D m E) : S105_4 D m = e105_4 (E c105_4 [.blk 0, .sj v105_0 c105_0]) := by unfold S105_4; rw [T105_0 hE, hE c105_4]; kernel_rfl
theorem T105_5b (hE : FX x105 D m E) (G5) : S105_5b D m (e105_5 G5) = e105_5 (E c105_5b [.lp v105_5 G5, .blk 6, .sj v105_4 c105_4, .blk 0, .sj v105_0 c105_0]) := by unfold S105_5b; rw [T105_4 hE, hE c105_5b]; kernel_rfl
theorem T105_5 (hE : FX x105 D m E) : S105_5 D m = e105_5 (nrec (fun _ => none) (fun _ G5 st => E c105_5b [.lp v105_5 G5, .blk 6, .sj v105_4 c105_4, .blk 0, .sj v105_0 c105_0] st) m) :=
  nrec_emb e105_5 (fun _ _ _ _ _ _ _ => none) (fun g => S105_5b D m g) (fun G5 st => E c105_5b [.lp v105_5 G5, .blk 6, .sj v105_4 c105_4, .blk 0, .sj v105_0 c105_0] st) rfl (fun g => T105_5b hE g) m
theorem T105_6 (hE : FX x105 D m E) : S105_6 D m = e105_6 (E c105_e []) := by unfold S105_6; rw [T105_0 hE, T105_1 hE, T105_2 hE, T105_3 hE, T105_5 hE, hE c105_e]; kernel_rfl
theorem X105 : XTie S105 x105 := X_of fun D m E hE args h u => by unfold S105; rw [T105_6 hE]; kernel_rfl
/- 106 -/
def c106_e : XC := (.sO [.mv p6 (cb false) .b] (.sO [.mv p7 q1 tI, .mv p8 q2 .s, .P p9 (.lens q8) tI, .bn p10 .add q7 q9 tI, .mv p11 q0 .s, .P p12 (.lens q11) tI, .bn p13 .leq q10 q12 .b, .mv p14 q13 .b, .ge p14 (XL.of [.G p14 true p15 (.mov q0) .s, .G p14 true p16 (.mov q1) tI, .G p14 true p17 (.mov q1) tI, .G p14 true p18 (.mov q2) .s, .G p14 true p19 (.lens q18) tI, .G p14 true p20 (.bin .add q17 q19) tI, .G p14 true p21 (.slice .str q15 (some q16) (some q20) none) .s, .G p14 true p22 (.mov q2) .s, .G p14 true p23 (.bin .eql q21 q22) .b, .P p24 (.pick q14 q23 (cb false)) .b]) p24 .b, .mv p6 q24 .b] (.s .ret)))
def x106 : XFn := ⟨[.s, tI, .s], false, [(.tmp p6)], c106_e⟩
def e106_0 (k t0 t1 t2 h) := kN k [(p0, (vS t0)), (p1, (vI t1)), (p2, (vS t2))] h
def S106_0 (D : CallD) (m : Nat) (t0 : LN) (t1 : Int) (t2 : LN) (h : HP) : Res2 :=
 let t9 := Int.ofNat (lenL t2)
 let t10 := wrQ .i64 (addQ t1 t9)
 let t12 := Int.ofNat (lenL t0)
 let t13 := leQ t10 t12
 obB (brV t13 (
 let t19 := Int.ofNat (lenL t2)
 let t20 := wrQ .i64 (addQ t1 t19)
 slCV (vS t0) (some (vI t1)) (some (vI t20)) fun vt21 => asSV vt21 fun t21 =>
 let t23 := eqL t21 t2
 some (vB t23)) (
 some (vB false))) fun t24 =>
 some (.ret (vB t24) h, .no)
def S106 : SFn := fun D m args h u => nou u <| popS args fun t0 args => popI .i64 args fun t1 args => popS args fun t2 args => endA args (S106_0 D m t0 t1 t2 h)
theorem T106_0 (hE : FX x106 D m E) : S106_0 D m = e106_0 (E c106_e []) := by unfold S106_0; rw [hE c106_e]; kernel_rfl
theorem X106 : XTie S106 x106 := X_of fun D m E hE args h u => by unfold S106; rw [T106_0 hE]; kernel_rfl
/- 107 -/
def c107_e : XC := (.sO [.mv p2 (cb false) .b] (.sO [.mv p3 q0 tC, .bn p4 .geq q3 (.c (.int .u8 (.ofNat 97))) .b, .mv p5 q4 .b, .ge p5 (XL.of [.G p5 true p6 (.mov q0) tC, .G p5 true p7 (.bin .leq q6 (.c (.int .u8 (.ofNat 122)))) .b, .P p8 (.pick q5 q7 (cb false)) .b]) p8 .b, .mv p9 q8 .b, .ge p9 (XL.of [.G p9 false p10 (.mov q0) tC, .G p9 false p11 (.bin .geq q10 (.c (.int .u8 (.ofNat 65)))) .b, .G p9 false p12 (.mov q11) .b, .ge p12 (XL.of [.G p12 true p13 (.mov q0) tC, .G p12 true p14 (.bin .leq q13 (.c (.int .u8 (.ofNat 90)))) .b, .G p9 false p15 (.pick q12 q14 (cb false)) .b]) p15 .b, .P p16 (.pick q9 (cb true) q15) .b]) p16 .b, .mv p17 q16 .b, .ge p17 (XL.of [.G p17 false p18 (.mov q0) tC, .G p17 false p19 (.bin .eql q18 (.c (.int .u8 (.ofNat 95)))) .b, .P p20 (.pick q17 (cb true) q19) .b]) p20 .b, .mv p2 q20 .b] (.s .ret)))
def x107 : XFn := ⟨[tC], false, [(.tmp p2)], c107_e⟩
def e107_0 (k t0 h) := kN k [(p0, (vC t0))] h
def S107_0 (D : CallD) (m : Nat) (t0 : Int) (h : HP) : Res2 :=
 let t4 := leQ (Int.ofNat 97) t0
 obB (brV t4 (
 let t7 := leQ t0 (Int.ofNat 122)
 some (vB t7)) (
 some (vB false))) fun t8 =>
 obB (brV t8 (
 some (vB true)) (
 let t11 := leQ (Int.ofNat 65) t0
 obBV (brV t11 (
 let t14 := leQ t0 (Int.ofNat 90)
 some (vB t14)) (
 some (vB false))) fun t15 =>
 some (vB t15))) fun t16 =>
 obB (brV t16 (
 some (vB true)) (
 let t19 := eqQ t0 (Int.ofNat 95)
 some (vB t19))) fun t20 =>
 some (.ret (vB t20) h, .no)
def S107 : SFn := fun D m args h u => nou u <| popI .u8 args fun t0 args => endA args (S107_0 D m t0 h)
theorem T107_0 (hE : FX x107 D m E) : S107_0 D m = e107_0 (E c107_e []) := by unfold S107_0; rw [hE c107_e]; kernel_rfl
theorem X107 : XTie S107 x107 := X_of fun D m E hE args h u => by unfold S107; rw [T107_0 hE]; kernel_rfl
/- 108 -/
def c108_e : XC := (.sO [.mv p2 (cb false) .b] (.sO [.mv p3 q0 tC, .bn p4 .geq q3 (.c (.int .u8 (.ofNat 48))) .b, .mv p5 q4 .b, .ge p5 (XL.of [.G p5 true p6 (.mov q0) tC, .G p5 true p7 (.bin .leq q6 (.c (.int .u8 (.ofNat 57)))) .b, .P p8 (.pick q5 q7 (cb false)) .b]) p8 .b, .mv p2 q8 .b] (.s .ret)))
def x108 : XFn := ⟨[tC], false, [(.tmp p2)], c108_e⟩
def e108_0 (k t0 h) := kN k [(p0, (vC t0))] h
def S108_0 (D : CallD) (m : Nat) (t0 : Int) (h : HP) : Res2 :=
 let t4 := leQ (Int.ofNat 48) t0
 obB (brV t4 (
 let t7 := leQ t0 (Int.ofNat 57)
 some (vB t7)) (
 some (vB false))) fun t8 =>
 some (.ret (vB t8) h, .no)
def S108 : SFn := fun D m args h u => nou u <| popI .u8 args fun t0 args => endA args (S108_0 D m t0 h)
theorem T108_0 (hE : FX x108 D m E) : S108_0 D m = e108_0 (E c108_e []) := by unfold S108_0; rw [hE c108_e]; kernel_rfl
theorem X108 : XTie S108 x108 := X_of fun D m E hE args h u => by unfold S108; rw [T108_0 hE]; kernel_rfl
/- 109 -/
def v109_0 : List Pos := []
def c109_0 : XC := (.sO [.mv p2 (cb false) .b] (.s .ret))
def v109_1 : List Pos := [p0, p3, p6]
def c109_1b : XC := (.sO [.bn p7 .lss q6 (ci 11) .b] (.seq (.cond q7 .skip (.exit 0)) (.seq (.block 1 (.seq (.oX [.mv p8 q6 tI, .mv p4 q8 tI]) (.seq (.oX [.mv p9 q4 tI, .P p10 (.iaddr (.arr 11 1) q3 q9) .v, .ld p11 q10 .s, .mv p12 q0 .s, .bn p13 .eql q11 q12 .b]) (.cond q13 (.seq (.oX [.mv p2 (cb true) .b]) .ret) .skip)))) (.s (.oX [.bn p14 .add q6 (ci 1) tI, .mv p6 q14 tI])))))
def c109_e : XC := (.sO [.mv p2 (cb false) .b] (.sO [.P p5 (.build [(.str []), (.str []), (.str []), (.str []), (.str []), (.str []), (.str []), (.str []), (.str []), (.str []), (.str [])] [⟨0, 1, (.c (.str [105, 110, 116]))⟩, ⟨1, 1, (.c (.str [100, 111, 117, 98, 108, 101]))⟩, ⟨2, 1, (.c (.str [118, 111, 105, 100]))⟩, ⟨3, 1, (.c (.str [115, 116, 97, 116, 105, 99]))⟩, ⟨4, 1, (.c (.str [101, 120, 116, 101, 114, 110]))⟩, ⟨5, 1, (.c (.str [105, 102]))⟩, ⟨6, 1, (.c (.str [101, 108, 115, 101]))⟩, ⟨7, 1, (.c (.str [119, 104, 105, 108, 101]))⟩, ⟨8, 1, (.c (.str [114, 101, 116, 117, 114, 110]))⟩, ⟨9, 1, (.c (.str [98, 114, 101, 97, 107]))⟩, ⟨10, 1, (.c (.str [99, 111, 110, 116, 105, 110, 117, 101]))⟩]) .v, .al p3 (.new [(.str []), (.str []), (.str []), (.str []), (.str []), (.str []), (.str []), (.str []), (.str []), (.str []), (.str [])]), .ss 11 q3 q5] (.sj v109_0 (.sO [.mv p6 (ci 0) tI] (.block 0 (.loop v109_1 c109_1b))) c109_0)))
def x109 : XFn := ⟨[.s], false, [(.tmp p2)], c109_e⟩
def e109_0 (k h) := kN k [] h
def S109_0 (D : CallD) (m : Nat) (h : HP) : Res2 :=
 some (.ret (vB false) h, .no)
def e109_1 (k t0 t3 t6 h) := kN k [(p0, (vS t0)), (p3, t3), (p6, (vI t6))] h
def S109_1b (D : CallD) (m : Nat) (g1 : LN → AV → Int → HP → Res2) (t0 : LN) (t3 : AV) (t6 : Int) (h : HP) : Res2 :=
 let t7 := ltQ t6 (Int.ofNat 11)
 br t7 (
 iarC 11 1 t3 (vI t6) fun t10 =>
 ldS t10 h fun t11 =>
 let t13 := eqL t11 t0
 br t13 (
 some (.ret (vB true) h, .no)) (
 let t14 := wrQ .i64 (addQ t6 (Int.ofNat 1))
 g1 t0 t3 t14 h)) (
 S109_0 D m h)
def S109_1 (D : CallD) (m : Nat) : LN → AV → Int → HP → Res2 := nrec (fun _ _ _ _ => none) (fun _ g => S109_1b D m g) m
def e109_2 (k t0 h) := kN k [(p0, (vS t0))] h
def S109_2 (D : CallD) (m : Nat) (t0 : LN) (h : HP) : Res2 :=
 let t5 := (AV.agg [(vS ([105, 110, 116] : LN)), (vS ([100, 111, 117, 98, 108, 101] : LN)), (vS ([118, 111, 105, 100] : LN)), (vS ([115, 116, 97, 116, 105, 99] : LN)), (vS ([101, 120, 116, 101, 114, 110] : LN)), (vS ([105, 102] : LN)), (vS ([101, 108, 115, 101] : LN)), (vS ([119, 104, 105, 108, 101] : LN)), (vS ([114, 101, 116, 117, 114, 110] : LN)), (vS ([98, 114, 101, 97, 107] : LN)), (vS ([99, 111, 110, 116, 105, 110, 117, 101] : LN))])
 let t3 := P0 h
 let h3 := nQ h [(.str []), (.str []), (.str []), (.str []), (.str []), (.str []), (.str []), (.str []), (.str []), (.str []), (.str [])]
 stsC 11 t3 t5 h3 fun h4 =>
 S109_1 D m t0 t3 (Int.ofNat 0) h4
def S109 : SFn := fun D m args h u => nou u <| popS args fun t0 args => endA args (S109_2 D m t0 h)
theorem T109_0 (hE : FX x109 D m E) : S109_0 D m = e109_0 (E c109_0 []) := by unfold S109_0; rw [hE c109_0]; kernel_rfl
theorem T109_1b (hE : FX x109 D m E) (G1) : S109_1b D m (e109_1 G1) = e109_1 (E c109_1b [.lp v109_1 G1, .blk 0, .sj v109_0 c109_0]) := by unfold S109_1b; rw [T109_0 hE, hE c109_1b]; kernel_rfl
theorem T109_1 (hE : FX x109 D m E) : S109_1 D m = e109_1 (nrec (fun _ => none) (fun _ G1 st => E c109_1b [.lp v109_1 G1, .blk 0, .sj v109_0 c109_0] st) m) :=
  nrec_emb e109_1 (fun _ _ _ _ => none) (fun g => S109_1b D m g) (fun G1 st => E c109_1b [.lp v109_1 G1, .blk 0, .sj v109_0 c109_0] st) rfl (fun g => T109_1b hE g) m
theorem T109_2 (hE : FX x109 D m E) : S109_2 D m = e109_2 (E c109_e []) := by unfold S109_2; rw [T109_1 hE, hE c109_e]; kernel_rfl
theorem X109 : XTie S109 x109 := X_of fun D m E hE args h u => by unfold S109; rw [T109_2 hE]; kernel_rfl
/- 110 -/
def v110_2 : List Pos := [p6, p7]
def c110_2 : XC := (.sO [.mv p100 q7 tI, .mv p101 q6 tI, .mv p4 q100 tI, .mv p5 q101 tI] (.s .ret))
def c110_4 : XC := (.cond q99 (.sO [.mv p4 (ci 0) tI, .mv p5 (ci 0) tI] (.s .ret)) (.s .skip))
def l110_3 : XL := (XL.of [])
def v110_1 : List Pos := [p0, p1, p6, p7]
def c110_1 : XC := (.sj v110_2 (.sO [.mv p86 q7 tI, .bn p87 .eql q86 (ci 2) .b] (.cond q87 (.opq false (XL.pre [.mv p88 q6 tI, .mv p89 q1 tI, .bn p90 .sub q88 q89 tI, .bn p91 .gtr q90 (ci 10) .b, .mv p92 q91 .b, .sp p92, .G p92 false p93 (.mov q0) .s, .G p92 false p94 (.mov q1) tI, .G p92 false p95 (.mov q6) tI, .G p92 false p96 (.slice .str q93 (some q94) (some q95) none) .s, .o ⟨(some p97), (.call (.fn 113) [q96]), (some (p92, false)), []⟩ tI, .G p92 false p98 (.bin .gtr q97 (ci 4294967295)) .b, .P p99 (.pick q92 (cb true) q98) .b, .jn p92 [p6, p7, p99]] l110_3) c110_4) (.s .skip))) c110_2)
def c110_8 : XC := (.cond q85 (.sO [.mv p4 (ci 0) tI, .mv p5 (ci 0) tI] (.s .ret)) (.s .skip))
def l110_7 : XL := (XL.of [])
def l110_6 : XL := (XL.pre [.P p85 (.pick q74 (cb true) q84) .b, .jn p74 [p0, p1, p6, p7, p85]] l110_7)
def l110_5 : XL := (XL.pre [.mv p74 q73 .b, .sp p74, .G p74 false p75 (.mov q7) tI, .G p74 false p76 (.bin .eql q75 (ci 3)) .b, .G p74 false p77 (.mov q76) .b, .sp p77, .G p77 true p78 (.mov q0) .s, .G p77 true p79 (.mov q1) tI, .G p77 true p80 (.mov q6) tI, .G p77 true p81 (.slice .str q78 (some q79) (some q80) none) .s, .o ⟨(some p82), (.call (.fn 137) [q81]), (some (p77, true)), []⟩ .b, .G p77 true p83 (.un .not q82) .b, .G p74 false p84 (.pick q77 q83 (cb false)) .b, .jn p77 [p0, p1, p6, p7, p74, p84]] l110_6)
def v110_0 : List Pos := [p0, p1, p6, p7]
def c110_0 : XC := (.sj v110_1 (.opq false (XL.pre [.mv p58 q6 tI, .mv p59 q0 .s, .P p60 (.lens q59) tI, .bn p61 .lss q58 q60 .b, .mv p62 q61 .b, .sp p62, .G p62 true p63 (.mov q0) .s, .G p62 true p64 (.mov q6) tI, .G p62 true p65 (.idxs q63 q64) tC, .o ⟨(some p66), (.call (.fn 107) [q65]), (some (p62, true)), []⟩ .b, .G p62 true p67 (.mov q66) .b, .ge p67 (XL.of [.G p67 false p68 (.mov q0) .s, .G p67 false p69 (.mov q6) tI, .G p67 false p70 (.idxs q68 q69) tC, .G p67 false p71 (.bin .eql q70 (.c (.int .u8 (.ofNat 46)))) .b, .G p62 true p72 (.pick q67 (cb true) q71) .b]) p72 .b, .P p73 (.pick q62 q72 (cb false)) .b, .jn p62 [p0, p1, p6, p7, p73]] l110_5) c110_8) c110_1)
def v110_9 : List Pos := [p0, p1, p6, p7]
def c110_9 : XC := (.s (.oX [.mv p55 q0 .s, .mv p56 q6 tI, .cl p57 136 [q55, q56] tI, .mv p6 q57 tI]))
def c110_e : XC := (.sO [.mv p4 (ci 0) tI, .mv p5 (ci 0) tI] (.sO [.mv p8 q0 .s, .mv p9 q1 tI, .cl p10 136 [q8, q9] tI, .mv p6 q10 tI] (.sO [.mv p7 (ci 2) tI] (.sj v110_0 (.sO [.mv p11 q6 tI, .mv p12 q0 .s, .P p13 (.lens q12) tI, .bn p14 .lss q11 q13 .b, .mv p15 q14 .b, .ge p15 (XL.of [.G p15 true p16 (.mov q0) .s, .G p15 true p17 (.mov q6) tI, .G p15 true p18 (.idxs q16 q17) tC, .G p15 true p19 (.bin .eql q18 (.c (.int .u8 (.ofNat 46)))) .b, .P p20 (.pick q15 q19 (cb false)) .b]) p20 .b] (.cond q20 (.sO [.mv p7 (ci 3) tI] (.sO [.mv p21 q0 .s, .mv p22 q6 tI, .bn p23 .add q22 (ci 1) tI, .cl p24 136 [q21, q23] tI, .mv p6 q24 tI] (.sO [.mv p25 q6 tI, .mv p26 q0 .s, .P p27 (.lens q26) tI, .bn p28 .lss q25 q27 .b, .mv p29 q28 .b, .ge p29 (XL.of [.G p29 true p30 (.mov q0) .s, .G p29 true p31 (.mov q6) tI, .G p29 true p32 (.idxs q30 q31) tC, .G p29 true p33 (.bin .eql q32 (.c (.int .u8 (.ofNat 101)))) .b, .P p34 (.pick q29 q33 (cb false)) .b]) p34 .b] (.cond q34 (.sO [.mv p35 q6 tI, .bn p36 .add q35 (ci 1) tI, .mv p6 q36 tI] (.sj v110_9 (.sO [.mv p37 q6 tI, .mv p38 q0 .s, .P p39 (.lens q38) tI, .bn p40 .lss q37 q39 .b, .mv p41 q40 .b, .ge p41 (XL.of [.G p41 true p42 (.mov q0) .s, .G p41 true p43 (.mov q6) tI, .G p41 true p44 (.idxs q42 q43) tC, .G p41 true p45 (.bin .eql q44 (.c (.int .u8 (.ofNat 43)))) .b, .G p41 true p46 (.mov q45) .b, .ge p46 (XL.of [.G p46 false p47 (.mov q0) .s, .G p46 false p48 (.mov q6) tI, .G p46 false p49 (.idxs q47 q48) tC, .G p46 false p50 (.bin .eql q49 (.c (.int .u8 (.ofNat 45)))) .b, .G p41 true p51 (.pick q46 (cb true) q50) .b]) p51 .b, .P p52 (.pick q41 q51 (cb false)) .b]) p52 .b] (.cond q52 (.s (.oX [.mv p53 q6 tI, .bn p54 .add q53 (ci 1) tI, .mv p6 q54 tI])) (.s .skip))) c110_9)) (.s .skip))))) (.s .skip))) c110_0))))
def x110 : XFn := ⟨[.s, tI], false, [(.tmp p4), (.tmp p5)], c110_e⟩
def e110_2 (k t6 t7 h) := kN k [(p6, (vI t6)), (p7, (vI t7))] h
def S110_2 (D : CallD) (m : Nat) (t6 t7 : Int) (h : HP) : Res2 :=
 some (.ret (.tup [(vI t7), (vI t6)]) h, .no)
def e110_3 (k t6 t7 t99 h) := kN k [(p6, (vI t6)), (p7, (vI t7)), (p99, (vB t99))] h
def S110_3 (D : CallD) (m : Nat) (t6 t7 : Int) (t99 : Bool) (h : HP) : Res2 :=
 br t99 (
 some (.ret (.tup [(kI 0), (kI 0)]) h, .no)) (
 S110_2 D m t6 t7 h)
def e110_1 (k t0 t1 t6 t7 h) := kN k [(p0, (vS t0)), (p1, (vI t1)), (p6, (vI t6)), (p7, (vI t7))] h
def S110_1 (D : CallD) (m : Nat) (t0 : LN) (t1 t6 t7 : Int) (h : HP) : Res2 :=
 let t87 := eqQ t7 (Int.ofNat 2)
 br t87 (
 let t90 := wrQ .i64 (t6 - t1)
 let t91 := ltQ (Int.ofNat 10) t90
 br t91 (
 S110_3 D m t6 t7 true h) (
 slC (vS t0) (some (vI t1)) (some (vI t6)) fun vt96 => asS vt96 fun t96 =>
 cal D 113 [(vS t96)] h fun t97 h12 =>
 asI .i64 t97 fun t97a =>
 let t98 := ltQ (Int.ofNat 4294967295) t97a
 S110_3 D m t6 t7 t98 h12)) (
 S110_2 D m t6 t7 h)
def e110_7 (k t0 t1 t6 t7 t85 h) := kN k [(p0, (vS t0)), (p1, (vI t1)), (p6, (vI t6)), (p7, (vI t7)), (p85, (vB t85))] h
def S110_7 (D : CallD) (m : Nat) (t0 : LN) (t1 t6 t7 : Int) (t85 : Bool) (h : HP) : Res2 :=
 br t85 (
 some (.ret (.tup [(kI 0), (kI 0)]) h, .no)) (
 S110_1 D m t0 t1 t6 t7 h)
def e110_6 (k t0 t1 t6 t7 t74 t84 h) := kN k [(p0, (vS t0)), (p1, (vI t1)), (p6, (vI t6)), (p7, (vI t7)), (p74, (vB t74)), (p84, (vB t84))] h
def S110_6 (D : CallD) (m : Nat) (t0 : LN) (t1 t6 t7 : Int) (t74 t84 : Bool) (h : HP) : Res2 :=
 obB (brV t74 (some (vB true)) (some (vB t84))) fun t85 =>
 S110_7 D m t0 t1 t6 t7 t85 h
def e110_5 (k t0 t1 t6 t7 t73 h) := kN k [(p0, (vS t0)), (p1, (vI t1)), (p6, (vI t6)), (p7, (vI t7)), (p73, (vB t73))] h
def S110_5 (D : CallD) (m : Nat) (t0 : LN) (t1 t6 t7 : Int) (t73 : Bool) (h : HP) : Res2 :=
 br t73 (
 S110_7 D m t0 t1 t6 t7 true h) (
 let t76 := eqQ t7 (Int.ofNat 3)
 br t76 (
 slC (vS t0) (some (vI t1)) (some (vI t6)) fun vt81 => asS vt81 fun t81 =>
 cal D 137 [(vS t81)] h fun t82 h14 =>
 asB t82 fun t82a =>
 let t83 := !t82a
 S110_6 D m t0 t1 t6 t7 false t83 h14) (
 S110_6 D m t0 t1 t6 t7 false false h))
def e110_0 (k t0 t1 t6 t7 h) := kN k [(p0, (vS t0)), (p1, (vI t1)), (p6, (vI t6)), (p7, (vI t7))] h
def S110_0 (D : CallD) (m : Nat) (t0 : LN) (t1 t6 t7 : Int) (h : HP) : Res2 :=
 let t60 := Int.ofNat (lenL t0)
 let t61 := ltQ t6 t60
 br t61 (
 ixC (vS t0) (vI t6) fun vt65 => asI .u8 vt65 fun t65 =>
 cal D 107 [(vC t65)] h fun t66 h13 =>
 asB t66 fun t66a =>
 obB (brV t66a (
 some (vB true)) (
 ixCV (vS t0) (vI t6) fun vt70 => asIV .u8 vt70 fun t70 =>
 let t71 := eqQ t70 (Int.ofNat 46)
 some (vB t71))) fun t72 =>
 S110_5 D m t0 t1 t6 t7 t72 h13) (
 S110_5 D m t0 t1 t6 t7 false h)
def e110_9 (k t0 t1 t6 t7 h) := kN k [(p0, (vS t0)), (p1, (vI t1)), (p6, (vI t6)), (p7, (vI t7))] h
def S110_9 (D : CallD) (m : Nat) (t0 : LN) (t1 t6 t7 : Int) (h : HP) : Res2 :=
 cal D 136 [(vS t0), (vI t6)] h fun t57 h16 =>
 asI .i64 t57 fun t57a =>
 S110_0 D m t0 t1 t57a t7 h16
def e110_10 (k t0 t1 h) := kN k [(p0, (vS t0)), (p1, (vI t1))] h
def S110_10 (D : CallD) (m : Nat) (t0 : LN) (t1 : Int) (h : HP) : Res2 :=
 cal D 136 [(vS t0), (vI t1)] h fun t10 h11 =>
 asI .i64 t10 fun t10a =>
 let t13 := Int.ofNat (lenL t0)
 let t14 := ltQ t10a t13
 obB (brV t14 (
 ixCV (vS t0) (vI t10a) fun vt18 => asIV .u8 vt18 fun t18 =>
 let t19 := eqQ t18 (Int.ofNat 46)
 some (vB t19)) (
 some (vB false))) fun t20 =>
 br t20 (
 let t23 := wrQ .i64 (addQ t10a (Int.ofNat 1))
 cal D 136 [(vS t0), (vI t23)] h11 fun t24 h15 =>
 asI .i64 t24 fun t24a =>
 let t27 := Int.ofNat (lenL t0)
 let t28 := ltQ t24a t27
 obB (brV t28 (
 ixCV (vS t0) (vI t24a) fun vt32 => asIV .u8 vt32 fun t32 =>
 let t33 := eqQ t32 (Int.ofNat 101)
 some (vB t33)) (
 some (vB false))) fun t34 =>
 br t34 (
 let t36 := wrQ .i64 (addQ t24a (Int.ofNat 1))
 let t39 := Int.ofNat (lenL t0)
 let t40 := ltQ t36 t39
 obB (brV t40 (
 ixCV (vS t0) (vI t36) fun vt44 => asIV .u8 vt44 fun t44 =>
 let t45 := eqQ t44 (Int.ofNat 43)
 obBV (brV t45 (
 some (vB true)) (
 ixCV (vS t0) (vI t36) fun vt49 => asIV .u8 vt49 fun t49 =>
 let t50 := eqQ t49 (Int.ofNat 45)
 some (vB t50))) fun t51 =>
 some (vB t51)) (
 some (vB false))) fun t52 =>
 br t52 (
 let t54 := wrQ .i64 (addQ t36 (Int.ofNat 1))
 S110_9 D m t0 t1 t54 (Int.ofNat 3) h15) (
 S110_9 D m t0 t1 t36 (Int.ofNat 3) h15)) (
 S110_0 D m t0 t1 t24a (Int.ofNat 3) h15)) (
 S110_0 D m t0 t1 t10a (Int.ofNat 2) h11)
def S110 : SFn := fun D m args h u => nou u <| popS args fun t0 args => popI .i64 args fun t1 args => endA args (S110_10 D m t0 t1 h)
theorem T110_2 (hE : FX x110 D m E) : S110_2 D m = e110_2 (E c110_2 []) := by unfold S110_2; rw [hE c110_2]; kernel_rfl
theorem T110_3 (hE : FX x110 D m E) : S110_3 D m = e110_3 (E (.opq false l110_3 c110_4) [.sj v110_2 c110_2]) := by unfold S110_3; rw [T110_2 hE, hE (.opq false l110_3 c110_4)]; kernel_rfl
theorem T110_1 (hE : FX x110 D m E) : S110_1 D m = e110_1 (E c110_1 []) := by unfold S110_1; rw [T110_3 hE, T110_2 hE, hE c110_1]; kernel_rfl
theorem T110_7 (hE : FX x110 D m E) : S110_7 D m = e110_7 (E (.opq false l110_7 c110_8) [.sj v110_1 c110_1]) := by unfold S110_7; rw [T110_1 hE, hE (.opq false l110_7 c110_8)]; kernel_rfl
theorem T110_6 (hE : FX x110 D m E) : S110_6 D m = e110_6 (E (.opq false l110_6 c110_8) [.sj v110_1 c110_1]) := by unfold S110_6; rw [T110_7 hE, hE (.opq false l110_6 c110_8)]; kernel_rfl
theorem T110_5 (hE : FX x110 D m E) : S110_5 D m = e110_5 (E (.opq false l110_5 c110_8) [.sj v110_1 c110_1]) := by unfold S110_5; rw [T110_7 hE, T110_6 hE, hE (.opq false l110_5 c110_8)]; kernel_rfl
theorem T110_0 (hE : FX x110 D m E) : S110_0 D m = e110_0 (E c110_0 []) := by unfold S110_0; rw [T110_5 hE, hE c110_0]; kernel_rfl
theorem T110_9 (hE : FX x110 D m E) : S110_9 D m = e110_9 (E c110_9 [.sj v110_0 c110_0]) := by unfold S110_9; rw [T110_0 hE, hE c110_9]; kernel_rfl
theorem T110_10 (hE : FX x110 D m E) : S110_10 D m = e110_10 (E c110_e []) := by unfold S110_10; rw [T110_9 hE, T110_0 hE, hE c110_e]; kernel_rfl
theorem X110 : XTie S110 x110 := X_of fun D m E hE args h u => by unfold S110; rw [T110_10 hE]; kernel_rfl
/- 112 -/
def c112_e : XC := (.sO [.al p1 (.box q0), .al p2 (.new [.nils, (kI 0), (kI 0), (kI 0), (kI 0)]), .al p3 (.new [(kI 0), .nils, .nils, (.str []), (kI 0), (kI 0), (kI 0)])] (.sO [.L p6 (.cells 5 q1) .v, .cl p7 115 [q6] .v, .cl p8 138 [q7] .v, .mv p5 q8 .v, .P p9 (.ext q5 0) .v, .P p10 (.ext q5 1) .v, .al p4 (.new [(kI 0), .nils, .nils, (.str []), (kI 0), (kI 0), (kI 0)]), .ss 5 q1 q9, .ss 7 q4 q10] (.seq (.ops true (XL.of [.L p11 (.cells 5 q1) .v, .L p13 (.cells 7 q4) .v, .o ⟨(some p12), (.call (.fn 116) [q11]), none, [⟨none, .cells 7 q4, p13⟩]⟩ .v, .o ⟨none, (.e (.stores 5 q2 q12)), none, [⟨none, .cells 7 q4, p13⟩]⟩ .v, .ss 7 q3 q13])) (.s .ret))))
def x112 : XFn := ⟨[.v], false, [(.cells 5 p2), (.cells 7 p3)], c112_e⟩
def e112_0 (k t0 h) := kN k [(p0, t0)] h
def S112_0 (D : CallD) (m : Nat) (t0 : AV) (h : HP) : Res2 :=
 let t1 := P0 h
 let h1 := HP.newQ h (.cells true (AV.cells t0))
 let t2 := P0 h1
 let h2 := nQ h1 [.nils, (kI 0), (kI 0), (kI 0), (kI 0)]
 let t3 := P0 h2
 let h3 := nQ h2 [(kI 0), .nils, .nils, (.str []), (kI 0), (kI 0), (kI 0)]
 cellsC 5 t1 h3 fun t6 =>
 cal D 115 [t6] h3 fun t7 h4 =>
 cal D 138 [t7] h4 fun t8 h5 =>
 extC t8 0 fun t9 =>
 extC t8 1 fun t10 =>
 let t4 := P0 h5
 let h6 := nQ h5 [(kI 0), .nils, .nils, (.str []), (kI 0), (kI 0), (kI 0)]
 stsC 5 t1 t9 h6 fun h7 =>
 stsC 7 t4 t10 h7 fun h8 =>
 cellsC 5 t1 h8 fun t11 =>
 cellsC 7 t4 h8 fun t13 =>
 cal D 116 [t11] h8 fun t12 h9 =>
 br (again [⟨none, .cells 7 q4, p13⟩] (mkT [(p13, t13), (p4, t4)]) h9) (
 stsC 5 t2 t12 h9 fun h10 =>
 br (againE (.stores 5 q2 q12) [⟨none, .cells 7 q4, p13⟩] (mkT [(p2, t2), (p13, t13), (p4, t4)]) h10) (
 stsC 7 t3 t13 h10 fun h11 =>
 cellsC 5 t2 h11 fun t2a =>
 cellsC 7 t3 h11 fun t3a =>
 some (.ret (.tup [t2a, t3a]) h11, .no)) none) none
def S112 : SFn := fun D m args h u => nou u <| popV args fun t0 args => endA args (S112_0 D m t0 h)
theorem T112_0 (hE : FX x112 D m E) : S112_0 D m = e112_0 (E c112_e []) := by unfold S112_0; rw [hE c112_e]; kernel_rfl
theorem X112 : XTie S112 x112 := X_of fun D m E hE args h u => by unfold S112; rw [T112_0 hE]; kernel_rfl
/- 113 -/
def v113_0 : List Pos := [p3]
def c113_0 : XC := (.sO [.mv p19 q3 tI, .mv p2 q19 tI] (.s .ret))
def v113_1 : List Pos := [p0, p3, p4]
def c113_1b : XC := (.seq (.seq (.oX [.mv p5 q4 tI, .mv p6 q0 .s, .P p7 (.lens q6) tI, .bn p8 .lss q5 q7 .b]) (.cond q8 .skip (.exit 0))) (.seq (.block 1 (.oX [.mv p11 q3 tI, .bn p12 .mul q11 (ci 10) tI, .mv p13 q0 .s, .mv p14 q4 tI, .P p15 (.idxs q13 q14) tC, .bn p16 .sub q15 (.c (.int .u8 (.ofNat 48))) tC, .P p17 (.conv (.ii .i64) q16) tI, .bn p18 .add q12 q17 tI, .mv p3 q18 tI])) (.s (.oX [.mv p9 q4 tI, .bn p10 .add q9 (ci 1) tI, .mv p4 q10 tI]))))
def c113_e : XC := (.sO [.mv p2 (ci 0) tI] (.sO [.mv p3 (ci 0) tI] (.sj v113_0 (.sO [.mv p4 (ci 0) tI] (.block 0 (.loop v113_1 c113_1b))) c113_0)))
def x113 : XFn := ⟨[.s], false, [(.tmp p2)], c113_e⟩
def e113_0 (k t3 h) := kN k [(p3, (vI t3))] h
def S113_0 (D : CallD) (m : Nat) (t3 : Int) (h : HP) : Res2 :=
 some (.ret (vI t3) h, .no)
def e113_1 (k t0 t3 t4 h) := kN k [(p0, (vS t0)), (p3, (vI t3)), (p4, (vI t4))] h
def S113_1b (D : CallD) (m : Nat) (g1 : LN → Int → Int → HP → Res2) (t0 : LN) (t3 t4 : Int) (h : HP) : Res2 :=
 let t7 := Int.ofNat (lenL t0)
 let t8 := ltQ t4 t7
 br t8 (
 let t12 := wrQ .i64 (t3 * (Int.ofNat 10))
 ixC (vS t0) (vI t4) fun vt15 => asI .u8 vt15 fun t15 =>
 let t16 := wrQ .u8 (t15 - (Int.ofNat 48))
 let t17 := wrapF .i64 t16
 let t18 := wrQ .i64 (addQ t12 t17)
 let t10 := wrQ .i64 (addQ t4 (Int.ofNat 1))
 g1 t0 t18 t10 h) (
 S113_0 D m t3 h)
def S113_1 (D : CallD) (m : Nat) : LN → Int → Int → HP → Res2 := nrec (fun _ _ _ _ => none) (fun _ g => S113_1b D m g) m
def e113_2 (k t0 h) := kN k [(p0, (vS t0))] h
def S113_2 (D : CallD) (m : Nat) (t0 : LN) (h : HP) : Res2 :=
 S113_1 D m t0 (Int.ofNat 0) (Int.ofNat 0) h
def S113 : SFn := fun D m args h u => nou u <| popS args fun t0 args => endA args (S113_2 D m t0 h)
theorem T113_0 (hE : FX x113 D m E) : S113_0 D m = e113_0 (E c113_0 []) := by unfold S113_0; rw [hE c113_0]; kernel_rfl
theorem T113_1b (hE : FX x113 D m E) (G1) : S113_1b D m (e113_1 G1) = e113_1 (E c113_1b [.lp v113_1 G1, .blk 0, .sj v113_0 c113_0]) := by unfold S113_1b; rw [T113_0 hE, hE c113_1b]; kernel_rfl
theorem T113_1 (hE : FX x113 D m E) : S113_1 D m = e113_1 (nrec (fun _ => none) (fun _ G1 st => E c113_1b [.lp v113_1 G1, .blk 0, .sj v113_0 c113_0] st) m) :=
  nrec_emb e113_1 (fun _ _ _ _ => none) (fun g => S113_1b D m g) (fun G1 st => E c113_1b [.lp v113_1 G1, .blk 0, .sj v113_0 c113_0] st) rfl (fun g => T113_1b hE g) m
theorem T113_2 (hE : FX x113 D m E) : S113_2 D m = e113_2 (E c113_e []) := by unfold S113_2; rw [T113_1 hE, hE c113_e]; kernel_rfl
theorem X113 : XTie S113 x113 := X_of fun D m E hE args h u => by unfold S113; rw [T113_2 hE]; kernel_rfl
/- 114 -/
def v114_0 : List Pos := [p2, p4, p5, p6]
def c114_0 : XC := (.seq (.ops true (XL.of [.L p51 (.cells 5 q2) .v, .L p52 (.cells 8 q6) .v, .o ⟨none, (.e (.stores 5 q4 q51)), none, [⟨none, .cells 8 q6, p52⟩]⟩ .v, .ss 8 q5 q52])) (.s .ret))
def v114_2 : List Pos := [p1, p2, p4, p5, p6]
def c114_2 : XC := (.block 1 (.sO [.L p31 (.cells 5 q2) .v, .cl p32 50 [q31] .v, .P p33 (.field 1 1 false q32) .s, .mv p7 q33 .s] (.sO [.P p34 (.build [(kI 0), (.str []), (.str []), (.int .u32 (.ofNat 0)), (.int .u64 (.ofNat 0)), .nils, (kI 0), (kI 0)] []) .v, .al p8 (.new [(kI 0), (.str []), (.str []), (.int .u32 (.ofNat 0)), (.int .u64 (.ofNat 0)), .nils, (kI 0), (kI 0)]), .ss 8 q8 q34] (.sO [.L p36 (.cells 5 q2) .v, .cl p37 74 [q36] .v, .mv p38 q7 .s, .cl p39 140 [q38] tI, .bn p40 .add q39 (ci 1) tI, .cl p41 114 [q37, q40] .v, .mv p35 q41 .v, .P p42 (.ext q35 0) .v, .P p43 (.ext q35 1) .v, .ss 5 q2 q42, .ss 8 q8 q43] (.s (.oX [.mv p44 q7 .s, .L p45 (.cells 8 q6) .v, .L p46 (.cells 8 q8) .v, .al p47 (.bsl [(kI 0), (.str []), (.str []), (.int .u32 (.ofNat 0)), (.int .u64 (.ofNat 0)), .nils, (kI 0), (kI 0), (kI 0), (.str []), (.str []), (.int .u32 (.ofNat 0)), (.int .u64 (.ofNat 0)), .nils, (kI 0), (kI 0)] 2 [⟨0, 8, q45⟩, ⟨8, 8, q46⟩]), .fa p48 7 q6, .ld p49 q48 tI, .P p50 (.build [(kI 0), (.str []), (.str []), (.int .u32 (.ofNat 0)), (.int .u64 (.ofNat 0)), .nils, (kI 0), (kI 0)] [⟨0, 1, (ci 5)⟩, ⟨1, 1, q44⟩, ⟨5, 1, q47⟩, ⟨7, 1, q49⟩]) .v, .ss 8 q6 q50]))))))
def c114_5 : XC := (.cond q30 (.s .skip) (.s (.exit 0)))
def l114_4 : XL := (XL.of [])
def l114_3 : XL := (XL.pre [.mv p23 q22 .b, .sp p23, .o ⟨(some p24), (.l (.cells 5 q2)), (some (p23, true)), []⟩ .v, .o ⟨(some p25), (.call (.fn 50) [q24]), (some (p23, true)), []⟩ .v, .G p23 true p26 (.field 1 1 false q25) .s, .o ⟨(some p27), (.call (.fn 140) [q26]), (some (p23, true)), []⟩ tI, .G p23 true p28 (.mov q1) tI, .G p23 true p29 (.bin .geq q27 q28) .b, .P p30 (.pick q23 q29 (cb false)) .b, .jn p23 [p1, p2, p4, p5, p6, p30]] l114_4)
def v114_1 : List Pos := [p1, p2, p4, p5, p6]
def c114_1b : XC := (.sj v114_2 (.opq false (XL.pre [.fa p14 3 q2, .ld p15 q14 tI, .bn p16 .eql q15 (ci 0) .b, .mv p17 q16 .b, .sp p17, .o ⟨(some p18), (.l (.cells 5 q2)), (some (p17, true)), []⟩ .v, .o ⟨(some p19), (.call (.fn 50) [q18]), (some (p17, true)), []⟩ .v, .G p17 true p20 (.field 0 1 false q19) tI, .G p17 true p21 (.bin .eql q20 (ci 4)) .b, .P p22 (.pick q17 q21 (cb false)) .b, .jn p17 [p1, p2, p4, p5, p6, p22]] l114_3) c114_5) c114_2)
def c114_e : XC := (.sO [.al p2 (.box q0), .al p4 (.new [.nils, (kI 0), (kI 0), (kI 0), (kI 0)]), .al p5 (.new [(kI 0), (.str []), (.str []), (.int .u32 (.ofNat 0)), (.int .u64 (.ofNat 0)), .nils, (kI 0), (kI 0)])] (.sO [.L p10 (.cells 5 q2) .v, .cl p11 139 [q10] .v, .mv p9 q11 .v, .P p12 (.ext q9 0) .v, .P p13 (.ext q9 1) .v, .al p6 (.new [(kI 0), (.str []), (.str []), (.int .u32 (.ofNat 0)), (.int .u64 (.ofNat 0)), .nils, (kI 0), (kI 0)]), .ss 5 q2 q12, .ss 8 q6 q13] (.sj v114_0 (.block 0 (.loop v114_1 c114_1b)) c114_0)))
def x114 : XFn := ⟨[.v, tI], false, [(.cells 5 p4), (.cells 8 p5)], c114_e⟩
def e114_0 (k t2 t4 t5 t6 h) := kN k [(p2, t2), (p4, t4), (p5, t5), (p6, t6)] h
def S114_0 (D : CallD) (m : Nat) (t2 t4 t5 t6 : AV) (h : HP) : Res2 :=
 cellsC 5 t2 h fun t51 =>
 cellsC 8 t6 h fun t52 =>
 stsC 5 t4 t51 h fun h14 =>
 br (againE (.stores 5 q4 q51) [⟨none, .cells 8 q6, p52⟩] (mkT [(p4, t4), (p52, t52), (p6, t6)]) h14) (
 stsC 8 t5 t52 h14 fun h15 =>
 cellsC 5 t4 h15 fun t4a =>
 cellsC 8 t5 h15 fun t5a =>
 some (.ret (.tup [t4a, t5a]) h15, .no)) none
def e114_2 (k t1 t2 t4 t5 t6 h) := kN k [(p1, (vI t1)), (p2, t2), (p4, t4), (p5, t5), (p6, t6)] h
def S114_2 (D : CallD) (m : Nat) (g1 : Int → AV → AV → AV → AV → HP → Res2) (t1 : Int) (t2 t4 t5 t6 : AV) (h : HP) : Res2 :=
 cellsC 5 t2 h fun t31 =>
 cal D 50 [t31] h fun t32 h16 =>
 fldC 1 1 false t32 fun vt33 => asS vt33 fun t33 =>
 let t34 := (AV.agg [(kI 0), (vS ([] : LN)), (vS ([] : LN)), (vW (Int.ofNat 0)), (AV.int .u64 (Int.ofNat 0)), (.nils : AV), (kI 0), (kI 0)])
 let t8 := P0 h16
 let h17 := nQ h16 [(kI 0), (.str []), (.str []), (.int .u32 (.ofNat 0)), (.int .u64 (.ofNat 0)), .nils, (kI 0), (kI 0)]
 stsC 8 t8 t34 h17 fun h18 =>
 cellsC 5 t2 h18 fun t36 =>
 cal D 74 [t36] h18 fun t37 h19 =>
 cal D 140 [(vS t33)] h19 fun t39 h20 =>
 asI .i64 t39 fun t39a =>
 let t40 := wrQ .i64 (addQ t39a (Int.ofNat 1))
 cal D 114 [t37, (vI t40)] h20 fun t41 h21 =>
 extC t41 0 fun t42 =>
 extC t41 1 fun t43 =>
 stsC 5 t2 t42 h21 fun h22 =>
 stsC 8 t8 t43 h22 fun h23 =>
 cellsC 8 t6 h23 fun t45 =>
 cellsC 8 t8 h23 fun t46 =>
 obQ (evA (.bsl [(kI 0), (.str []), (.str []), (.int .u32 (.ofNat 0)), (.int .u64 (.ofNat 0)), .nils, (kI 0), (kI 0), (kI 0), (.str []), (.str []), (.int .u32 (.ofNat 0)), (.int .u64 (.ofNat 0)), .nils, (kI 0), (kI 0)] 2 [⟨0, 8, (.c t45)⟩, ⟨8, 8, (.c t46)⟩]) .leaf) fun r24 =>
 let t47 := vkV r24.2 (HP.nxQ h23)
 let h25 := HP.newQ h23 r24.1
 faC 7 t6 fun t48 =>
 ldI t48 h25 fun t49 =>
 obQ (evP (.build [(kI 0), (.str []), (.str []), (.int .u32 (.ofNat 0)), (.int .u64 (.ofNat 0)), .nils, (kI 0), (kI 0)] [⟨0, 1, (.c (kI 5))⟩, ⟨1, 1, (.c (vS t33))⟩, ⟨5, 1, (.c t47)⟩, ⟨7, 1, (.c (vI t49))⟩]) .leaf) fun t50 =>
 stsC 8 t6 t50 h25 fun h26 =>
 g1 t1 t2 t4 t5 t6 h26
def e114_4 (k t1 t2 t4 t5 t6 t30 h) := kN k [(p1, (vI t1)), (p2, t2), (p4, t4), (p5, t5), (p6, t6), (p30, (vB t30))] h
def S114_4 (D : CallD) (m : Nat) (g1 : Int → AV → AV → AV → AV → HP → Res2) (t1 : Int) (t2 t4 t5 t6 : AV) (t30 : Bool) (h : HP) : Res2 :=
 br t30 (
 S114_2 D m g1 t1 t2 t4 t5 t6 h) (
 S114_0 D m t2 t4 t5 t6 h)
def e114_3 (k t1 t2 t4 t5 t6 t22 h) := kN k [(p1, (vI t1)), (p2, t2), (p4, t4), (p5, t5), (p6, t6), (p22, (vB t22))] h
def S114_3 (D : CallD) (m : Nat) (g1 : Int → AV → AV → AV → AV → HP → Res2) (t1 : Int) (t2 t4 t5 t6 : AV) (t22 : Bool) (h : HP) : Res2 :=
 br t22 (
 cellsC 5 t2 h fun t24 =>
 cal D 50 [t24] h fun t25 h28 =>
 fldC 1 1 false t25 fun vt26 => asS vt26 fun t26 =>
 cal D 140 [(vS t26)] h28 fun t27 h29 =>
 asI .i64 t27 fun t27a =>
 let t29 := leQ t1 t27a
 S114_4 D m g1 t1 t2 t4 t5 t6 t29 h29) (
 S114_4 D m g1 t1 t2 t4 t5 t6 false h)
def e114_1 (k t1 t2 t4 t5 t6 h) := kN k [(p1, (vI t1)), (p2, t2), (p4, t4), (p5, t5), (p6, t6)] h
def S114_1b (D : CallD) (m : Nat) (g1 : Int → AV → AV → AV → AV → HP → Res2) (t1 : Int) (t2 t4 t5 t6 : AV) (h : HP) : Res2 :=
 faC 3 t2 fun t14 =>
 ldI t14 h fun t15 =>
 let t16 := eqQ t15 (Int.ofNat 0)
 br t16 (
 cellsC 5 t2 h fun t18 =>
 cal D 50 [t18] h fun t19 h27 =>
 fldC 0 1 false t19 fun vt20 => asI .i64 vt20 fun t20 =>
 let t21 := eqQ t20 (Int.ofNat 4)
 S114_3 D m g1 t1 t2 t4 t5 t6 t21 h27) (
 S114_3 D m g1 t1 t2 t4 t5 t6 false h)
def S114_1 (D : CallD) (m : Nat) : Int → AV → AV → AV → AV → HP → Res2 := nrec (fun _ _ _ _ _ _ => none) (fun _ g => S114_1b D m g) m
def e114_6 (k t0 t1 h) := kN k [(p0, t0), (p1, (vI t1))] h
def S114_6 (D : CallD) (m : Nat) (t0 : AV) (t1 : Int) (h : HP) : Res2 :=
 let t2 := P0 h
 let h7 := HP.newQ h (.cells true (AV.cells t0))
 let t4 := P0 h7
 let h8 := nQ h7 [.nils, (kI 0), (kI 0), (kI 0), (kI 0)]
 let t5 := P0 h8
 let h9 := nQ h8 [(kI 0), (.str []), (.str []), (.int .u32 (.ofNat 0)), (.int .u64 (.ofNat 0)), .nils, (kI 0), (kI 0)]
 cellsC 5 t2 h9 fun t10 =>
 cal D 139 [t10] h9 fun t11 h10 =>
 extC t11 0 fun t12 =>
 extC t11 1 fun t13 =>
 let t6 := P0 h10
 let h11 := nQ h10 [(kI 0), (.str []), (.str []), (.int .u32 (.ofNat 0)), (.int .u64 (.ofNat 0)), .nils, (kI 0), (kI 0)]
 stsC 5 t2 t12 h11 fun h12 =>
 stsC 8 t6 t13 h12 fun h13 =>
 S114_1 D m t1 t2 t4 t5 t6 h13
def S114 : SFn := fun D m args h u => nou u <| popV args fun t0 args => popI .i64 args fun t1 args => endA args (S114_6 D m t0 t1 h)
theorem T114_0 (hE : FX x114 D m E) : S114_0 D m = e114_0 (E c114_0 []) := by unfold S114_0; rw [hE c114_0]; kernel_rfl
theorem T114_2 (hE : FX x114 D m E) (G1) : S114_2 D m (e114_1 G1) = e114_2 (E c114_2 [.lp v114_1 G1, .blk 0, .sj v114_0 c114_0]) := by unfold S114_2; rw [hE c114_2]; kernel_rfl
theorem T114_4 (hE : FX x114 D m E) (G1) : S114_4 D m (e114_1 G1) = e114_4 (E (.opq false l114_4 c114_5) [.sj v114_2 c114_2, .lp v114_1 G1, .blk 0, .sj v114_0 c114_0]) := by unfold S114_4; rw [T114_2 hE G1, T114_0 hE, hE (.opq false l114_4 c114_5)]; kernel_rfl
theorem T114_3 (hE : FX x114 D m E) (G1) : S114_3 D m (e114_1 G1) = e114_3 (E (.opq false l114_3 c114_5) [.sj v114_2 c114_2, .lp v114_1 G1, .blk 0, .sj v114_0 c114_0]) := by unfold S114_3; rw [T114_4 hE G1, hE (.opq false l114_3 c114_5)]; kernel_rfl
theorem T114_1b (hE : FX x114 D m E) (G1) : S114_1b D m (e114_1 G1) = e114_1 (E c114_1b [.lp v114_1 G1, .blk 0, .sj v114_0 c114_0]) := by unfold S114_1b; rw [T114_3 hE G1, hE c114_1b]; kernel_rfl
theorem T114_1 (hE : FX x114 D m E) : S114_1 D m = e114_1 (nrec (fun _ => none) (fun _ G1 st => E c114_1b [.lp v114_1 G1, .blk 0, .sj v114_0 c114_0] st) m) :=
  nrec_emb e114_1 (fun _ _ _ _ _ _ => none) (fun g => S114_1b D m g) (fun G1 st => E c114_1b [.lp v114_1 G1, .blk 0, .sj v114_0 c114_0] st) rfl (fun g => T114_1b hE g) m
theorem T114_6 (hE : FX x114 D m E) : S114_6 D m = e114_6 (E c114_e []) := by unfold S114_6; rw [T114_1 hE, hE c114_e]; kernel_rfl
theorem X114 : XTie S114 x114 := X_of fun D m E hE args h u => by unfold S114; rw [T114_6 hE]; kernel_rfl
/- 115 -/
def v115_0 : List Pos := [p1, p2]
def c115_0 : XC := (.sO [.fa p8 2 q1, .ld p9 q8 tI, .bn p10 .add q9 (ci 1) tI, .fa p11 2 q1, .st q11 q10] (.sO [.L p12 (.cells 5 q1) .v, .ss 5 q2 q12] (.s .ret)))
def c115_e : XC := (.sO [.al p1 (.box q0), .al p2 (.new [.nils, (kI 0), (kI 0), (kI 0), (kI 0)])] (.sj v115_0 (.sO [.fa p3 2 q1, .ld p4 q3 tI, .bn p5 .geq q4 (ci 40) .b] (.cond q5 (.s (.oX [.L p6 (.cells 5 q1) .v, .cl p7 111 [q6, (ci 12)] .v, .ss 5 q1 q7])) (.s .skip))) c115_0))
def x115 : XFn := ⟨[.v], false, [(.cells 5 p2)], c115_e⟩
def e115_0 (k t1 t2 h) := kN k [(p1, t1), (p2, t2)] h
def S115_0 (D : CallD) (m : Nat) (t1 t2 : AV) (h : HP) : Res2 :=
 faC 2 t1 fun t8 =>
 ldI t8 h fun t9 =>
 let t10 := wrQ .i64 (addQ t9 (Int.ofNat 1))
 faC 2 t1 fun t11 =>
 stoC t11 (vI t10) h fun h4 =>
 cellsC 5 t1 h4 fun t12 =>
 stsC 5 t2 t12 h4 fun h5 =>
 cellsC 5 t2 h5 fun t2a =>
 some (.ret t2a h5, .no)
def e115_1 (k t0 h) := kN k [(p0, t0)] h
def S115_1 (D : CallD) (m : Nat) (t0 : AV) (h : HP) : Res2 :=
 let t1 := P0 h
 let h2 := HP.newQ h (.cells true (AV.cells t0))
 let t2 := P0 h2
 let h3 := nQ h2 [.nils, (kI 0), (kI 0), (kI 0), (kI 0)]
 let t3 := (AV.ptr (HP.nxQ h) (Nat.add 0 2))
 ldI t3 h3 fun t4 =>
 let t5 := leQ (Int.ofNat 40) t4
 br t5 (
 cellsC 5 t1 h3 fun t6 =>
 cal D 111 [t6, (kI 12)] h3 fun t7 h6 =>
 stsC 5 t1 t7 h6 fun h7 =>
 S115_0 D m t1 t2 h7) (
 S115_0 D m t1 t2 h3)
def S115 : SFn := fun D m args h u => nou u <| popV args fun t0 args => endA args (S115_1 D m t0 h)
theorem T115_0 (hE : FX x115 D m E) : S115_0 D m = e115_0 (E c115_0 []) := by unfold S115_0; rw [hE c115_0]; kernel_rfl
theorem T115_1 (hE : FX x115 D m E) : S115_1 D m = e115_1 (E c115_e []) := by unfold S115_1; rw [T115_0 hE, hE c115_e]; kernel_rfl
theorem X115 : XTie S115 x115 := X_of fun D m E hE args h u => by unfold S115; rw [T115_1 hE]; kernel_rfl
/- 116 -/
def c116_e : XC := (.sO [.al p1 (.box q0), .al p2 (.new [.nils, (kI 0), (kI 0), (kI 0), (kI 0)])] (.sO [.fa p3 2 q1, .ld p4 q3 tI, .bn p5 .sub q4 (ci 1) tI, .fa p6 2 q1, .st q6 q5] (.sO [.L p7 (.cells 5 q1) .v, .ss 5 q2 q7] (.s .ret))))
def x116 : XFn := ⟨[.v], false, [(.cells 5 p2)], c116_e⟩
def e116_0 (k t0 h) := kN k [(p0, t0)] h
def S116_0 (D : CallD) (m : Nat) (t0 : AV) (h : HP) : Res2 :=
 let t1 := P0 h
 let h1 := HP.newQ h (.cells true (AV.cells t0))
 let t2 := P0 h1
 let h2 := nQ h1 [.nils, (kI 0), (kI 0), (kI 0), (kI 0)]
 let t3 := (AV.ptr (HP.nxQ h) (Nat.add 0 2))
 ldI t3 h2 fun t4 =>
 let t5 := wrQ .i64 (t4 - (Int.ofNat 1))
 let t6 := (AV.ptr (HP.nxQ h) (Nat.add 0 2))
 stoC t6 (vI t5) h2 fun h3 =>
 cellsC 5 t1 h3 fun t7 =>
 stsC 5 t2 t7 h3 fun h4 =>
 cellsC 5 t2 h4 fun t2a =>
 some (.ret t2a h4, .no)
def S116 : SFn := fun D m args h u => nou u <| popV args fun t0 args => endA args (S116_0 D m t0 h)
theorem T116_0 (hE : FX x116 D m E) : S116_0 D m = e116_0 (E c116_e []) := by unfold S116_0; rw [hE c116_e]; kernel_rfl
theorem X116 : XTie S116 x116 := X_of fun D m E hE args h u => by unfold S116; rw [T116_0 hE]; kernel_rfl
end
end Go.Proofs.YtblciblkocameaaGreat.Sx
