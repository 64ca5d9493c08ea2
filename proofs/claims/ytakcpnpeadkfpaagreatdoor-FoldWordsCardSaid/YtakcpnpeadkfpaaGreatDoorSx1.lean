/- Functions, printed by a program of ours: their code, what they do, and that it is so. -/
import Derived.Test.YtakcpnpeadkfpaaGreatDoorSp
set_option maxRecDepth 8000
set_option linter.unusedVariables false
namespace Go.Proofs.YtakcpnpeadkfpaaGreatDoor.Sx
open Go Go.Proofs.YtakcpnpeadkfpaaGreatDoor.Ev
set_option linter.unusedSectionVars false
noncomputable section
variable [Rho]
variable {D : CallD} {m : Nat} {E : XE}
/- 59 -/
def x59 : XFn := ⟨[.v, .v], false, [(.cells 5 p4)], (.sO [.al p2 (.box q0), .al p3 (.box q1), .al p4 (.new Zc)] (.sj [p3, p4] (.sO [.fa p13 0 q3, .ld p14 q13 tI] (.block 0 (.sO [.bn p16 .eql q14 (ci 1) .b, .mv p15 q16 .b] (.cond q15 (.sO [.fa p17 6 q3, .ld p18 q17 tI, .fa p19 3 q3, .ld p20 q19 tW, .P p21 (.build Zc [⟨0, 1, q18⟩, ⟨1, 1, q20⟩]) .v, .ss 5 q4 q21] (.s .ret)) (.sO [.bn p23 .eql q14 (ci 2) .b, .mv p22 q23 .b] (.cond q22 (.sO [.fa p24 4 q3, .ld p25 q24 (.i .u64), .P p26 (.build Zc [⟨0, 1, (ci 2)⟩, ⟨2, 1, q25⟩]) .v, .ss 5 q4 q26] (.s .ret)) (.sO [.bn p28 .eql q14 (ci 3) .b, .mv p27 q28 .b] (.cond q27 (.opq false (XL.pre [.fa p29 3 q3, .ld p30 q29 tW, .bn p31 .eql q30 (.c (.int .u32 (.ofNat 1))) .b, .mv p32 q31 .b, .sp p32, .o ⟨(some p33), (.l (.cells 1 q2)), (some (p32, true)), []⟩ .v, .G p32 true p34 (.faddr 2 q3) .v, .o ⟨(some p35), (.l (.cell q34)), (some (p32, true)), []⟩ .s, .o ⟨(some p36), (.call (.fn 89) [q33, q35]), (some (p32, true)), []⟩ tI, .G p32 true p37 (.bin .gtr q36 (ci 0)) .b, .P p38 (.pick q32 q37 (cb false)) .b, .jn p32 [p3, p4, p38]] (XL.of [])) (.cond q38 (.sO [.fa p39 6 q3, .ld p40 q39 tI, .fa p41 2 q3, .ld p42 q41 .s, .P p43 (.build Zc [⟨0, 1, q40⟩, ⟨3, 1, q42⟩]) .v, .ss 5 q4 q43] (.s .ret)) (.s .skip))) (.sO [.bn p45 .eql q14 (ci 4) .b, .mv p44 q45 .b] (.cond q44 (.seq (.seq (.oX [.fa p46 1 q3, .ld p47 q46 .s, .bn p48 .eql q47 (.c (.str [38])) .b]) (.cond q48 (.seq (.oX [.L p49 (.cells 1 q2) .v, .L p50 (.cells 8 q3) .v, .cl p51 90 [q49, q50] .v, .ss 5 q4 q51]) .ret) .skip)) (.seq (.ops true (XL.of [.fa p53 1 q3, .ld p54 q53 .s, .L p55 (.cells 1 q2) .v, .fa p56 5 q3, .ld p57 q56 .v, .P p58 (.iaddr (.sl 8) q57 (ci 0)) .v, .L p59 (.cells 8 q58) .v, .al p5 (.new Zc), .o ⟨(some p60), (.call (.fn 59) [q55, q59]), none, [⟨none, .cell q53, p54⟩]⟩ .v, .cl p61 9 [q54, q60] .v, .mv p52 q61 .v, .P p62 (.ext q52 0) .v, .P p63 (.ext q52 1) tI, .ss 5 q5 q62, .mv p6 q63 tI])) (.sO [.mv p64 q6 tI, .bn p65 .eql q64 (ci 0) .b] (.cond q65 (.sO [.L p66 (.cells 5 q5) .v, .ss 5 q4 q66] (.s .ret)) (.s .skip))))) (.sO [.bn p68 .eql q14 (ci 5) .b, .mv p67 q68 .b] (.cond q67 (.seq (.ops true (XL.of [.L p69 (.cells 1 q2) .v, .fa p70 5 q3, .ld p71 q70 .v, .P p72 (.iaddr (.sl 8) q71 (ci 0)) .v, .L p73 (.cells 8 q72) .v, .L p75 (.cells 1 q2) .v, .fa p76 5 q3, .ld p77 q76 .v, .P p78 (.iaddr (.sl 8) q77 (ci 1)) .v, .L p79 (.cells 8 q78) .v, .al p7 (.new Zc), .al p8 (.new Zc), .o ⟨(some p74), (.call (.fn 59) [q69, q73]), none, [⟨none, .cells 1 q2, p75⟩, ⟨none, .cell q76, p77⟩, ⟨none, .cells 8 q78, p79⟩]⟩ .v, .cl p80 59 [q75, q79] .v, .ss 5 q7 q74, .ss 5 q8 q80])) (.seq (.seq (.oX [.fa p81 0 q7, .ld p82 q81 tI, .cl p83 91 [q82] .b, .mv p84 q83 .b, .ge p84 (XL.of [.G p84 true p85 (.faddr 0 q8) .v, .o ⟨(some p86), (.l (.cell q85)), (some (p84, true)), []⟩ tI, .G p84 true p87 (.bin .eql q86 (ci 1)) .b, .P p88 (.pick q84 q87 (cb false)) .b]) p88 .b, .mv p89 q88 .b, .ge p89 (XL.of [.G p89 true p90 (.faddr 1 q3) .v, .o ⟨(some p91), (.l (.cell q90)), (some (p89, true)), []⟩ .s, .G p89 true p92 (.bin .eql q91 (.c (.str [43]))) .b, .G p89 true p93 (.mov q92) .b, .ge p93 (XL.of [.G p93 false p94 (.faddr 1 q3) .v, .o ⟨(some p95), (.l (.cell q94)), (some (p93, false)), []⟩ .s, .G p93 false p96 (.bin .eql q95 (.c (.str [45]))) .b, .G p89 true p97 (.pick q93 (cb true) q96) .b]) p97 .b, .P p98 (.pick q89 q97 (cb false)) .b]) p98 .b]) (.cond q98 (.seq (.oX [.L p99 (.cells 1 q2) .v, .L p100 (.cells 5 q7) .v, .fa p101 1 q8, .ld p102 q101 tW, .fa p103 1 q3, .ld p104 q103 .s, .bn p105 .eql q104 (.c (.str [45])) .b, .fa p106 7 q3, .ld p107 q106 tI, .cl p108 92 [q99, q100, q102, q105, q107] .v, .ss 5 q4 q108]) .ret) .skip)) (.sO [.fa p110 1 q3, .ld p111 q110 .s, .L p112 (.cells 5 q7) .v, .L p113 (.cells 5 q8) .v, .cl p114 7 [q111, q112, q113] .v, .mv p109 q114 .v, .P p115 (.ext q109 0) .v, .P p116 (.ext q109 1) tI, .al p9 (.new Zc), .ss 5 q9 q115, .mv p10 q116 tI] (.sO [.mv p117 q10 tI, .bn p118 .eql q117 (ci 0) .b] (.cond q118 (.sO [.L p119 (.cells 5 q9) .v, .ss 5 q4 q119] (.s .ret)) (.s .skip)))))) (.sO [.bn p121 .eql q14 (ci 9) .b, .mv p120 q121 .b] (.cond q120 (.seq (.ops true (XL.of [.L p122 (.cells 1 q2) .v, .fa p123 5 q3, .ld p124 q123 .v, .P p125 (.iaddr (.sl 8) q124 (ci 0)) .v, .L p126 (.cells 8 q125) .v, .fa p128 3 q3, .ld p129 q128 tW, .P p130 (.conv (.ii .i64) q129) tI, .o ⟨(some p127), (.call (.fn 59) [q122, q126]), none, [⟨none, .cell q128, p129⟩]⟩ .v, .cl p131 93 [q127, q130] .v, .ss 5 q4 q131])) (.s .ret)) (.sj [p2, p3, p4, p132] (.sO [.bn p133 .eql q14 (ci 6) .b, .mv p132 q133 .b] (.cond q132 (.s .skip) (.sO [.bn p134 .eql q14 (ci 7) .b, .mv p132 q134 .b] (.cond q132 (.s .skip) (.s (.oX [.bn p135 .eql q14 (ci 8) .b, .mv p132 q135 .b])))))) (.cond q132 (.sO [.fa p136 5 q3, .ld p137 q136 .v, .P p138 (.lenl q137) tI, .mv p139 (ci 0) tI] (.block 1 (.loop [p2, p3, p4, p137, p138, p139] (.sO [.bn p140 .lss q139 q138 .b] (.seq (.cond q140 .skip (.exit 1)) (.seq (.block 2 (.seq (.oX [.P p141 (.iaddr (.sl 8) q137 q139) .v, .L p142 (.cells 8 q141) .v, .al p12 (.new Ze), .ss 8 q12 q142]) (.oX [.L p143 (.cells 1 q2) .v, .L p144 (.cells 8 q12) .v, .cl p145 59 [q143, q144] .v]))) (.s (.oX [.bn p146 .add q139 (ci 1) tI, .mv p139 q146 tI])))))))) (.s .skip))))))))))))))))) (.s (.oX [.fa p147 7 q3, .ld p148 q147 tI, .P p149 (.build [(kI 0)] [⟨0, 1, q148⟩]) .v, .P p150 (.mkif 127 q149) .v, .o ⟨none, (.panic q150), none, []⟩ .v]))))⟩
def S59 : SFn := evFX x59
theorem X59 : XTie S59 x59 := fun _ _ _ _ _ => rfl
/- 60 -/
def v60_1 : List Pos := [p0, p1, p2, p14]
def c60_1 : XC := (.sO [.mv p190 q1 (.i .u64), .cl p191 96 [q190] .v, .mv p189 q191 .v, .P p192 (.ext q189 0) tI, .P p193 (.ext q189 1) tI, .mv p19 q192 tI, .mv p20 q193 tI] (.sO [.mv p195 q2 (.i .u64), .cl p196 96 [q195] .v, .mv p194 q196 .v, .P p197 (.ext q194 0) tI, .P p198 (.ext q194 1) tI, .mv p21 q197 tI, .mv p22 q198 tI] (.seq (.seq (.oX [.mv p199 q0 tI, .bn p200 .eql q199 (ci 47) .b]) (.cond q200 (.seq (.oX [.mv p201 q14 (.i .u64), .mv p202 q19 tI, .cl p203 99 [q202] .v, .mv p204 q21 tI, .cl p205 99 [q204] .v, .cl p206 98 [q203, q205] .v, .cl p207 99 [(ci 1)] .v, .mv p208 q20 tI, .mv p209 q22 tI, .bn p210 .add q208 q209 tI, .cl p211 97 [q206, q207, q210] (.i .u64), .cl p212 95 [q201, q211] (.i .u64), .mv p6 q212 (.i .u64), .mv p7 (cb true) .b]) .ret) .skip)) (.sO [.mv p213 q14 (.i .u64), .mv p214 q19 tI, .cl p215 99 [q214] .v, .mv p216 q21 tI, .cl p217 99 [q216] .v, .mv p218 q20 tI, .mv p219 q22 tI, .bn p220 .sub q218 q219 tI, .cl p221 97 [q215, q217, q220] (.i .u64), .cl p222 95 [q213, q221] (.i .u64), .mv p6 q222 (.i .u64), .mv p7 (cb true) .b] (.s .ret)))))
def v60_3 : List Pos := [p0, p1, p2, p14, p18, p161]
def c60_3 : XC := (.cond q161 (.sO [.mv p179 q14 (.i .u64), .cl p180 95 [q179, (.c (.int .u64 (.ofNat 9218868437227405312)))] (.i .u64), .mv p6 q180 (.i .u64), .mv p7 (cb true) .b] (.s .ret)) (.sO [.mv p182 q0 tI, .bn p183 .eql q182 (ci 48) .b, .mv p184 q183 .b, .ge p184 (XL.of [.G p184 true p185 (.mov q18) .b, .P p186 (.pick q184 q185 (cb false)) .b]) p186 .b, .mv p181 q186 .b] (.cond q181 (.sO [.mv p187 q14 (.i .u64), .cl p188 95 [q187, (.c Z64)] (.i .u64), .mv p6 q188 (.i .u64), .mv p7 (cb true) .b] (.s .ret)) (.s .skip))))
def v60_2 : List Pos := [p0, p1, p2, p8, p11, p14, p15, p16, p17, p18, p67]
def c60_2 : XC := (.cond q67 (.sO [.mv p6 (.c (.int .u64 (.ofNat 9221120237041090560))) (.i .u64), .mv p7 (cb true) .b] (.s .ret)) (.sO [.mv p114 q0 tI, .bn p115 .eql q114 (ci 45) .b, .mv p116 q115 .b, .ge p116 (XL.of [.G p116 true p117 (.mov q17) .b, .P p118 (.pick q116 q117 (cb false)) .b]) p118 .b, .mv p113 q118 .b] (.cond q113 (.sO [.mv p119 q1 (.i .u64), .mv p6 q119 (.i .u64), .mv p7 (cb true) .b] (.s .ret)) (.sO [.mv p121 q0 tI, .bn p122 .eql q121 (ci 45) .b, .mv p123 q122 .b, .ge p123 (XL.of [.G p123 true p124 (.mov q18) .b, .P p125 (.pick q123 q124 (cb false)) .b]) p125 .b, .mv p120 q125 .b] (.cond q120 (.sO [.mv p126 q2 (.i .u64), .mv p6 q126 (.i .u64), .mv p7 (cb true) .b] (.s .ret)) (.sO [.mv p128 q0 tI, .bn p129 .eql q128 (ci 45) .b, .mv p130 q129 .b, .ge p130 (XL.of [.G p130 true p131 (.mov q15) (.i .u64), .G p130 true p132 (.bin .eql q131 (.c Z64)) .b, .P p133 (.pick q130 q132 (cb false)) .b]) p133 .b, .mv p134 q133 .b, .ge p134 (XL.of [.G p134 true p135 (.mov q16) (.i .u64), .G p134 true p136 (.bin .eql q135 (.c Z64)) .b, .P p137 (.pick q134 q136 (cb false)) .b]) p137 .b, .mv p138 q137 .b, .ge p138 (XL.of [.G p138 true p139 (.mov q8) (.i .u64), .G p138 true p140 (.mov q11) (.i .u64), .G p138 true p141 (.bin .neq q139 q140) .b, .P p142 (.pick q138 q141 (cb false)) .b]) p142 .b, .mv p127 q142 .b] (.cond q127 (.sO [.mv p6 (.c Z64) (.i .u64), .mv p7 (cb true) .b] (.s .ret)) (.sO [.mv p144 q0 tI, .bn p145 .eql q144 (ci 45) .b, .mv p146 q145 .b, .ge p146 (XL.of [.G p146 true p147 (.mov q15) (.i .u64), .G p146 true p148 (.bin .eql q147 (.c Z64)) .b, .P p149 (.pick q146 q148 (cb false)) .b]) p149 .b, .mv p150 q149 .b, .ge p150 (XL.of [.G p150 true p151 (.mov q16) (.i .u64), .G p150 true p152 (.bin .eql q151 (.c Z64)) .b, .P p153 (.pick q150 q152 (cb false)) .b]) p153 .b, .mv p143 q153 .b] (.cond q143 (.sO [.mv p154 q1 (.i .u64), .mv p6 q154 (.i .u64), .mv p7 (cb true) .b] (.s .ret)) (.sO [.mv p156 q0 tI, .bn p157 .eql q156 (ci 45) .b, .mv p155 q157 .b] (.cond q155 (.sO [.mv p158 q1 (.i .u64), .mv p159 q2 (.i .u64), .cl p160 94 [q158, q159] (.i .u64), .mv p6 q160 (.i .u64), .mv p7 (cb true) .b] (.s .ret)) (.sj v60_3 (.sO [.mv p162 q0 tI, .bn p163 .eql q162 (ci 47) .b, .mv p164 q163 .b, .ge p164 (XL.of [.G p164 true p165 (.mov q17) .b, .G p164 true p166 (.mov q165) .b, .ge p166 (XL.of [.G p166 false p167 (.mov q18) .b, .G p164 true p168 (.pick q166 (cb true) q167) .b]) p168 .b, .P p169 (.pick q164 q168 (cb false)) .b]) p169 .b, .mv p161 q169 .b] (.cond q161 (.s .skip) (.s (.oX [.mv p170 q0 tI, .bn p171 .eql q170 (ci 48) .b, .mv p172 q171 .b, .ge p172 (XL.of [.G p172 true p173 (.mov q17) .b, .G p172 true p174 (.mov q173) .b, .ge p174 (XL.of [.G p174 false p175 (.mov q16) (.i .u64), .G p174 false p176 (.bin .eql q175 (.c Z64)) .b, .G p172 true p177 (.pick q174 (cb true) q176) .b]) p177 .b, .P p178 (.pick q172 q177 (cb false)) .b]) p178 .b, .mv p161 q178 .b])))) c60_3))))))))))))
def v60_0 : List Pos := [p0, p1, p2, p8, p9, p11, p12, p14, p15, p16]
def c60_0 : XC := (.seq (.seq (.oX [.mv p55 q0 tI, .bn p56 .eql q55 (ci 46) .b]) (.cond q56 (.seq (.oX [.mv p57 q1 (.i .u64), .mv p58 q2 (.i .u64), .cl p59 22 [q58] (.i .u64), .cl p60 60 [(ci 45), q57, q59] .v, .P p61 (.ext q60 0) (.i .u64), .P p62 (.ext q60 1) .b, .mv p6 q61 (.i .u64), .mv p7 q62 .b]) .ret) .skip)) (.sO [.mv p63 q9 (.i .u64), .bn p64 .eql q63 (.c (.int .u64 (.ofNat 2047))) .b, .mv p65 q12 (.i .u64), .bn p66 .eql q65 (.c (.int .u64 (.ofNat 2047))) .b, .mv p17 q64 .b, .mv p18 q66 .b] (.sj v60_1 (.block 0 (.sj v60_2 (.sO [.mv p68 q0 tI, .bn p69 .eql q68 (ci 45) .b, .mv p70 q69 .b, .ge p70 (XL.of [.G p70 true p71 (.mov q17) .b, .P p72 (.pick q70 q71 (cb false)) .b]) p72 .b, .mv p73 q72 .b, .ge p73 (XL.of [.G p73 true p74 (.mov q18) .b, .P p75 (.pick q73 q74 (cb false)) .b]) p75 .b, .mv p76 q75 .b, .ge p76 (XL.of [.G p76 true p77 (.mov q8) (.i .u64), .G p76 true p78 (.mov q11) (.i .u64), .G p76 true p79 (.bin .neq q77 q78) .b, .P p80 (.pick q76 q79 (cb false)) .b]) p80 .b, .mv p67 q80 .b] (.cond q67 (.s .skip) (.sO [.mv p81 q0 tI, .bn p82 .eql q81 (ci 47) .b, .mv p83 q82 .b, .ge p83 (XL.of [.G p83 true p84 (.mov q17) .b, .G p83 true p85 (.mov q84) .b, .ge p85 (XL.of [.G p85 true p86 (.mov q16) (.i .u64), .G p85 true p87 (.bin .eql q86 (.c Z64)) .b, .G p83 true p88 (.pick q85 q87 (cb false)) .b]) p88 .b, .G p83 true p89 (.mov q88) .b, .ge p89 (XL.of [.G p89 false p90 (.mov q18) .b, .G p89 false p91 (.mov q90) .b, .ge p91 (XL.of [.G p91 true p92 (.mov q15) (.i .u64), .G p91 true p93 (.bin .eql q92 (.c Z64)) .b, .G p89 false p94 (.pick q91 q93 (cb false)) .b]) p94 .b, .G p83 true p95 (.pick q89 (cb true) q94) .b]) p95 .b, .P p96 (.pick q83 q95 (cb false)) .b]) p96 .b, .mv p67 q96 .b] (.cond q67 (.s .skip) (.s (.oX [.mv p97 q0 tI, .bn p98 .eql q97 (ci 48) .b, .mv p99 q98 .b, .ge p99 (XL.of [.G p99 true p100 (.mov q17) .b, .G p99 true p101 (.mov q100) .b, .ge p101 (XL.of [.G p101 true p102 (.mov q18) .b, .G p99 true p103 (.pick q101 q102 (cb false)) .b]) p103 .b, .G p99 true p104 (.mov q103) .b, .ge p104 (XL.of [.G p104 false p105 (.mov q15) (.i .u64), .G p104 false p106 (.bin .eql q105 (.c Z64)) .b, .G p104 false p107 (.mov q106) .b, .ge p107 (XL.of [.G p107 true p108 (.mov q16) (.i .u64), .G p107 true p109 (.bin .eql q108 (.c Z64)) .b, .G p104 false p110 (.pick q107 q109 (cb false)) .b]) p110 .b, .G p99 true p111 (.pick q104 (cb true) q110) .b]) p111 .b, .P p112 (.pick q99 q111 (cb false)) .b]) p112 .b, .mv p67 q112 .b])))))) c60_2)) c60_1)))
def c60_5 : XC := (.cond q54 (.sO [.mv p6 (.c (.int .u64 (.ofNat 9221120237041090560))) (.i .u64), .mv p7 (cb true) .b] (.s .ret)) (.s .skip))
def l60_4 : XL := (XL.of [])
def c60_e : XC := (.sO [.mv p6 (.c Z64) (.i .u64), .mv p7 (cb false) .b] (.seq (.seq (.oX [.mv p23 q0 tI, .bn p24 .lss q23 (ci 45) .b, .mv p25 q24 .b, .ge p25 (XL.of [.G p25 false p26 (.mov q0) tI, .G p25 false p27 (.bin .gtr q26 (ci 48)) .b, .P p28 (.pick q25 (cb true) q27) .b]) p28 .b]) (.cond q28 (.seq (.oX [.mv p6 (.c Z64) (.i .u64), .mv p7 (cb false) .b]) .ret) .skip)) (.sO [.mv p30 q1 (.i .u64), .cl p31 42 [q30] .v, .mv p29 q31 .v, .P p32 (.ext q29 0) (.i .u64), .P p33 (.ext q29 1) (.i .u64), .P p34 (.ext q29 2) (.i .u64), .mv p8 q32 (.i .u64), .mv p9 q33 (.i .u64), .mv p10 q34 (.i .u64)] (.sO [.mv p36 q2 (.i .u64), .cl p37 42 [q36] .v, .mv p35 q37 .v, .P p38 (.ext q35 0) (.i .u64), .P p39 (.ext q35 1) (.i .u64), .P p40 (.ext q35 2) (.i .u64), .mv p11 q38 (.i .u64), .mv p12 q39 (.i .u64), .mv p13 q40 (.i .u64)] (.sO [.mv p41 q8 (.i .u64), .mv p42 q11 (.i .u64), .bn p43 .add q41 q42 (.i .u64), .bn p44 .rem q43 (.c (.int .u64 (.ofNat 2))) (.i .u64), .mv p14 q44 (.i .u64)] (.sO [.mv p45 q1 (.i .u64), .bn p46 .rem q45 (.c (.int .u64 (.ofNat 9223372036854775808))) (.i .u64), .mv p47 q2 (.i .u64), .bn p48 .rem q47 (.c (.int .u64 (.ofNat 9223372036854775808))) (.i .u64), .mv p15 q46 (.i .u64), .mv p16 q48 (.i .u64)] (.sj v60_0 (.opq false (XL.pre [.mv p49 q1 (.i .u64), .cl p50 41 [q49] .b, .mv p51 q50 .b, .sp p51, .G p51 false p52 (.mov q2) (.i .u64), .o ⟨(some p53), (.call (.fn 41) [q52]), (some (p51, false)), []⟩ .b, .P p54 (.pick q51 (cb true) q53) .b, .jn p51 [p0, p1, p2, p8, p9, p11, p12, p14, p15, p16, p54]] l60_4) c60_5) c60_0)))))))
def x60 : XFn := ⟨[tI, (.i .u64), (.i .u64)], false, [(.tmp p6), (.tmp p7)], c60_e⟩
def e60_1 (k t0 t1 t2 t14 h) := kN k [(p0, (vI t0)), (p1, (AV.int .u64 t1)), (p2, (AV.int .u64 t2)), (p14, (AV.int .u64 t14))] h
def S60_1 (D : CallD) (m : Nat) (t0 t1 t2 t14 : Int) (h : HP) : Res2 :=
 cal D 96 [(AV.int .u64 t1)] h fun t191 h11 =>
 extC t191 0 fun vt192 => asI .i64 vt192 fun t192 =>
 extC t191 1 fun vt193 => asI .i64 vt193 fun t193 =>
 cal D 96 [(AV.int .u64 t2)] h11 fun t196 h12 =>
 extC t196 0 fun vt197 => asI .i64 vt197 fun t197 =>
 extC t196 1 fun vt198 => asI .i64 vt198 fun t198 =>
 let t200 := eqQ t0 (Int.ofNat 47)
 br t200 (
 cal D 99 [(vI t192)] h12 fun t203 h13 =>
 cal D 99 [(vI t197)] h13 fun t205 h14 =>
 cal D 98 [t203, t205] h14 fun t206 h15 =>
 cal D 99 [(vI (Int.ofNat 1))] h15 fun t207 h16 =>
 let t210 := wrQ .i64 (addQ t193 t198)
 cal D 97 [t206, t207, (vI t210)] h16 fun t211 h17 =>
 asI .u64 t211 fun t211a =>
 cal D 95 [(AV.int .u64 t14), (AV.int .u64 t211a)] h17 fun t212 h18 =>
 asI .u64 t212 fun t212a =>
 some (.ret (.tup [(AV.int .u64 t212a), (vB true)]) h18, .no)) (
 cal D 99 [(vI t192)] h12 fun t215 h19 =>
 cal D 99 [(vI t197)] h19 fun t217 h20 =>
 let t220 := wrQ .i64 (t193 - t198)
 cal D 97 [t215, t217, (vI t220)] h20 fun t221 h21 =>
 asI .u64 t221 fun t221a =>
 cal D 95 [(AV.int .u64 t14), (AV.int .u64 t221a)] h21 fun t222 h22 =>
 asI .u64 t222 fun t222a =>
 some (.ret (.tup [(AV.int .u64 t222a), (vB true)]) h22, .no))
def e60_3 (k t0 t1 t2 t14 t18 t161 h) := kN k [(p0, (vI t0)), (p1, (AV.int .u64 t1)), (p2, (AV.int .u64 t2)), (p14, (AV.int .u64 t14)), (p18, (vB t18)), (p161, (vB t161))] h
def S60_3 (D : CallD) (m : Nat) (t0 t1 t2 t14 : Int) (t18 t161 : Bool) (h : HP) : Res2 :=
 br t161 (
 cal D 95 [(AV.int .u64 t14), (AV.int .u64 (Int.ofNat 9218868437227405312))] h fun t180 h24 =>
 asI .u64 t180 fun t180a =>
 some (.ret (.tup [(AV.int .u64 t180a), (vB true)]) h24, .no)) (
 let t183 := eqQ t0 (Int.ofNat 48)
 obB (brV t183 (
 some (vB t18)) (
 some (vB false))) fun t186 =>
 br t186 (
 cal D 95 [(AV.int .u64 t14), (AV.int .u64 (Int.ofNat 0))] h fun t188 h25 =>
 asI .u64 t188 fun t188a =>
 some (.ret (.tup [(AV.int .u64 t188a), (vB true)]) h25, .no)) (
 S60_1 D m t0 t1 t2 t14 h))
def e60_2 (k t0 t1 t2 t8 t11 t14 t15 t16 t17 t18 t67 h) := kN k [(p0, (vI t0)), (p1, (AV.int .u64 t1)), (p2, (AV.int .u64 t2)), (p8, (AV.int .u64 t8)), (p11, (AV.int .u64 t11)), (p14, (AV.int .u64 t14)), (p15, (AV.int .u64 t15)), (p16, (AV.int .u64 t16)), (p17, (vB t17)), (p18, (vB t18)), (p67, (vB t67))] h
def S60_2 (D : CallD) (m : Nat) (t0 t1 t2 t8 t11 t14 t15 t16 : Int) (t17 t18 t67 : Bool) (h : HP) : Res2 :=
 br t67 (
 some (.ret (.tup [(AV.int .u64 (Int.ofNat 9221120237041090560)), (vB true)]) h, .no)) (
 let t115 := eqQ t0 (Int.ofNat 45)
 obB (brV t115 (
 some (vB t17)) (
 some (vB false))) fun t118 =>
 br t118 (
 some (.ret (.tup [(AV.int .u64 t1), (vB true)]) h, .no)) (
 let t122 := eqQ t0 (Int.ofNat 45)
 obB (brV t122 (
 some (vB t18)) (
 some (vB false))) fun t125 =>
 br t125 (
 some (.ret (.tup [(AV.int .u64 t2), (vB true)]) h, .no)) (
 let t129 := eqQ t0 (Int.ofNat 45)
 obB (brV t129 (
 let t132 := eqQ t15 (Int.ofNat 0)
 some (vB t132)) (
 some (vB false))) fun t133 =>
 obB (brV t133 (
 let t136 := eqQ t16 (Int.ofNat 0)
 some (vB t136)) (
 some (vB false))) fun t137 =>
 obB (brV t137 (
 let t141 := notQ (eqQ t8 t11)
 some (vB t141)) (
 some (vB false))) fun t142 =>
 br t142 (
 some (.ret (.tup [(AV.int .u64 (Int.ofNat 0)), (vB true)]) h, .no)) (
 let t145 := eqQ t0 (Int.ofNat 45)
 obB (brV t145 (
 let t148 := eqQ t15 (Int.ofNat 0)
 some (vB t148)) (
 some (vB false))) fun t149 =>
 obB (brV t149 (
 let t152 := eqQ t16 (Int.ofNat 0)
 some (vB t152)) (
 some (vB false))) fun t153 =>
 br t153 (
 some (.ret (.tup [(AV.int .u64 t1), (vB true)]) h, .no)) (
 let t157 := eqQ t0 (Int.ofNat 45)
 br t157 (
 cal D 94 [(AV.int .u64 t1), (AV.int .u64 t2)] h fun t160 h23 =>
 asI .u64 t160 fun t160a =>
 some (.ret (.tup [(AV.int .u64 t160a), (vB true)]) h23, .no)) (
 let t163 := eqQ t0 (Int.ofNat 47)
 obB (brV t163 (
 obBV (brV t17 (
 some (vB true)) (
 some (vB t18))) fun t168 =>
 some (vB t168)) (
 some (vB false))) fun t169 =>
 br t169 (
 S60_3 D m t0 t1 t2 t14 t18 t169 h) (
 let t171 := eqQ t0 (Int.ofNat 48)
 obB (brV t171 (
 obBV (brV t17 (
 some (vB true)) (
 let t176 := eqQ t16 (Int.ofNat 0)
 some (vB t176))) fun t177 =>
 some (vB t177)) (
 some (vB false))) fun t178 =>
 S60_3 D m t0 t1 t2 t14 t18 t178 h)))))))
def e60_0 (k t0 t1 t2 t8 t9 t11 t12 t14 t15 t16 h) := kN k [(p0, (vI t0)), (p1, (AV.int .u64 t1)), (p2, (AV.int .u64 t2)), (p8, (AV.int .u64 t8)), (p9, (AV.int .u64 t9)), (p11, (AV.int .u64 t11)), (p12, (AV.int .u64 t12)), (p14, (AV.int .u64 t14)), (p15, (AV.int .u64 t15)), (p16, (AV.int .u64 t16))] h
def S60_0 (D : CallD) (m : Nat) (t0 t1 t2 t8 t9 t11 t12 t14 t15 t16 : Int) (h : HP) : Res2 :=
 let t56 := eqQ t0 (Int.ofNat 46)
 br t56 (
 cal D 22 [(AV.int .u64 t2)] h fun t59 h9 =>
 asI .u64 t59 fun t59a =>
 cal D 60 [(vI (Int.ofNat 45)), (AV.int .u64 t1), (AV.int .u64 t59a)] h9 fun t60 h10 =>
 extC t60 0 fun vt61 => asI .u64 vt61 fun t61 =>
 extC t60 1 fun vt62 => asB vt62 fun t62 =>
 some (.ret (.tup [(AV.int .u64 t61), (vB t62)]) h10, .no)) (
 let t64 := eqQ t9 (Int.ofNat 2047)
 let t66 := eqQ t12 (Int.ofNat 2047)
 let t69 := eqQ t0 (Int.ofNat 45)
 obB (brV t69 (
 some (vB t64)) (
 some (vB false))) fun t72 =>
 obB (brV t72 (
 some (vB t66)) (
 some (vB false))) fun t75 =>
 obB (brV t75 (
 let t79 := notQ (eqQ t8 t11)
 some (vB t79)) (
 some (vB false))) fun t80 =>
 br t80 (
 S60_2 D m t0 t1 t2 t8 t11 t14 t15 t16 t64 t66 t80 h) (
 let t82 := eqQ t0 (Int.ofNat 47)
 obB (brV t82 (
 obBV (brV t64 (
 let t87 := eqQ t16 (Int.ofNat 0)
 some (vB t87)) (
 some (vB false))) fun t88 =>
 obBV (brV t88 (
 some (vB true)) (
 obBV (brV t66 (
 let t93 := eqQ t15 (Int.ofNat 0)
 some (vB t93)) (
 some (vB false))) fun t94 =>
 some (vB t94))) fun t95 =>
 some (vB t95)) (
 some (vB false))) fun t96 =>
 br t96 (
 S60_2 D m t0 t1 t2 t8 t11 t14 t15 t16 t64 t66 t96 h) (
 let t98 := eqQ t0 (Int.ofNat 48)
 obB (brV t98 (
 obBV (brV t64 (
 some (vB t66)) (
 some (vB false))) fun t103 =>
 obBV (brV t103 (
 some (vB true)) (
 let t106 := eqQ t15 (Int.ofNat 0)
 obBV (brV t106 (
 let t109 := eqQ t16 (Int.ofNat 0)
 some (vB t109)) (
 some (vB false))) fun t110 =>
 some (vB t110))) fun t111 =>
 some (vB t111)) (
 some (vB false))) fun t112 =>
 S60_2 D m t0 t1 t2 t8 t11 t14 t15 t16 t64 t66 t112 h)))
def e60_4 (k t0 t1 t2 t8 t9 t11 t12 t14 t15 t16 t54 h) := kN k [(p0, (vI t0)), (p1, (AV.int .u64 t1)), (p2, (AV.int .u64 t2)), (p8, (AV.int .u64 t8)), (p9, (AV.int .u64 t9)), (p11, (AV.int .u64 t11)), (p12, (AV.int .u64 t12)), (p14, (AV.int .u64 t14)), (p15, (AV.int .u64 t15)), (p16, (AV.int .u64 t16)), (p54, (vB t54))] h
def S60_4 (D : CallD) (m : Nat) (t0 t1 t2 t8 t9 t11 t12 t14 t15 t16 : Int) (t54 : Bool) (h : HP) : Res2 :=
 br t54 (
 some (.ret (.tup [(AV.int .u64 (Int.ofNat 9221120237041090560)), (vB true)]) h, .no)) (
 S60_0 D m t0 t1 t2 t8 t9 t11 t12 t14 t15 t16 h)
def e60_6 (k t0 t1 t2 h) := kN k [(p0, (vI t0)), (p1, (AV.int .u64 t1)), (p2, (AV.int .u64 t2))] h
def S60_6 (D : CallD) (m : Nat) (t0 t1 t2 : Int) (h : HP) : Res2 :=
 let t24 := ltQ t0 (Int.ofNat 45)
 obB (brV t24 (
 some (vB true)) (
 let t27 := ltQ (Int.ofNat 48) t0
 some (vB t27))) fun t28 =>
 br t28 (
 some (.ret (.tup [(AV.int .u64 (Int.ofNat 0)), (vB false)]) h, .no)) (
 cal D 42 [(AV.int .u64 t1)] h fun t31 h7 =>
 extC t31 0 fun vt32 => asI .u64 vt32 fun t32 =>
 extC t31 1 fun vt33 => asI .u64 vt33 fun t33 =>
 extC t31 2 fun vt34 => asI .u64 vt34 fun t34 =>
 cal D 42 [(AV.int .u64 t2)] h7 fun t37 h8 =>
 extC t37 0 fun vt38 => asI .u64 vt38 fun t38 =>
 extC t37 1 fun vt39 => asI .u64 vt39 fun t39 =>
 extC t37 2 fun vt40 => asI .u64 vt40 fun t40 =>
 let t43 := wrQ .u64 (addQ t32 t38)
 let t44 := Int.tmod t43 (Int.ofNat 2)
 let t46 := Int.tmod t1 (Int.ofNat 9223372036854775808)
 let t48 := Int.tmod t2 (Int.ofNat 9223372036854775808)
 cal D 41 [(AV.int .u64 t1)] h8 fun t50 h26 =>
 asB t50 fun t50a =>
 br t50a (
 S60_4 D m t0 t1 t2 t32 t33 t38 t39 t44 t46 t48 true h26) (
 cal D 41 [(AV.int .u64 t2)] h26 fun t53 h27 =>
 asB t53 fun t53a =>
 S60_4 D m t0 t1 t2 t32 t33 t38 t39 t44 t46 t48 t53a h27))
def S60 : SFn := fun D m args h u => nou u <| popI .i64 args fun t0 args => popI .u64 args fun t1 args => popI .u64 args fun t2 args => endA args (S60_6 D m t0 t1 t2 h)
theorem T60_1 (hE : FX x60 D m E) : S60_1 D m = e60_1 (E c60_1 []) := by unfold S60_1; rw [hE c60_1]; kernel_rfl
theorem T60_3 (hE : FX x60 D m E) : S60_3 D m = e60_3 (E c60_3 [.blk 0, .sj v60_1 c60_1]) := by unfold S60_3; rw [T60_1 hE, hE c60_3]; kernel_rfl
theorem T60_2 (hE : FX x60 D m E) : S60_2 D m = e60_2 (E c60_2 [.blk 0, .sj v60_1 c60_1]) := by unfold S60_2; rw [T60_3 hE, hE c60_2]; kernel_rfl
theorem T60_0 (hE : FX x60 D m E) : S60_0 D m = e60_0 (E c60_0 []) := by unfold S60_0; rw [T60_2 hE, hE c60_0]; kernel_rfl
theorem T60_4 (hE : FX x60 D m E) : S60_4 D m = e60_4 (E (.opq false l60_4 c60_5) [.sj v60_0 c60_0]) := by unfold S60_4; rw [T60_0 hE, hE (.opq false l60_4 c60_5)]; kernel_rfl
theorem T60_6 (hE : FX x60 D m E) : S60_6 D m = e60_6 (E c60_e []) := by unfold S60_6; rw [T60_4 hE, hE c60_e]; kernel_rfl
theorem X60 : XTie S60 x60 := X_of fun D m E hE args h u => by unfold S60; rw [T60_6 hE]; kernel_rfl
/- 61 -/
def v61_0 : List Pos := [p0, p1, p2]
def c61_0 : XC := (.sO [.mv p22 q1 (.i .u64), .cl p23 100 [q22] tI, .mv p24 q2 (.i .u64), .cl p25 100 [q24] tI, .mv p8 q23 tI, .mv p9 q25 tI] (.seq (.seq (.oX [.mv p26 q0 tI, .bn p27 .eql q26 (ci 51) .b, .mv p28 q27 .b, .ge p28 (XL.of [.G p28 true p29 (.mov q8) tI, .G p28 true p30 (.mov q9) tI, .G p28 true p31 (.bin .eql q29 q30) .b, .P p32 (.pick q28 q31 (cb false)) .b]) p32 .b, .mv p33 q32 .b, .ge p33 (XL.of [.G p33 false p34 (.mov q0) tI, .G p33 false p35 (.bin .eql q34 (ci 52)) .b, .G p33 false p36 (.mov q35) .b, .ge p36 (XL.of [.G p36 true p37 (.mov q8) tI, .G p36 true p38 (.mov q9) tI, .G p36 true p39 (.bin .lss q37 q38) .b, .G p33 false p40 (.pick q36 q39 (cb false)) .b]) p40 .b, .P p41 (.pick q33 (cb true) q40) .b]) p41 .b, .mv p42 q41 .b, .ge p42 (XL.of [.G p42 false p43 (.mov q0) tI, .G p42 false p44 (.bin .eql q43 (ci 53)) .b, .G p42 false p45 (.mov q44) .b, .ge p45 (XL.of [.G p45 true p46 (.mov q8) tI, .G p45 true p47 (.mov q9) tI, .G p45 true p48 (.bin .leq q46 q47) .b, .G p42 false p49 (.pick q45 q48 (cb false)) .b]) p49 .b, .P p50 (.pick q42 (cb true) q49) .b]) p50 .b]) (.cond q50 (.seq (.oX [.mv p6 (.c (.int .u32 (.ofNat 1))) tW, .mv p7 (cb true) .b]) .ret) .skip)) (.sO [.mv p6 (.c Z32) tW, .mv p7 (cb true) .b] (.s .ret))))
def c61_2 : XC := (.cond q21 (.sO [.mv p6 (.c Z32) tW, .mv p7 (cb true) .b] (.s .ret)) (.s .skip))
def l61_1 : XL := (XL.of [])
def c61_e : XC := (.sO [.mv p6 (.c Z32) tW, .mv p7 (cb false) .b] (.seq (.seq (.oX [.mv p10 q0 tI, .bn p11 .lss q10 (ci 51) .b, .mv p12 q11 .b, .ge p12 (XL.of [.G p12 false p13 (.mov q0) tI, .G p12 false p14 (.bin .gtr q13 (ci 53)) .b, .P p15 (.pick q12 (cb true) q14) .b]) p15 .b]) (.cond q15 (.seq (.oX [.mv p6 (.c Z32) tW, .mv p7 (cb false) .b]) .ret) .skip)) (.sj v61_0 (.opq false (XL.pre [.mv p16 q1 (.i .u64), .cl p17 41 [q16] .b, .mv p18 q17 .b, .sp p18, .G p18 false p19 (.mov q2) (.i .u64), .o ⟨(some p20), (.call (.fn 41) [q19]), (some (p18, false)), []⟩ .b, .P p21 (.pick q18 (cb true) q20) .b, .jn p18 [p0, p1, p2, p21]] l61_1) c61_2) c61_0)))
def x61 : XFn := ⟨[tI, (.i .u64), (.i .u64)], false, [(.tmp p6), (.tmp p7)], c61_e⟩
def e61_0 (k t0 t1 t2 h) := kN k [(p0, (vI t0)), (p1, (AV.int .u64 t1)), (p2, (AV.int .u64 t2))] h
def S61_0 (D : CallD) (m : Nat) (t0 t1 t2 : Int) (h : HP) : Res2 :=
 cal D 100 [(AV.int .u64 t1)] h fun t23 h4 =>
 asI .i64 t23 fun t23a =>
 cal D 100 [(AV.int .u64 t2)] h4 fun t25 h5 =>
 asI .i64 t25 fun t25a =>
 let t27 := eqQ t0 (Int.ofNat 51)
 obB (brV t27 (
 let t31 := eqQ t23a t25a
 some (vB t31)) (
 some (vB false))) fun t32 =>
 obB (brV t32 (
 some (vB true)) (
 let t35 := eqQ t0 (Int.ofNat 52)
 obBV (brV t35 (
 let t39 := ltQ t23a t25a
 some (vB t39)) (
 some (vB false))) fun t40 =>
 some (vB t40))) fun t41 =>
 obB (brV t41 (
 some (vB true)) (
 let t44 := eqQ t0 (Int.ofNat 53)
 obBV (brV t44 (
 let t48 := leQ t23a t25a
 some (vB t48)) (
 some (vB false))) fun t49 =>
 some (vB t49))) fun t50 =>
 br t50 (
 some (.ret (.tup [(vW (Int.ofNat 1)), (vB true)]) h5, .no)) (
 some (.ret (.tup [(vW (Int.ofNat 0)), (vB true)]) h5, .no))
def e61_1 (k t0 t1 t2 t21 h) := kN k [(p0, (vI t0)), (p1, (AV.int .u64 t1)), (p2, (AV.int .u64 t2)), (p21, (vB t21))] h
def S61_1 (D : CallD) (m : Nat) (t0 t1 t2 : Int) (t21 : Bool) (h : HP) : Res2 :=
 br t21 (
 some (.ret (.tup [(vW (Int.ofNat 0)), (vB true)]) h, .no)) (
 S61_0 D m t0 t1 t2 h)
def e61_3 (k t0 t1 t2 h) := kN k [(p0, (vI t0)), (p1, (AV.int .u64 t1)), (p2, (AV.int .u64 t2))] h
def S61_3 (D : CallD) (m : Nat) (t0 t1 t2 : Int) (h : HP) : Res2 :=
 let t11 := ltQ t0 (Int.ofNat 51)
 obB (brV t11 (
 some (vB true)) (
 let t14 := ltQ (Int.ofNat 53) t0
 some (vB t14))) fun t15 =>
 br t15 (
 some (.ret (.tup [(vW (Int.ofNat 0)), (vB false)]) h, .no)) (
 cal D 41 [(AV.int .u64 t1)] h fun t17 h6 =>
 asB t17 fun t17a =>
 br t17a (
 S61_1 D m t0 t1 t2 true h6) (
 cal D 41 [(AV.int .u64 t2)] h6 fun t20 h7 =>
 asB t20 fun t20a =>
 S61_1 D m t0 t1 t2 t20a h7))
def S61 : SFn := fun D m args h u => nou u <| popI .i64 args fun t0 args => popI .u64 args fun t1 args => popI .u64 args fun t2 args => endA args (S61_3 D m t0 t1 t2 h)
theorem T61_0 (hE : FX x61 D m E) : S61_0 D m = e61_0 (E c61_0 []) := by unfold S61_0; rw [hE c61_0]; kernel_rfl
theorem T61_1 (hE : FX x61 D m E) : S61_1 D m = e61_1 (E (.opq false l61_1 c61_2) [.sj v61_0 c61_0]) := by unfold S61_1; rw [T61_0 hE, hE (.opq false l61_1 c61_2)]; kernel_rfl
theorem T61_3 (hE : FX x61 D m E) : S61_3 D m = e61_3 (E c61_e []) := by unfold S61_3; rw [T61_1 hE, hE c61_e]; kernel_rfl
theorem X61 : XTie S61 x61 := X_of fun D m E hE args h u => by unfold S61; rw [T61_3 hE]; kernel_rfl
/- 62 -/
def v62_0 : List Pos := [p3]
def c62_0 : XC := (.sO [.mv p10 q3 tI, .P p11 (.conv (.ii .u32) q10) tW, .mv p2 q11 tW] (.s .ret))
def c62_e : XC := (.sO [.mv p2 (.c Z32) tW] (.sO [.mv p4 q0 tI, .bn p5 .rem q4 (ci 4294967296) tI, .mv p3 q5 tI] (.sj v62_0 (.sO [.mv p6 q3 tI, .bn p7 .lss q6 (ci 0) .b] (.cond q7 (.s (.oX [.mv p8 q3 tI, .bn p9 .add q8 (ci 4294967296) tI, .mv p3 q9 tI])) (.s .skip))) c62_0)))
def x62 : XFn := ⟨[tI], false, [(.tmp p2)], c62_e⟩
def e62_0 (k t3 h) := kN k [(p3, (vI t3))] h
def S62_0 (D : CallD) (m : Nat) (t3 : Int) (h : HP) : Res2 :=
 let t11 := wrapF .u32 t3
 some (.ret (vW t11) h, .no)
def e62_1 (k t0 h) := kN k [(p0, (vI t0))] h
def S62_1 (D : CallD) (m : Nat) (t0 : Int) (h : HP) : Res2 :=
 let t5 := Int.tmod t0 (Int.ofNat 4294967296)
 let t7 := ltQ t5 (Int.ofNat 0)
 br t7 (
 let t9 := wrQ .i64 (addQ t5 (Int.ofNat 4294967296))
 S62_0 D m t9 h) (
 S62_0 D m t5 h)
def S62 : SFn := fun D m args h u => nou u <| popI .i64 args fun t0 args => endA args (S62_1 D m t0 h)
theorem T62_0 (hE : FX x62 D m E) : S62_0 D m = e62_0 (E c62_0 []) := by unfold S62_0; rw [hE c62_0]; kernel_rfl
theorem T62_1 (hE : FX x62 D m E) : S62_1 D m = e62_1 (E c62_e []) := by unfold S62_1; rw [T62_0 hE, hE c62_e]; kernel_rfl
theorem X62 : XTie S62 x62 := X_of fun D m E hE args h u => by unfold S62; rw [T62_1 hE]; kernel_rfl
/- 63 -/
def v63_0 : List Pos := [p3]
def c63_0 : XC := (.sO [.mv p12 q3 tI, .mv p2 q12 tI] (.s .ret))
def v63_1 : List Pos := [p0, p3, p4]
def c63_1b : XC := (.seq (.seq (.oX [.mv p5 q4 tI, .mv p6 q0 tI, .bn p7 .lss q5 q6 .b]) (.cond q7 .skip (.exit 0))) (.seq (.block 1 (.oX [.mv p10 q3 tI, .bn p11 .mul q10 (ci 2) tI, .mv p3 q11 tI])) (.s (.oX [.mv p8 q4 tI, .bn p9 .add q8 (ci 1) tI, .mv p4 q9 tI]))))
def c63_e : XC := (.sO [.mv p2 (ci 0) tI] (.sO [.mv p3 (ci 1) tI] (.sj v63_0 (.sO [.mv p4 (ci 0) tI] (.block 0 (.loop v63_1 c63_1b))) c63_0)))
def x63 : XFn := ⟨[tI], false, [(.tmp p2)], c63_e⟩
def e63_0 (k t3 h) := kN k [(p3, (vI t3))] h
def S63_0 (D : CallD) (m : Nat) (t3 : Int) (h : HP) : Res2 :=
 some (.ret (vI t3) h, .no)
def e63_1 (k t0 t3 t4 h) := kN k [(p0, (vI t0)), (p3, (vI t3)), (p4, (vI t4))] h
def S63_1b (D : CallD) (m : Nat) (g1 : Int → Int → Int → HP → Res2) (t0 t3 t4 : Int) (h : HP) : Res2 :=
 let t7 := ltQ t4 t0
 br t7 (
 let t11 := wrQ .i64 (t3 * (Int.ofNat 2))
 let t9 := wrQ .i64 (addQ t4 (Int.ofNat 1))
 g1 t0 t11 t9 h) (
 S63_0 D m t3 h)
def S63_1 (D : CallD) (m : Nat) : Int → Int → Int → HP → Res2 := nrec (fun _ _ _ _ => none) (fun _ g => S63_1b D m g) m
def e63_2 (k t0 h) := kN k [(p0, (vI t0))] h
def S63_2 (D : CallD) (m : Nat) (t0 : Int) (h : HP) : Res2 :=
 S63_1 D m t0 (Int.ofNat 1) (Int.ofNat 0) h
def S63 : SFn := fun D m args h u => nou u <| popI .i64 args fun t0 args => endA args (S63_2 D m t0 h)
theorem T63_0 (hE : FX x63 D m E) : S63_0 D m = e63_0 (E c63_0 []) := by unfold S63_0; rw [hE c63_0]; kernel_rfl
theorem T63_1b (hE : FX x63 D m E) (G1) : S63_1b D m (e63_1 G1) = e63_1 (E c63_1b [.lp v63_1 G1, .blk 0, .sj v63_0 c63_0]) := by unfold S63_1b; rw [T63_0 hE, hE c63_1b]; kernel_rfl
theorem T63_1 (hE : FX x63 D m E) : S63_1 D m = e63_1 (nrec (fun _ => none) (fun _ G1 st => E c63_1b [.lp v63_1 G1, .blk 0, .sj v63_0 c63_0] st) m) :=
  nrec_emb e63_1 (fun _ _ _ _ => none) (fun g => S63_1b D m g) (fun G1 st => E c63_1b [.lp v63_1 G1, .blk 0, .sj v63_0 c63_0] st) rfl (fun g => T63_1b hE g) m
theorem T63_2 (hE : FX x63 D m E) : S63_2 D m = e63_2 (E c63_e []) := by unfold S63_2; rw [T63_1 hE, hE c63_e]; kernel_rfl
theorem X63 : XTie S63 x63 := X_of fun D m E hE args h u => by unfold S63; rw [T63_2 hE]; kernel_rfl
/- 64 -/
def v64_0 : List Pos := [p7]
def c64_0 : XC := (.sO [.mv p56 q7 tW, .mv p6 q56 tW] (.s .ret))
def v64_2 : List Pos := [p0, p1, p2, p7, p8]
def c64_2 : XC := (.s (.oX [.mv p14 q8 tI, .bn p15 .add q14 (ci 1) tI, .mv p8 q15 tI]))
def v64_3 : List Pos := [p0, p1, p2, p7, p8, p11]
def c64_3 : XC := (.s (.oX [.mv p51 q7 tW, .mv p52 q11 tW, .mv p53 q8 tI, .bn p54 .shl q52 q53 tW, .bn p55 .add q51 q54 tW, .mv p7 q55 tW]))
def v64_1 : List Pos := [p0, p1, p2, p7, p8]
def c64_1b : XC := (.seq (.seq (.oX [.mv p12 q8 tI, .bn p13 .lss q12 (ci 32) .b]) (.cond q13 .skip (.exit 0))) (.sj v64_2 (.block 1 (.seq (.ops true (XL.of [.mv p16 q1 tW, .mv p17 q8 tI, .bn p18 .shr q16 q17 tW, .bn p19 .rem q18 (.c (.int .u32 (.ofNat 2))) tW, .mv p20 q2 tW, .mv p21 q8 tI, .bn p22 .shr q20 q21 tW, .bn p23 .rem q22 (.c (.int .u32 (.ofNat 2))) tW, .mv p9 q19 tW, .mv p10 q23 tW])) (.sO [.mv p11 (.c Z32) tW] (.sj v64_3 (.sO [.mv p24 q0 tI, .bn p25 .eql q24 (ci 1) .b, .mv p26 q25 .b, .ge p26 (XL.of [.G p26 true p27 (.mov q9) tW, .G p26 true p28 (.mov q10) tW, .G p26 true p29 (.bin .neq q27 q28) .b, .P p30 (.pick q26 q29 (cb false)) .b]) p30 .b, .mv p31 q30 .b, .ge p31 (XL.of [.G p31 false p32 (.mov q0) tI, .G p31 false p33 (.bin .eql q32 (ci 2)) .b, .G p31 false p34 (.mov q33) .b, .ge p34 (XL.of [.G p34 true p35 (.mov q9) tW, .G p34 true p36 (.mov q10) tW, .G p34 true p37 (.bin .add q35 q36) tW, .G p34 true p38 (.bin .gtr q37 (.c Z32)) .b, .G p31 false p39 (.pick q34 q38 (cb false)) .b]) p39 .b, .P p40 (.pick q31 (cb true) q39) .b]) p40 .b, .mv p41 q40 .b, .ge p41 (XL.of [.G p41 false p42 (.mov q0) tI, .G p41 false p43 (.bin .eql q42 (ci 3)) .b, .G p41 false p44 (.mov q43) .b, .ge p44 (XL.of [.G p44 true p45 (.mov q9) tW, .G p44 true p46 (.mov q10) tW, .G p44 true p47 (.bin .add q45 q46) tW, .G p44 true p48 (.bin .eql q47 (.c (.int .u32 (.ofNat 2)))) .b, .G p41 false p49 (.pick q44 q48 (cb false)) .b]) p49 .b, .P p50 (.pick q41 (cb true) q49) .b]) p50 .b] (.cond q50 (.s (.oX [.mv p11 (.c (.int .u32 (.ofNat 1))) tW])) (.s .skip))) c64_3)))) c64_2))
def c64_e : XC := (.sO [.mv p6 (.c Z32) tW] (.sO [.mv p7 (.c Z32) tW] (.sj v64_0 (.sO [.mv p8 (ci 0) tI] (.block 0 (.loop v64_1 c64_1b))) c64_0)))
def x64 : XFn := ⟨[tI, tW, tW], false, [(.tmp p6)], c64_e⟩
def e64_0 (k t7 h) := kN k [(p7, (vW t7))] h
def S64_0 (D : CallD) (m : Nat) (t7 : Int) (h : HP) : Res2 :=
 some (.ret (vW t7) h, .no)
def e64_2 (k t0 t1 t2 t7 t8 h) := kN k [(p0, (vI t0)), (p1, (vW t1)), (p2, (vW t2)), (p7, (vW t7)), (p8, (vI t8))] h
def S64_2 (D : CallD) (m : Nat) (g1 : Int → Int → Int → Int → Int → HP → Res2) (t0 t1 t2 t7 t8 : Int) (h : HP) : Res2 :=
 let t15 := wrQ .i64 (addQ t8 (Int.ofNat 1))
 g1 t0 t1 t2 t7 t15 h
def e64_3 (k t0 t1 t2 t7 t8 t11 h) := kN k [(p0, (vI t0)), (p1, (vW t1)), (p2, (vW t2)), (p7, (vW t7)), (p8, (vI t8)), (p11, (vW t11))] h
def S64_3 (D : CallD) (m : Nat) (g1 : Int → Int → Int → Int → Int → HP → Res2) (t0 t1 t2 t7 t8 t11 : Int) (h : HP) : Res2 :=
 obI .u32 (shiftF .shl .u32 t11 t8) fun t54 =>
 binC .add (vW t7) (vW t54) fun vt55 => asI .u32 vt55 fun t55 =>
 S64_2 D m g1 t0 t1 t2 t55 t8 h
def e64_1 (k t0 t1 t2 t7 t8 h) := kN k [(p0, (vI t0)), (p1, (vW t1)), (p2, (vW t2)), (p7, (vW t7)), (p8, (vI t8))] h
def S64_1b (D : CallD) (m : Nat) (g1 : Int → Int → Int → Int → Int → HP → Res2) (t0 t1 t2 t7 t8 : Int) (h : HP) : Res2 :=
 let t13 := ltQ t8 (Int.ofNat 32)
 br t13 (
 obI .u32 (shiftF .shr .u32 t1 t8) fun t18 =>
 binC .rem (vW t18) (vW (Int.ofNat 2)) fun vt19 => asI .u32 vt19 fun t19 =>
 obI .u32 (shiftF .shr .u32 t2 t8) fun t22 =>
 binC .rem (vW t22) (vW (Int.ofNat 2)) fun vt23 => asI .u32 vt23 fun t23 =>
 let t25 := eqQ t0 (Int.ofNat 1)
 obB (brV t25 (
 binCV .neq (vW t19) (vW t23) fun vt29 => asBV vt29 fun t29 =>
 some (vB t29)) (
 some (vB false))) fun t30 =>
 obB (brV t30 (
 some (vB true)) (
 let t33 := eqQ t0 (Int.ofNat 2)
 obBV (brV t33 (
 binCV .add (vW t19) (vW t23) fun vt37 => asIV .u32 vt37 fun t37 =>
 binCV .gtr (vW t37) (vW (Int.ofNat 0)) fun vt38 => asBV vt38 fun t38 =>
 some (vB t38)) (
 some (vB false))) fun t39 =>
 some (vB t39))) fun t40 =>
 obB (brV t40 (
 some (vB true)) (
 let t43 := eqQ t0 (Int.ofNat 3)
 obBV (brV t43 (
 binCV .add (vW t19) (vW t23) fun vt47 => asIV .u32 vt47 fun t47 =>
 binCV .eql (vW t47) (vW (Int.ofNat 2)) fun vt48 => asBV vt48 fun t48 =>
 some (vB t48)) (
 some (vB false))) fun t49 =>
 some (vB t49))) fun t50 =>
 br t50 (
 S64_3 D m g1 t0 t1 t2 t7 t8 (Int.ofNat 1) h) (
 S64_3 D m g1 t0 t1 t2 t7 t8 (Int.ofNat 0) h)) (
 S64_0 D m t7 h)
def S64_1 (D : CallD) (m : Nat) : Int → Int → Int → Int → Int → HP → Res2 := nrec (fun _ _ _ _ _ _ => none) (fun _ g => S64_1b D m g) m
def e64_4 (k t0 t1 t2 h) := kN k [(p0, (vI t0)), (p1, (vW t1)), (p2, (vW t2))] h
def S64_4 (D : CallD) (m : Nat) (t0 t1 t2 : Int) (h : HP) : Res2 :=
 S64_1 D m t0 t1 t2 (Int.ofNat 0) (Int.ofNat 0) h
def S64 : SFn := fun D m args h u => nou u <| popI .i64 args fun t0 args => popI .u32 args fun t1 args => popI .u32 args fun t2 args => endA args (S64_4 D m t0 t1 t2 h)
theorem T64_0 (hE : FX x64 D m E) : S64_0 D m = e64_0 (E c64_0 []) := by unfold S64_0; rw [hE c64_0]; kernel_rfl
theorem T64_2 (hE : FX x64 D m E) (G1) : S64_2 D m (e64_1 G1) = e64_2 (E c64_2 [.lp v64_1 G1, .blk 0, .sj v64_0 c64_0]) := by unfold S64_2; rw [hE c64_2]; kernel_rfl
theorem T64_3 (hE : FX x64 D m E) (G1) : S64_3 D m (e64_1 G1) = e64_3 (E c64_3 [.blk 1, .sj v64_2 c64_2, .lp v64_1 G1, .blk 0, .sj v64_0 c64_0]) := by unfold S64_3; rw [T64_2 hE G1, hE c64_3]; kernel_rfl
theorem T64_1b (hE : FX x64 D m E) (G1) : S64_1b D m (e64_1 G1) = e64_1 (E c64_1b [.lp v64_1 G1, .blk 0, .sj v64_0 c64_0]) := by unfold S64_1b; rw [T64_3 hE G1, T64_0 hE, hE c64_1b]; kernel_rfl
theorem T64_1 (hE : FX x64 D m E) : S64_1 D m = e64_1 (nrec (fun _ => none) (fun _ G1 st => E c64_1b [.lp v64_1 G1, .blk 0, .sj v64_0 c64_0] st) m) :=
  nrec_emb e64_1 (fun _ _ _ _ _ _ => none) (fun g => S64_1b D m g) (fun G1 st => E c64_1b [.lp v64_1 G1, .blk 0, .sj v64_0 c64_0] st) rfl (fun g => T64_1b hE g) m
theorem T64_4 (hE : FX x64 D m E) : S64_4 D m = e64_4 (E c64_e []) := by unfold S64_4; rw [T64_1 hE, hE c64_e]; kernel_rfl
theorem X64 : XTie S64 x64 := X_of fun D m E hE args h u => by unfold S64; rw [T64_4 hE]; kernel_rfl
/- 65 -/
def v65_0 : List Pos := [p5]
def c65_0 : XC := (.sO [.mv p15 q5 tI, .mv p4 q15 tI] (.s .ret))
def c65_e : XC := (.sO [.mv p4 (ci 0) tI] (.sO [.mv p6 q0 tI, .mv p7 q1 tI, .bn p8 .quo q6 q7 tI, .mv p5 q8 tI] (.sj v65_0 (.sO [.mv p9 q0 tI, .mv p10 q1 tI, .bn p11 .rem q9 q10 tI, .bn p12 .lss q11 (ci 0) .b] (.cond q12 (.s (.oX [.mv p13 q5 tI, .bn p14 .sub q13 (ci 1) tI, .mv p5 q14 tI])) (.s .skip))) c65_0)))
def x65 : XFn := ⟨[tI, tI], false, [(.tmp p4)], c65_e⟩
def e65_0 (k t5 h) := kN k [(p5, (vI t5))] h
def S65_0 (D : CallD) (m : Nat) (t5 : Int) (h : HP) : Res2 :=
 some (.ret (vI t5) h, .no)
def e65_1 (k t0 t1 h) := kN k [(p0, (vI t0)), (p1, (vI t1))] h
def S65_1 (D : CallD) (m : Nat) (t0 t1 : Int) (h : HP) : Res2 :=
 obI .i64 (intBin .quo .i64 t0 t1) fun t8 =>
 obI .i64 (intBin .rem .i64 t0 t1) fun t11 =>
 let t12 := ltQ t11 (Int.ofNat 0)
 br t12 (
 let t14 := wrQ .i64 (t8 - (Int.ofNat 1))
 S65_0 D m t14 h) (
 S65_0 D m t8 h)
def S65 : SFn := fun D m args h u => nou u <| popI .i64 args fun t0 args => popI .i64 args fun t1 args => endA args (S65_1 D m t0 t1 h)
theorem T65_0 (hE : FX x65 D m E) : S65_0 D m = e65_0 (E c65_0 []) := by unfold S65_0; rw [hE c65_0]; kernel_rfl
theorem T65_1 (hE : FX x65 D m E) : S65_1 D m = e65_1 (E c65_e []) := by unfold S65_1; rw [T65_0 hE, hE c65_e]; kernel_rfl
theorem X65 : XTie S65 x65 := X_of fun D m E hE args h u => by unfold S65; rw [T65_1 hE]; kernel_rfl
/- 66 -/
def c66_e : XC := (.sO [.mv p4 (.c Z32) tW] (.sO [.mv p10 q0 tW, .bn p11 .quo q10 (.c (.int .u32 (.ofNat 65536))) tW, .P p12 (.conv (.ii .i64) q11) tI, .mv p13 q0 tW, .bn p14 .rem q13 (.c (.int .u32 (.ofNat 65536))) tW, .P p15 (.conv (.ii .i64) q14) tI, .mv p16 q1 tW, .bn p17 .quo q16 (.c (.int .u32 (.ofNat 65536))) tW, .P p18 (.conv (.ii .i64) q17) tI, .mv p19 q1 tW, .bn p20 .rem q19 (.c (.int .u32 (.ofNat 65536))) tW, .P p21 (.conv (.ii .i64) q20) tI, .mv p5 q12 tI, .mv p6 q15 tI, .mv p7 q18 tI, .mv p8 q21 tI] (.sO [.mv p22 q5 tI, .mv p23 q8 tI, .bn p24 .mul q22 q23 tI, .mv p25 q6 tI, .mv p26 q7 tI, .bn p27 .mul q25 q26 tI, .bn p28 .add q24 q27 tI, .mv p29 q6 tI, .mv p30 q8 tI, .bn p31 .mul q29 q30 tI, .bn p32 .quo q31 (ci 65536) tI, .bn p33 .add q28 q32 tI, .mv p9 q33 tI] (.sO [.mv p34 q5 tI, .mv p35 q7 tI, .bn p36 .mul q34 q35 tI, .mv p37 q9 tI, .bn p38 .quo q37 (ci 65536) tI, .bn p39 .add q36 q38 tI, .P p40 (.conv (.ii .u32) q39) tW, .mv p4 q40 tW] (.s .ret)))))
def x66 : XFn := ⟨[tW, tW], false, [(.tmp p4)], c66_e⟩
def e66_0 (k t0 t1 h) := kN k [(p0, (vW t0)), (p1, (vW t1))] h
def S66_0 (D : CallD) (m : Nat) (t0 t1 : Int) (h : HP) : Res2 :=
 binC .quo (vW t0) (vW (Int.ofNat 65536)) fun vt11 => asI .u32 vt11 fun t11 =>
 obI .i64 (convV (.ii .i64) (vW t11)) fun t12 =>
 binC .rem (vW t0) (vW (Int.ofNat 65536)) fun vt14 => asI .u32 vt14 fun t14 =>
 obI .i64 (convV (.ii .i64) (vW t14)) fun t15 =>
 binC .quo (vW t1) (vW (Int.ofNat 65536)) fun vt17 => asI .u32 vt17 fun t17 =>
 obI .i64 (convV (.ii .i64) (vW t17)) fun t18 =>
 binC .rem (vW t1) (vW (Int.ofNat 65536)) fun vt20 => asI .u32 vt20 fun t20 =>
 obI .i64 (convV (.ii .i64) (vW t20)) fun t21 =>
 let t24 := wrQ .i64 (t12 * t21)
 let t27 := wrQ .i64 (t15 * t18)
 let t28 := wrQ .i64 (addQ t24 t27)
 let t31 := wrQ .i64 (t15 * t21)
 let t32 := wrapF .i64 (Int.tdiv t31 (Int.ofNat 65536))
 let t33 := wrQ .i64 (addQ t28 t32)
 let t36 := wrQ .i64 (t12 * t18)
 let t38 := wrapF .i64 (Int.tdiv t33 (Int.ofNat 65536))
 let t39 := wrQ .i64 (addQ t36 t38)
 let t40 := wrapF .u32 t39
 some (.ret (vW t40) h, .no)
def S66 : SFn := fun D m args h u => nou u <| popI .u32 args fun t0 args => popI .u32 args fun t1 args => endA args (S66_0 D m t0 t1 h)
theorem T66_0 (hE : FX x66 D m E) : S66_0 D m = e66_0 (E c66_e []) := by unfold S66_0; rw [hE c66_e]; kernel_rfl
theorem X66 : XTie S66 x66 := X_of fun D m E hE args h u => by unfold S66; rw [T66_0 hE]; kernel_rfl
/- 67 -/
def v67_1 : List Pos := []
def c67_1 : XC := (.sO [.mv p6 (.c Z32) tW, .mv p7 (cb false) .b] (.s .ret))
def v67_3 : List Pos := [p1, p8, p9, p34]
def c67_3 : XC := (.cond q34 (.seq (.seq (.oX [.mv p37 q9 tI, .bn p38 .eql q37 (ci 0) .b]) (.cond q38 (.seq (.oX [.mv p39 q1 tW, .mv p6 q39 tW, .mv p7 (cb true) .b]) .ret) .skip)) (.sO [.mv p40 q8 tI, .mv p41 q9 tI, .bn p42 .rem q40 q41 tI, .cl p43 62 [q42] tW, .mv p6 q43 tW, .mv p7 (cb true) .b] (.s .ret))) (.s .skip))
def v67_2 : List Pos := [p1, p8, p9, p24, p25]
def c67_2 : XC := (.cond q25 (.seq (.seq (.oX [.mv p28 q9 tI, .bn p29 .eql q28 (ci 0) .b]) (.cond q29 (.seq (.oX [.mv p6 (.c (.int .u32 (.ofNat 4294967295))) tW, .mv p7 (cb true) .b]) .ret) .skip)) (.sO [.mv p30 q8 tI, .mv p31 q9 tI, .bn p32 .quo q30 q31 tI, .cl p33 62 [q32] tW, .mv p6 q33 tW, .mv p7 (cb true) .b] (.s .ret))) (.sj v67_3 (.sO [.bn p35 .eql q24 (ci 16) .b, .mv p34 q35 .b] (.cond q34 (.s .skip) (.s (.oX [.bn p36 .eql q24 (ci 17) .b, .mv p34 q36 .b])))) c67_3))
def v67_0 : List Pos := [p0, p1, p8, p9]
def c67_0 : XC := (.sj v67_1 (.sO [.mv p24 q0 tI] (.block 0 (.sj v67_2 (.sO [.bn p26 .eql q24 (ci 14) .b, .mv p25 q26 .b] (.cond q25 (.s .skip) (.s (.oX [.bn p27 .eql q24 (ci 15) .b, .mv p25 q27 .b])))) c67_2))) c67_1)
def c67_e : XC := (.sO [.mv p6 (.c Z32) tW, .mv p7 (cb false) .b] (.sO [.mv p10 q1 tW, .cl p11 37 [q10] tI, .mv p12 q2 tW, .cl p13 37 [q12] tI, .mv p8 q11 tI, .mv p9 q13 tI] (.sj v67_0 (.sO [.mv p14 q0 tI, .bn p15 .eql q14 (ci 15) .b, .mv p16 q15 .b, .ge p16 (XL.of [.G p16 false p17 (.mov q0) tI, .G p16 false p18 (.bin .eql q17 (ci 17)) .b, .P p19 (.pick q16 (cb true) q18) .b]) p19 .b] (.cond q19 (.sO [.mv p20 q1 tW, .P p21 (.conv (.ii .i64) q20) tI, .mv p8 q21 tI] (.s (.oX [.mv p22 q2 tW, .P p23 (.conv (.ii .i64) q22) tI, .mv p9 q23 tI]))) (.s .skip))) c67_0)))
def x67 : XFn := ⟨[tI, tW, tW], false, [(.tmp p6), (.tmp p7)], c67_e⟩
def e67_1 (k h) := kN k [] h
def S67_1 (D : CallD) (m : Nat) (h : HP) : Res2 :=
 some (.ret (.tup [(vW (Int.ofNat 0)), (vB false)]) h, .no)
def e67_3 (k t1 t8 t9 t34 h) := kN k [(p1, (vW t1)), (p8, (vI t8)), (p9, (vI t9)), (p34, (vB t34))] h
def S67_3 (D : CallD) (m : Nat) (t1 t8 t9 : Int) (t34 : Bool) (h : HP) : Res2 :=
 br t34 (
 let t38 := eqQ t9 (Int.ofNat 0)
 br t38 (
 some (.ret (.tup [(vW t1), (vB true)]) h, .no)) (
 obI .i64 (intBin .rem .i64 t8 t9) fun t42 =>
 cal D 62 [(vI t42)] h fun t43 h8 =>
 asI .u32 t43 fun t43a =>
 some (.ret (.tup [(vW t43a), (vB true)]) h8, .no))) (
 S67_1 D m h)
def e67_2 (k t1 t8 t9 t24 t25 h) := kN k [(p1, (vW t1)), (p8, (vI t8)), (p9, (vI t9)), (p24, (vI t24)), (p25, (vB t25))] h
def S67_2 (D : CallD) (m : Nat) (t1 t8 t9 t24 : Int) (t25 : Bool) (h : HP) : Res2 :=
 br t25 (
 let t29 := eqQ t9 (Int.ofNat 0)
 br t29 (
 some (.ret (.tup [(vW (Int.ofNat 4294967295)), (vB true)]) h, .no)) (
 obI .i64 (intBin .quo .i64 t8 t9) fun t32 =>
 cal D 62 [(vI t32)] h fun t33 h7 =>
 asI .u32 t33 fun t33a =>
 some (.ret (.tup [(vW t33a), (vB true)]) h7, .no))) (
 let t35 := eqQ t24 (Int.ofNat 16)
 br t35 (
 S67_3 D m t1 t8 t9 t35 h) (
 let t36 := eqQ t24 (Int.ofNat 17)
 S67_3 D m t1 t8 t9 t36 h))
def e67_0 (k t0 t1 t8 t9 h) := kN k [(p0, (vI t0)), (p1, (vW t1)), (p8, (vI t8)), (p9, (vI t9))] h
def S67_0 (D : CallD) (m : Nat) (t0 t1 t8 t9 : Int) (h : HP) : Res2 :=
 let t26 := eqQ t0 (Int.ofNat 14)
 br t26 (
 S67_2 D m t1 t8 t9 t0 t26 h) (
 let t27 := eqQ t0 (Int.ofNat 15)
 S67_2 D m t1 t8 t9 t0 t27 h)
def e67_4 (k t0 t1 t2 h) := kN k [(p0, (vI t0)), (p1, (vW t1)), (p2, (vW t2))] h
def S67_4 (D : CallD) (m : Nat) (t0 t1 t2 : Int) (h : HP) : Res2 :=
 cal D 37 [(vW t1)] h fun t11 h5 =>
 asI .i64 t11 fun t11a =>
 cal D 37 [(vW t2)] h5 fun t13 h6 =>
 asI .i64 t13 fun t13a =>
 let t15 := eqQ t0 (Int.ofNat 15)
 obB (brV t15 (
 some (vB true)) (
 let t18 := eqQ t0 (Int.ofNat 17)
 some (vB t18))) fun t19 =>
 br t19 (
 obI .i64 (convV (.ii .i64) (vW t1)) fun t21 =>
 obI .i64 (convV (.ii .i64) (vW t2)) fun t23 =>
 S67_0 D m t0 t1 t21 t23 h6) (
 S67_0 D m t0 t1 t11a t13a h6)
def S67 : SFn := fun D m args h u => nou u <| popI .i64 args fun t0 args => popI .u32 args fun t1 args => popI .u32 args fun t2 args => endA args (S67_4 D m t0 t1 t2 h)
theorem T67_1 (hE : FX x67 D m E) : S67_1 D m = e67_1 (E c67_1 []) := by unfold S67_1; rw [hE c67_1]; kernel_rfl
theorem T67_3 (hE : FX x67 D m E) : S67_3 D m = e67_3 (E c67_3 [.blk 0, .sj v67_1 c67_1]) := by unfold S67_3; rw [T67_1 hE, hE c67_3]; kernel_rfl
theorem T67_2 (hE : FX x67 D m E) : S67_2 D m = e67_2 (E c67_2 [.blk 0, .sj v67_1 c67_1]) := by unfold S67_2; rw [T67_3 hE, hE c67_2]; kernel_rfl
theorem T67_0 (hE : FX x67 D m E) : S67_0 D m = e67_0 (E c67_0 []) := by unfold S67_0; rw [T67_2 hE, hE c67_0]; kernel_rfl
theorem T67_4 (hE : FX x67 D m E) : S67_4 D m = e67_4 (E c67_e []) := by unfold S67_4; rw [T67_0 hE, hE c67_e]; kernel_rfl
theorem X67 : XTie S67 x67 := X_of fun D m E hE args h u => by unfold S67; rw [T67_4 hE]; kernel_rfl
/- 68 -/
def x68 : XFn := ⟨[.v, .v, .v], true, [], (.sO [.o ⟨(some p6), .recover, none, []⟩ .v, .P p7 (.tassert 138 (.agg [(kI 0), (kI 0)]) true q6) .v, .mv p5 q7 .v, .P p8 (.ext q5 0) .v, .P p9 (.ext q5 1) .b, .al p3 (.new [(kI 0), (kI 0)]), .ss 2 q3 q8, .mv p4 q9 .b] (.sO [.mv p10 q4 .b] (.cond q10 (.s (.ops true (XL.of [.fa p11 0 q3, .ld p12 q11 tI, .fa p13 1 q3, .ld p14 q13 tI, .o ⟨none, (.e (.store q0 (.c .nils))), none, [⟨none, .cell q11, p12⟩, ⟨none, .cell q13, p14⟩]⟩ .v, .o ⟨none, (.e (.store q1 q12)), none, [⟨none, .cell q13, p14⟩]⟩ .v, .st q2 q14]))) (.s .skip))))⟩
def S68 : SFn := evFX x68
theorem X68 : XTie S68 x68 := fun _ _ _ _ _ => rfl
/- 69 -/
def x69 : XFn := ⟨[.s, tI], false, [(.tmp p4)], (.sO [.mv p4 (ci 0) tI] (.sj [p1] (.block 0 (.loop [p0, p1] (.seq (.seq (.oX [.mv p7 q1 tI, .mv p8 q0 .s, .P p9 (.lens q8) tI, .bn p10 .lss q7 q9 .b]) (.cond q10 .skip (.exit 0))) (.block 1 (.sO [.mv p11 q0 .s, .mv p12 q1 tI, .P p13 (.slice .str q11 (some q12) none none) .s, .mv p5 q13 .s] (.block 2 (.sO [.mv p16 q5 .s, .P p17 (.idxs q16 (ci 0)) tC, .cl p18 101 [(.c (.str [32, 9, 10, 13])), q17] tI, .bn p19 .geq q18 (ci 0) .b, .mv p15 q19 .b] (.cond q15 (.s (.oX [.mv p20 q1 tI, .bn p21 .add q20 (ci 1) tI, .mv p1 q21 tI])) (.sO [.mv p23 q5 .s, .cl p24 102 [q23, (.c (.str [47, 47]))] .b, .mv p22 q24 .b] (.cond q22 (.s (.oX [.mv p25 q1 tI, .mv p26 q5 .s, .cl p27 103 [q26, (.c (.fn 104 [] []))] tI, .bn p28 .add q25 q27 tI, .mv p1 q28 tI])) (.sO [.mv p30 q5 .s, .cl p31 102 [q30, (.c (.str [47, 42]))] .b, .mv p29 q31 .b] (.cond q29 (.sO [.mv p32 q5 .s, .P p33 (.slice .str q32 (some (ci 2)) none none) .s, .cl p34 105 [q33, (.c (.str [42, 47]))] tI, .mv p6 q34 tI] (.sj [p0, p1, p6] (.sO [.mv p35 q6 tI, .bn p36 .lss q35 (ci 0) .b] (.cond q36 (.s (.oX [.mv p37 q1 tI, .P p38 (.build [(kI 0), (kI 0)] [⟨0, 1, q37⟩, ⟨1, 1, (ci 10)⟩]) .v, .P p39 (.mkif 138 q38) .v, .o ⟨none, (.panic q39), none, []⟩ .v])) (.s .skip))) (.s (.oX [.mv p40 q1 tI, .mv p41 q6 tI, .bn p42 .add q41 (ci 4) tI, .bn p43 .add q40 q42 tI, .mv p1 q43 tI])))) (.sO [.mv p14 q1 tI, .mv p4 q14 tI] (.s .ret)))))))))))))) (.sO [.mv p44 q1 tI, .mv p4 q44 tI] (.s .ret))))⟩
def S69 : SFn := evFX x69
theorem X69 : XTie S69 x69 := fun _ _ _ _ _ => rfl
/- 70 -/
def x70 : XFn := ⟨[.s, tI], false, [(.cells 3 p4)], (.sO [.al p4 (.new [(kI 0), (.str []), (kI 0)])] (.sO [.mv p9 q0 .s, .mv p10 q1 tI, .P p11 (.slice .str q9 (some q10) none none) .s, .mv p5 q11 .s] (.sO [.mv p6 (ci 0) tI, .mv p7 (ci 0) tI] (.sj [p1, p4, p5, p6, p7] (.sO [.mv p12 q5 .s, .P p13 (.idxs q12 (ci 0)) tC, .mv p8 q13 tC] (.block 0 (.sO [.mv p15 q8 tC, .cl p16 106 [q15] .b, .mv p14 q16 .b] (.cond q14 (.sO [.mv p17 q5 .s, .cl p18 103 [q17, (.c (.fn 107 [] []))] tI, .mv p7 q18 tI] (.sO [.mv p6 (ci 1) tI] (.sO [.mv p19 q5 .s, .mv p20 q7 tI, .P p21 (.slice .str q19 none (some q20) none) .s, .cl p22 109 [q21] .b] (.cond q22 (.s (.oX [.mv p6 (ci 5) tI])) (.sO [.mv p23 q7 tI, .bn p24 .gtr q23 (ci 40) .b] (.cond q24 (.s (.oX [.mv p6 (ci 0) tI])) (.s .skip))))))) (.sO [.mv p26 q8 tC, .cl p27 108 [q26] .b, .mv p25 q27 .b] (.cond q25 (.s (.oX [.mv p29 q5 .s, .cl p30 110 [q29] .v, .mv p28 q30 .v, .P p31 (.ext q28 0) tI, .P p32 (.ext q28 1) tI, .mv p6 q31 tI, .mv p7 q32 tI])) (.sO [.mv p34 q8 tC, .cl p35 101 [(.c (.str [43, 45, 42, 47, 37, 38, 124, 94, 126, 33, 60, 62, 61, 40, 41, 123, 125, 91, 93, 59, 44])), q34] tI, .bn p36 .geq q35 (ci 0) .b, .mv p33 q36 .b] (.cond q33 (.sO [.mv p6 (ci 4) tI, .mv p7 (ci 1) tI] (.opq false (XL.pre [.mv p37 q5 .s, .P p38 (.lens q37) tI, .bn p39 .gtr q38 (ci 1) .b, .mv p40 q39 .b, .sp p40, .G p40 true p41 (.mov q5) .s, .G p40 true p42 (.slice .str q41 none (some (ci 2)) none) .s, .o ⟨(some p43), (.call (.fn 111) [(.c (.str [60, 60, 32, 62, 62, 32, 60, 61, 32, 62, 61, 32, 61, 61, 32, 33, 61, 32, 38, 38, 32, 124, 124])), q42]), (some (p40, true)), []⟩ .b, .P p44 (.pick q40 q43 (cb false)) .b, .jn p40 [p1, p4, p5, p6, p7, p44]] (XL.of [.mv p45 q44 .b, .ge p45 (XL.of [.G p45 true p46 (.mov q5) .s, .G p45 true p47 (.idxs q46 (ci 1)) tC, .G p45 true p48 (.bin .neq q47 (.c (.int .u8 (.ofNat 32)))) .b, .P p49 (.pick q45 q48 (cb false)) .b]) p49 .b])) (.cond q49 (.s (.oX [.mv p7 (ci 2) tI])) (.s .skip)))) (.s .skip))))))))) (.sj [p1, p4, p5, p6, p7] (.sO [.mv p50 q6 tI, .bn p51 .eql q50 (ci 0) .b] (.cond q51 (.s (.oX [.mv p52 q1 tI, .P p53 (.build [(kI 0), (kI 0)] [⟨0, 1, q52⟩, ⟨1, 1, (ci 10)⟩]) .v, .P p54 (.mkif 138 q53) .v, .o ⟨none, (.panic q54), none, []⟩ .v])) (.s .skip))) (.sO [.mv p55 q6 tI, .mv p56 q5 .s, .mv p57 q7 tI, .P p58 (.slice .str q56 none (some q57) none) .s, .mv p59 q1 tI, .P p60 (.build [(kI 0), (.str []), (kI 0)] [⟨0, 1, q55⟩, ⟨1, 1, q58⟩, ⟨2, 1, q59⟩]) .v, .ss 3 q4 q60] (.s .ret)))))))⟩
def S70 : SFn := evFX x70
theorem X70 : XTie S70 x70 := fun _ _ _ _ _ => rfl
/- 71 -/
def x71 : XFn := ⟨[.v, .s], false, [(.tmp p4)], (.sO [.mv p4 (cb false) .b] (.seq (.seq (.oX [.mv p5 q0 .v, .mv p6 q1 .s, .al p7 (.bsl [(.str [])] 1 [⟨0, 1, q6⟩]), .cl p8 75 [q5, q7] .b]) (.cond q8 (.seq (.oX [.mv p9 q0 .v, .P p10 (.nilck q9) .v, .fa p11 1 q10, .ld p12 q11 tI, .bn p13 .add q12 (ci 1) tI, .P p14 (.nilck q9) .v, .fa p15 1 q14, .st q15 q13]) (.seq (.oX [.mv p4 (cb true) .b]) .ret)) .skip)) (.sO [.mv p4 (cb false) .b] (.s .ret))))⟩
def S71 : SFn := evFX x71
theorem X71 : XTie S71 x71 := fun _ _ _ _ _ => rfl
/- 72 -/
def x72 : XFn := ⟨[.v], false, [(.tmp p2)], (.sO [.mv p2 (ci 0) tI] (.seq (.block 0 (.seq (.oX [.mv p4 q0 .v, .cl p5 71 [q4, (.c (.str [105, 110, 116]))] .b, .mv p3 q5 .b]) (.cond q3 (.seq (.seq (.oX [.mv p6 q0 .v, .cl p7 71 [q6, (.c (.str [42]))] .b]) (.cond q7 (.seq (.oX [.mv p2 (ci 3) tI]) .ret) .skip)) (.seq (.oX [.mv p2 (ci 1) tI]) .ret)) (.seq (.oX [.mv p9 q0 .v, .cl p10 71 [q9, (.c (.str [100, 111, 117, 98, 108, 101]))] .b, .mv p8 q10 .b]) (.cond q8 (.seq (.seq (.oX [.mv p11 q0 .v, .cl p12 71 [q11, (.c (.str [42]))] .b]) (.cond q12 (.seq (.oX [.mv p2 (ci 4) tI]) .ret) .skip)) (.seq (.oX [.mv p2 (ci 2) tI]) .ret)) .skip))))) (.sO [.mv p13 q0 .v, .cl p14 77 [q13, (.c (.str [118, 111, 105, 100]))] .v] (.sO [.mv p2 (ci 0) tI] (.s .ret)))))⟩
def S72 : SFn := evFX x72
theorem X72 : XTie S72 x72 := fun _ _ _ _ _ => rfl
/- 73 -/
def x73 : XFn := ⟨[.v, tI], false, [(.tmp p4)], (.sO [.mv p4 (.c (.str [])) .s] (.sO [.mv p6 q0 .v, .cl p7 50 [q6] .v, .al p5 (.new [(kI 0), (.str []), (kI 0)]), .ss 3 q5 q7] (.sj [p0, p5] (.sO [.fa p8 0 q5, .ld p9 q8 tI, .mv p10 q1 tI, .bn p11 .neq q9 q10 .b] (.cond q11 (.s (.oX [.mv p12 q0 .v, .cl p13 112 [q12, (ci 11)] .v])) (.s .skip))) (.sO [.mv p14 q0 .v, .P p15 (.nilck q14) .v, .fa p16 1 q15, .ld p17 q16 tI, .bn p18 .add q17 (ci 1) tI, .P p19 (.nilck q14) .v, .fa p20 1 q19, .st q20 q18] (.sO [.fa p21 1 q5, .ld p22 q21 .s, .mv p4 q22 .s] (.s .ret))))))⟩
def S73 : SFn := evFX x73
theorem X73 : XTie S73 x73 := fun _ _ _ _ _ => rfl
/- 75 -/
def x75 : XFn := ⟨[.v, .v], false, [(.tmp p4)], (.sO [.mv p4 (cb false) .b] (.sO [.mv p8 q0 .v, .cl p9 50 [q8] .v, .al p5 (.new [(kI 0), (.str []), (kI 0)]), .ss 3 q5 q9] (.sj [] (.sO [.mv p10 q1 .v, .P p11 (.lenl q10) tI, .mv p12 (ci 0) tI] (.block 0 (.loop [p5, p10, p11, p12] (.sO [.bn p13 .lss q12 q11 .b] (.seq (.cond q13 .skip (.exit 0)) (.seq (.block 1 (.seq (.oX [.P p14 (.iaddr (.sl 1) q10 q12) .v, .ld p15 q14 .s, .mv p7 q15 .s]) (.seq (.oX [.fa p16 0 q5, .ld p17 q16 tI, .bn p18 .eql q17 (ci 4) .b, .mv p19 q18 .b, .ge p19 (XL.of [.G p19 false p20 (.faddr 0 q5) .v, .o ⟨(some p21), (.l (.cell q20)), (some (p19, false)), []⟩ tI, .G p19 false p22 (.bin .eql q21 (ci 5)) .b, .P p23 (.pick q19 (cb true) q22) .b]) p23 .b, .mv p24 q23 .b, .ge p24 (XL.of [.G p24 true p25 (.faddr 1 q5) .v, .o ⟨(some p26), (.l (.cell q25)), (some (p24, true)), []⟩ .s, .G p24 true p27 (.mov q7) .s, .G p24 true p28 (.bin .eql q26 q27) .b, .P p29 (.pick q24 q28 (cb false)) .b]) p29 .b]) (.cond q29 (.seq (.oX [.mv p4 (cb true) .b]) .ret) .skip)))) (.s (.oX [.bn p30 .add q12 (ci 1) tI, .mv p12 q30 tI])))))))) (.sO [.mv p4 (cb false) .b] (.s .ret)))))⟩
def S75 : SFn := evFX x75
theorem X75 : XTie S75 x75 := fun _ _ _ _ _ => rfl
/- 77 -/
def x77 : XFn := ⟨[.v, .s], false, [], (.sO [.mv p4 q0 .v, .mv p5 q1 .s, .cl p6 71 [q4, q5] .b, .P p7 (.un .not q6) .b] (.cond q7 (.s (.oX [.mv p8 q0 .v, .cl p9 112 [q8, (ci 11)] .v])) (.s .skip)))⟩
def S77 : SFn := evFX x77
theorem X77 : XTie S77 x77 := fun _ _ _ _ _ => rfl
/- 78 -/
def x78 : XFn := ⟨[.v], false, [(.tmp p2)], (.sO [.mv p2 (ci 0) tI] (.seq (.seq (.oX [.mv p6 q0 .v, .cl p7 71 [q6, (.c (.str [91]))] .b, .P p8 (.un .not q7) .b]) (.cond q8 (.seq (.oX [.mv p2 (ci 0) tI]) .ret) .skip)) (.sO [.mv p9 q0 .v, .cl p10 50 [q9] .v, .P p11 (.field 2 1 false q10) tI, .mv p3 q11 tI] (.sO [.mv p13 q0 .v, .cl p14 73 [q13, (ci 2)] .s, .cl p15 114 [q14] .v, .mv p12 q15 .v, .P p16 (.ext q12 0) tI, .P p17 (.ext q12 1) .v, .mv p4 q16 tI, .mv p5 q17 .v] (.sj [p0, p4] (.sO [.mv p18 q4 tI, .bn p19 .lss q18 (ci 1) .b, .mv p20 q19 .b, .ge p20 (XL.of [.G p20 false p21 (.mov q4) tI, .G p20 false p22 (.bin .gtr q21 (ci 1000)) .b, .P p23 (.pick q20 (cb true) q22) .b]) p23 .b] (.cond q23 (.s (.oX [.mv p24 q3 tI, .P p25 (.build [(kI 0), (kI 0)] [⟨0, 1, q24⟩, ⟨1, 1, (ci 1)⟩]) .v, .P p26 (.mkif 103 q25) .v, .o ⟨none, (.panic q26), none, []⟩ .v])) (.s .skip))) (.sO [.mv p27 q0 .v, .cl p28 77 [q27, (.c (.str [93]))] .v] (.sO [.mv p29 q4 tI, .mv p2 q29 tI] (.s .ret))))))))⟩
def S78 : SFn := evFX x78
theorem X78 : XTie S78 x78 := fun _ _ _ _ _ => rfl
/- 79 -/
def x79 : XFn := ⟨[.v], false, [(.cells 8 p2)], (.sO [.al p1 (.box q0), .al p2 (.new Ze)] (.sO [.ld p4 q1 .v, .cl p5 115 [q4] .v] (.sO [.P p6 (.mkfn 116 [] [q1]) .v, .o ⟨none, (.defer (.val q6) []), none, []⟩ .v] (.sO [.ld p7 q1 .v, .cl p8 117 [q7, (ci 0)] .v, .al p3 (.new Ze), .ss 8 q3 q8] (.seq (.seq (.oX [.ld p9 q1 .v, .cl p10 71 [q9, (.c (.str [61]))] .b]) (.cond q10 (.seq (.ops true (XL.of [.L p11 (.cells 8 q3) .v, .ld p12 q1 .v, .fa p15 7 q3, .ld p16 q15 tI, .o ⟨(some p13), (.call (.fn 79) [q12]), none, [⟨none, .cells 8 q3, p11⟩, ⟨none, .cell q15, p16⟩]⟩ .v, .al p14 (.bsl [(kI 0), (.str []), (.str []), Z32, Z64, .nils, (kI 0), (kI 0), (kI 0), (.str []), (.str []), Z32, Z64, .nils, (kI 0), (kI 0)] 2 [⟨0, 8, q11⟩, ⟨8, 8, q13⟩]), .P p17 (.build Ze [⟨0, 1, (ci 6)⟩, ⟨5, 1, q14⟩, ⟨7, 1, q16⟩]) .v, .ss 8 q2 q17])) .ret) .skip)) (.sO [.L p18 (.cells 8 q3) .v, .ss 8 q2 q18] (.s .ret)))))))⟩
def S79 : SFn := evFX x79
theorem X79 : XTie S79 x79 := fun _ _ _ _ _ => rfl
/- 82 -/
def x82 : XFn := ⟨[tI], false, [(.tmp p2)], (.sO [.mv p2 (cb false) .b] (.sO [.mv p3 q0 tI, .bn p4 .eql q3 (ci 1) .b, .mv p5 q4 .b, .ge p5 (XL.of [.G p5 false p6 (.mov q0) tI, .G p5 false p7 (.bin .eql q6 (ci 2)) .b, .P p8 (.pick q5 (cb true) q7) .b]) p8 .b, .mv p2 q8 .b] (.s .ret)))⟩
def S82 : SFn := evFX x82
theorem X82 : XTie S82 x82 := fun _ _ _ _ _ => rfl
/- 83 -/
def x83 : XFn := ⟨[.v], false, [(.tmp p2)], (.sO [.mv p2 (.c .nils) .v] (.seq (.seq (.oX [.mv p3 q0 .v, .P p4 (.eqn .sl false q3 (.c .nils)) .b]) (.cond q4 (.seq (.oX [.mv p2 (.c .nils) .v]) .ret) .skip)) (.sO [.al p5 (.bsl [] 0 []), .mv p6 q0 .v, .o ⟨(some p7), (.e (.app 3 32 q5 q6)), none, []⟩ .v, .mv p2 q7 .v] (.s .ret))))⟩
def S83 : SFn := evFX x83
theorem X83 : XTie S83 x83 := fun _ _ _ _ _ => rfl
/- 85 -/
def x85 : XFn := ⟨[.v], false, [(.tmp p2)], (.sO [.mv p2 (.c .nils) .v] (.seq (.seq (.oX [.mv p3 q0 .v, .P p4 (.eqn .sl false q3 (.c .nils)) .b]) (.cond q4 (.seq (.oX [.mv p2 (.c .nils) .v]) .ret) .skip)) (.sO [.al p5 (.bsl [] 0 []), .mv p6 q0 .v, .o ⟨(some p7), (.e (.app 8 96 q5 q6)), none, []⟩ .v, .mv p2 q7 .v] (.s .ret))))⟩
def S85 : SFn := evFX x85
theorem X85 : XTie S85 x85 := fun _ _ _ _ _ => rfl
/- 86 -/
def x86 : XFn := ⟨[.v, .v, tI, tI], false, [(.cells 8 p8)], (.sO [.al p5 (.box q1), .al p8 (.new Ze)] (.sO [.mv p10 q0 .v, .L p11 (.cells 8 q5) .v, .cl p12 121 [q10, q11] .v, .ss 8 q5 q12] (.sO [.L p14 (.cells 8 q5) .v, .mv p15 q2 tI, .cl p16 122 [q14, q15] .v, .mv p13 q16 .v, .P p17 (.ext q13 0) .v, .P p18 (.ext q13 1) .b, .ss 8 q5 q17, .mv p9 q18 .b] (.sO [.mv p19 q9 .b, .mv p20 q3 tI, .cl p21 55 [q19, (ci 14), q20] .v] (.sO [.L p22 (.cells 8 q5) .v, .ss 8 q8 q22] (.s .ret))))))⟩
def S86 : SFn := evFX x86
theorem X86 : XTie S86 x86 := fun _ _ _ _ _ => rfl
/- 88 -/
def x88 : XFn := ⟨[.v, .v], false, [(.tmp p4)], (.sO [.mv p4 (ci 0) tI] (.sj [] (.sO [.mv p6 q0 .v, .P p7 (.lenl q6) tI, .mv p8 (ci 0) tI] (.block 0 (.loop [p0, p1, p7, p8] (.sO [.bn p9 .lss q8 q7 .b] (.seq (.cond q9 .skip (.exit 0)) (.seq (.block 1 (.seq (.oX [.mv p10 q8 tI, .mv p5 q10 tI]) (.seq (.oX [.mv p11 q1 .v, .mv p12 q0 .v, .mv p13 q5 tI, .P p14 (.iaddr (.sl 17) q12 q13) .v, .L p15 (.cells 17 q14) .v, .o ⟨(some p16), (.call (.val q11) [q15]), none, []⟩ .b]) (.cond q16 (.seq (.oX [.mv p17 q5 tI, .mv p4 q17 tI]) .ret) .skip)))) (.s (.oX [.bn p18 .add q8 (ci 1) tI, .mv p8 q18 tI])))))))) (.sO [.mv p4 (.c (.int .i64 (.negSucc 0))) tI] (.s .ret))))⟩
def S88 : SFn := evFX x88
theorem X88 : XTie S88 x88 := fun _ _ _ _ _ => rfl
/- 89 -/
def x89 : XFn := ⟨[.v, .s], false, [(.tmp p4)], (.sO [.al p2 (.box q0), .al p3 (.box q1), .mv p4 (ci 0) tI] (.sO [.fa p6 0 q2, .ld p7 q6 .v, .P p8 (.mkfn 125 [] [q3]) .v, .cl p9 88 [q7, q8] tI, .mv p5 q9 tI] (.seq (.seq (.oX [.mv p10 q5 tI, .bn p11 .lss q10 (ci 0) .b]) (.cond q11 (.seq (.oX [.mv p4 (.c (.int .i64 (.negSucc 0))) tI]) .ret) .skip)) (.sO [.fa p12 0 q2, .ld p13 q12 .v, .mv p14 q5 tI, .P p15 (.iaddr (.sl 17) q13 q14) .v, .fa p16 5 q15, .ld p17 q16 tI, .P p18 (.mm true [q17, (ci 1)]) tI, .mv p4 q18 tI] (.s .ret)))))⟩
def S89 : SFn := evFX x89
theorem X89 : XTie S89 x89 := fun _ _ _ _ _ => rfl
/- 90 -/
def x90 : XFn := ⟨[.v, .v], false, [(.cells 5 p4)], (.sO [.al p2 (.box q0), .al p3 (.box q1), .al p4 (.new Zc)] (.sj [p3, p4] (.sO [.fa p8 5 q3, .ld p9 q8 .v, .P p10 (.iaddr (.sl 8) q9 (ci 0)) .v, .L p11 (.cells 8 q10) .v, .al p5 (.new Ze), .ss 8 q5 q11] (.sO [.fa p12 0 q5, .ld p13 q12 tI] (.block 0 (.sO [.bn p18 .eql q13 (ci 3) .b, .mv p17 q18 .b] (.cond q17 (.sO [.L p19 (.cells 1 q2) .v, .fa p20 2 q5, .ld p21 q20 .s, .cl p22 89 [q19, q21] tI, .bn p23 .gtr q22 (ci 0) .b] (.cond q23 (.sO [.fa p24 6 q3, .ld p25 q24 tI, .fa p26 2 q5, .ld p27 q26 .s, .P p28 (.build Zc [⟨0, 1, q25⟩, ⟨3, 1, q27⟩]) .v, .ss 5 q4 q28] (.s .ret)) (.s .skip))) (.sO [.bn p30 .eql q13 (ci 8) .b, .mv p29 q30 .b] (.cond q29 (.seq (.ops true (XL.of [.L p31 (.cells 1 q2) .v, .fa p32 5 q5, .ld p33 q32 .v, .P p34 (.iaddr (.sl 8) q33 (ci 0)) .v, .L p35 (.cells 8 q34) .v, .L p37 (.cells 1 q2) .v, .fa p38 5 q5, .ld p39 q38 .v, .P p40 (.iaddr (.sl 8) q39 (ci 1)) .v, .L p41 (.cells 8 q40) .v, .al p6 (.new Zc), .al p7 (.new Zc), .o ⟨(some p36), (.call (.fn 59) [q31, q35]), none, [⟨none, .cells 1 q2, p37⟩, ⟨none, .cell q38, p39⟩, ⟨none, .cells 8 q40, p41⟩]⟩ .v, .cl p42 59 [q37, q41] .v, .ss 5 q6 q36, .ss 5 q7 q42])) (.sO [.L p43 (.cells 1 q2) .v, .L p44 (.cells 5 q6) .v, .fa p45 1 q7, .ld p46 q45 tW, .fa p47 7 q3, .ld p48 q47 tI, .cl p49 92 [q43, q44, q46, (cb false), q48] .v, .ss 5 q4 q49] (.s .ret))) (.s (.oX [.L p14 (.cells 1 q2) .v, .L p15 (.cells 8 q5) .v, .cl p16 59 [q14, q15] .v]))))))))) (.s (.oX [.fa p50 7 q3, .ld p51 q50 tI, .P p52 (.build [(kI 0)] [⟨0, 1, q51⟩]) .v, .P p53 (.mkif 127 q52) .v, .o ⟨none, (.panic q53), none, []⟩ .v]))))⟩
def S90 : SFn := evFX x90
theorem X90 : XTie S90 x90 := fun _ _ _ _ _ => rfl
/- 92 -/
def x92 : XFn := ⟨[.v, .v, tW, .b, tI], false, [(.cells 5 p10)], (.sO [.al p5 (.box q0), .al p6 (.box q1), .al p10 (.new Zc)] (.sO [.mv p12 q2 tW, .cl p13 34 [q12] tI, .mv p11 q13 tI] (.sj [p4, p5, p6, p10, p11] (.sO [.mv p14 q3 .b] (.cond q14 (.s (.oX [.mv p15 q11 tI, .P p16 (.un .neg q15) tI, .mv p11 q16 tI])) (.s .skip))) (.sj [p6, p10, p11] (.opq true (XL.pre [.fa p17 3 q6, .ld p18 q17 .s, .bn p19 .eql q18 (.c (.str [])) .b, .mv p20 q19 .b, .ge p20 (XL.of [.G p20 false p21 (.faddr 4 q6) .v, .o ⟨(some p22), (.l (.cell q21)), (some (p20, false)), []⟩ tI, .G p20 false p23 (.mov q11) tI, .G p20 false p24 (.bin .add q22 q23) tI, .G p20 false p25 (.bin .lss q24 (ci 0)) .b, .P p26 (.pick q20 (cb true) q25) .b]) p26 .b, .mv p27 q26 .b, .sp p27, .G p27 false p28 (.faddr 4 q6) .v, .o ⟨(some p29), (.l (.cell q28)), (some (p27, false)), []⟩ tI, .G p27 false p30 (.mov q11) tI, .G p27 false p31 (.bin .add q29 q30) tI, .o ⟨(some p32), (.l (.cells 1 q5)), (some (p27, false)), []⟩ .v, .G p27 false p33 (.faddr 3 q6) .v, .o ⟨(some p34), (.l (.cell q33)), (some (p27, false)), []⟩ .s, .o ⟨(some p35), (.call (.fn 89) [q32, q34]), (some (p27, false)), [⟨(some (p27, false)), .cell q28, p29⟩]⟩ tI, .G p27 false p36 (.bin .gtr q31 q35) .b, .P p37 (.pick q27 (cb true) q36) .b, .jn p27 [p4, p6, p10, p11, p37]] (XL.of [])) (.cond q37 (.s (.oX [.mv p38 q4 tI, .P p39 (.build [(kI 0)] [⟨0, 1, q38⟩]) .v, .P p40 (.mkif 127 q39) .v, .o ⟨none, (.panic q40), none, []⟩ .v])) (.s .skip))) (.sO [.fa p41 4 q6, .ld p42 q41 tI, .mv p43 q11 tI, .bn p44 .add q42 q43 tI, .fa p45 4 q6, .st q45 q44] (.sO [.L p46 (.cells 5 q6) .v, .ss 5 q10 q46] (.s .ret)))))))⟩
def S92 : SFn := evFX x92
theorem X92 : XTie S92 x92 := fun _ _ _ _ _ => rfl
/- 94 -/
def v94_0 : List Pos := [p5, p8, p11, p12, p13, p14, p15]
def c94_0 : XC := (.sO [.mv p45 q11 tI, .cl p46 99 [q45] .v, .mv p47 q12 tI, .mv p48 q15 tI, .bn p49 .sub q47 q48 tI, .cl p50 128 [q46, q49] .v, .mv p51 q13 tI, .cl p52 99 [q51] .v, .mv p53 q14 tI, .mv p54 q15 tI, .bn p55 .sub q53 q54 tI, .cl p56 128 [q52, q55] .v, .mv p16 q50 .v, .mv p17 q56 .v] (.seq (.seq (.oX [.mv p57 q5 (.i .u64), .mv p58 q8 (.i .u64), .bn p59 .eql q57 q58 .b]) (.cond q59 (.seq (.oX [.mv p60 q5 (.i .u64), .mv p61 q16 .v, .mv p62 q17 .v, .cl p63 129 [q61, q62] .v, .cl p64 99 [(ci 1)] .v, .mv p65 q15 tI, .cl p66 97 [q63, q64, q65] (.i .u64), .cl p67 95 [q60, q66] (.i .u64), .mv p4 q67 (.i .u64)]) .ret) .skip)) (.seq (.seq (.oX [.mv p68 q16 .v, .mv p69 q17 .v, .cl p70 130 [q68, q69] tI]) (.block 0 (.seq (.oX [.bn p72 .eql q70 (ci 0) .b, .mv p71 q72 .b]) (.cond q71 (.seq (.oX [.mv p4 (.c Z64) (.i .u64)]) .ret) (.seq (.oX [.bn p74 .eql q70 (ci 1) .b, .mv p73 q74 .b]) (.cond q73 (.seq (.oX [.mv p75 q5 (.i .u64), .mv p76 q16 .v, .mv p77 q17 .v, .cl p78 131 [q76, q77] .v, .cl p79 99 [(ci 1)] .v, .mv p80 q15 tI, .cl p81 97 [q78, q79, q80] (.i .u64), .cl p82 95 [q75, q81] (.i .u64), .mv p4 q82 (.i .u64)]) .ret) .skip)))))) (.sO [.mv p83 q8 (.i .u64), .mv p84 q17 .v, .mv p85 q16 .v, .cl p86 131 [q84, q85] .v, .cl p87 99 [(ci 1)] .v, .mv p88 q15 tI, .cl p89 97 [q86, q87, q88] (.i .u64), .cl p90 95 [q83, q89] (.i .u64), .mv p4 q90 (.i .u64)] (.s .ret)))))
def c94_e : XC := (.sO [.mv p4 (.c Z64) (.i .u64)] (.sO [.mv p19 q0 (.i .u64), .cl p20 42 [q19] .v, .mv p18 q20 .v, .P p21 (.ext q18 0) (.i .u64), .P p22 (.ext q18 1) (.i .u64), .P p23 (.ext q18 2) (.i .u64), .mv p5 q21 (.i .u64), .mv p6 q22 (.i .u64), .mv p7 q23 (.i .u64)] (.sO [.mv p25 q1 (.i .u64), .cl p26 42 [q25] .v, .mv p24 q26 .v, .P p27 (.ext q24 0) (.i .u64), .P p28 (.ext q24 1) (.i .u64), .P p29 (.ext q24 2) (.i .u64), .mv p8 q27 (.i .u64), .mv p9 q28 (.i .u64), .mv p10 q29 (.i .u64)] (.sO [.mv p31 q0 (.i .u64), .cl p32 96 [q31] .v, .mv p30 q32 .v, .P p33 (.ext q30 0) tI, .P p34 (.ext q30 1) tI, .mv p11 q33 tI, .mv p12 q34 tI] (.sO [.mv p36 q1 (.i .u64), .cl p37 96 [q36] .v, .mv p35 q37 .v, .P p38 (.ext q35 0) tI, .P p39 (.ext q35 1) tI, .mv p13 q38 tI, .mv p14 q39 tI] (.sO [.mv p40 q12 tI, .mv p15 q40 tI] (.sj v94_0 (.sO [.mv p41 q14 tI, .mv p42 q12 tI, .bn p43 .lss q41 q42 .b] (.cond q43 (.s (.oX [.mv p44 q14 tI, .mv p15 q44 tI])) (.s .skip))) c94_0)))))))
def x94 : XFn := ⟨[(.i .u64), (.i .u64)], false, [(.tmp p4)], c94_e⟩
def e94_0 (k t5 t8 t11 t12 t13 t14 t15 h) := kN k [(p5, (AV.int .u64 t5)), (p8, (AV.int .u64 t8)), (p11, (vI t11)), (p12, (vI t12)), (p13, (vI t13)), (p14, (vI t14)), (p15, (vI t15))] h
def S94_0 (D : CallD) (m : Nat) (t5 t8 t11 t12 t13 t14 t15 : Int) (h : HP) : Res2 :=
 cal D 99 [(vI t11)] h fun t46 h6 =>
 let t49 := wrQ .i64 (t12 - t15)
 cal D 128 [t46, (vI t49)] h6 fun t50 h7 =>
 cal D 99 [(vI t13)] h7 fun t52 h8 =>
 let t55 := wrQ .i64 (t14 - t15)
 cal D 128 [t52, (vI t55)] h8 fun t56 h9 =>
 let t59 := eqQ t5 t8
 br t59 (
 cal D 129 [t50, t56] h9 fun t63 h10 =>
 cal D 99 [(vI (Int.ofNat 1))] h10 fun t64 h11 =>
 cal D 97 [t63, t64, (vI t15)] h11 fun t66 h12 =>
 asI .u64 t66 fun t66a =>
 cal D 95 [(AV.int .u64 t5), (AV.int .u64 t66a)] h12 fun t67 h13 =>
 asI .u64 t67 fun t67a =>
 some (.ret (AV.int .u64 t67a) h13, .no)) (
 cal D 130 [t50, t56] h9 fun t70 h14 =>
 asI .i64 t70 fun t70a =>
 let t72 := eqQ t70a (Int.ofNat 0)
 br t72 (
 some (.ret (AV.int .u64 (Int.ofNat 0)) h14, .no)) (
 let t74 := eqQ t70a (Int.ofNat 1)
 br t74 (
 cal D 131 [t50, t56] h14 fun t78 h15 =>
 cal D 99 [(vI (Int.ofNat 1))] h15 fun t79 h16 =>
 cal D 97 [t78, t79, (vI t15)] h16 fun t81 h17 =>
 asI .u64 t81 fun t81a =>
 cal D 95 [(AV.int .u64 t5), (AV.int .u64 t81a)] h17 fun t82 h18 =>
 asI .u64 t82 fun t82a =>
 some (.ret (AV.int .u64 t82a) h18, .no)) (
 cal D 131 [t56, t50] h14 fun t86 h19 =>
 cal D 99 [(vI (Int.ofNat 1))] h19 fun t87 h20 =>
 cal D 97 [t86, t87, (vI t15)] h20 fun t89 h21 =>
 asI .u64 t89 fun t89a =>
 cal D 95 [(AV.int .u64 t8), (AV.int .u64 t89a)] h21 fun t90 h22 =>
 asI .u64 t90 fun t90a =>
 some (.ret (AV.int .u64 t90a) h22, .no))))
def e94_1 (k t0 t1 h) := kN k [(p0, (AV.int .u64 t0)), (p1, (AV.int .u64 t1))] h
def S94_1 (D : CallD) (m : Nat) (t0 t1 : Int) (h : HP) : Res2 :=
 cal D 42 [(AV.int .u64 t0)] h fun t20 h2 =>
 extC t20 0 fun vt21 => asI .u64 vt21 fun t21 =>
 extC t20 1 fun vt22 => asI .u64 vt22 fun t22 =>
 extC t20 2 fun vt23 => asI .u64 vt23 fun t23 =>
 cal D 42 [(AV.int .u64 t1)] h2 fun t26 h3 =>
 extC t26 0 fun vt27 => asI .u64 vt27 fun t27 =>
 extC t26 1 fun vt28 => asI .u64 vt28 fun t28 =>
 extC t26 2 fun vt29 => asI .u64 vt29 fun t29 =>
 cal D 96 [(AV.int .u64 t0)] h3 fun t32 h4 =>
 extC t32 0 fun vt33 => asI .i64 vt33 fun t33 =>
 extC t32 1 fun vt34 => asI .i64 vt34 fun t34 =>
 cal D 96 [(AV.int .u64 t1)] h4 fun t37 h5 =>
 extC t37 0 fun vt38 => asI .i64 vt38 fun t38 =>
 extC t37 1 fun vt39 => asI .i64 vt39 fun t39 =>
 let t43 := ltQ t39 t34
 br t43 (
 S94_0 D m t21 t27 t33 t34 t38 t39 t39 h5) (
 S94_0 D m t21 t27 t33 t34 t38 t39 t34 h5)
def S94 : SFn := fun D m args h u => nou u <| popI .u64 args fun t0 args => popI .u64 args fun t1 args => endA args (S94_1 D m t0 t1 h)
theorem T94_0 (hE : FX x94 D m E) : S94_0 D m = e94_0 (E c94_0 []) := by unfold S94_0; rw [hE c94_0]; kernel_rfl
theorem T94_1 (hE : FX x94 D m E) : S94_1 D m = e94_1 (E c94_e []) := by unfold S94_1; rw [T94_0 hE, hE c94_e]; kernel_rfl
theorem X94 : XTie S94 x94 := X_of fun D m E hE args h u => by unfold S94; rw [T94_1 hE]; kernel_rfl
/- 95 -/
def c95_e : XC := (.sO [.mv p4 (.c Z64) (.i .u64)] (.seq (.seq (.oX [.mv p5 q0 (.i .u64), .bn p6 .eql q5 (.c (.int .u64 (.ofNat 1))) .b]) (.cond q6 (.seq (.oX [.mv p7 q1 (.i .u64), .bn p8 .add q7 (.c (.int .u64 (.ofNat 9223372036854775808))) (.i .u64), .mv p4 q8 (.i .u64)]) .ret) .skip)) (.sO [.mv p9 q1 (.i .u64), .mv p4 q9 (.i .u64)] (.s .ret))))
def x95 : XFn := ⟨[(.i .u64), (.i .u64)], false, [(.tmp p4)], c95_e⟩
def e95_0 (k t0 t1 h) := kN k [(p0, (AV.int .u64 t0)), (p1, (AV.int .u64 t1))] h
def S95_0 (D : CallD) (m : Nat) (t0 t1 : Int) (h : HP) : Res2 :=
 let t6 := eqQ t0 (Int.ofNat 1)
 br t6 (
 let t8 := wrQ .u64 (addQ t1 (Int.ofNat 9223372036854775808))
 some (.ret (AV.int .u64 t8) h, .no)) (
 some (.ret (AV.int .u64 t1) h, .no))
def S95 : SFn := fun D m args h u => nou u <| popI .u64 args fun t0 args => popI .u64 args fun t1 args => endA args (S95_0 D m t0 t1 h)
theorem T95_0 (hE : FX x95 D m E) : S95_0 D m = e95_0 (E c95_e []) := by unfold S95_0; rw [hE c95_e]; kernel_rfl
theorem X95 : XTie S95 x95 := X_of fun D m E hE args h u => by unfold S95; rw [T95_0 hE]; kernel_rfl
/- 96 -/
def c96_e : XC := (.sO [.mv p2 (ci 0) tI, .mv p3 (ci 0) tI] (.sO [.mv p8 q0 (.i .u64), .cl p9 42 [q8] .v, .mv p7 q9 .v, .P p10 (.ext q7 0) (.i .u64), .P p11 (.ext q7 1) (.i .u64), .P p12 (.ext q7 2) (.i .u64), .mv p4 q10 (.i .u64), .mv p5 q11 (.i .u64), .mv p6 q12 (.i .u64)] (.seq (.seq (.oX [.mv p13 q5 (.i .u64), .bn p14 .eql q13 (.c Z64) .b]) (.cond q14 (.seq (.oX [.mv p15 q6 (.i .u64), .P p16 (.conv (.ii .i64) q15) tI, .mv p2 q16 tI, .mv p3 (.c (.int .i64 (.negSucc 1073))) tI]) .ret) .skip)) (.sO [.mv p17 q6 (.i .u64), .P p18 (.conv (.ii .i64) q17) tI, .bn p19 .add q18 (ci 4503599627370496) tI, .mv p20 q5 (.i .u64), .P p21 (.conv (.ii .i64) q20) tI, .bn p22 .sub q21 (ci 1075) tI, .mv p2 q19 tI, .mv p3 q22 tI] (.s .ret)))))
def x96 : XFn := ⟨[(.i .u64)], false, [(.tmp p2), (.tmp p3)], c96_e⟩
def e96_0 (k t0 h) := kN k [(p0, (AV.int .u64 t0))] h
def S96_0 (D : CallD) (m : Nat) (t0 : Int) (h : HP) : Res2 :=
 cal D 42 [(AV.int .u64 t0)] h fun t9 h1 =>
 extC t9 0 fun vt10 => asI .u64 vt10 fun t10 =>
 extC t9 1 fun vt11 => asI .u64 vt11 fun t11 =>
 extC t9 2 fun vt12 => asI .u64 vt12 fun t12 =>
 let t14 := eqQ t11 (Int.ofNat 0)
 br t14 (
 let t16 := wrapF .i64 t12
 some (.ret (.tup [(vI t16), (vI (Int.negSucc 1073))]) h1, .no)) (
 let t18 := wrapF .i64 t12
 let t19 := wrQ .i64 (addQ t18 (Int.ofNat 4503599627370496))
 let t21 := wrapF .i64 t11
 let t22 := wrQ .i64 (t21 - (Int.ofNat 1075))
 some (.ret (.tup [(vI t19), (vI t22)]) h1, .no))
def S96 : SFn := fun D m args h u => nou u <| popI .u64 args fun t0 args => endA args (S96_0 D m t0 h)
theorem T96_0 (hE : FX x96 D m E) : S96_0 D m = e96_0 (E c96_e []) := by unfold S96_0; rw [hE c96_e]; kernel_rfl
theorem X96 : XTie S96 x96 := X_of fun D m E hE args h u => by unfold S96; rw [T96_0 hE]; kernel_rfl
/- 97 -/
def v97_1 : List Pos := [p2, p8]
def c97_1 : XC := (.seq (.seq (.oX [.mv p75 q8 tI, .bn p76 .lss q75 (ci 4503599627370496) .b]) (.cond q76 (.seq (.oX [.mv p77 q8 tI, .P p78 (.conv (.ii .u64) q77) (.i .u64), .mv p6 q78 (.i .u64)]) .ret) .skip)) (.seq (.seq (.oX [.mv p79 q2 tI, .bn p80 .add q79 (ci 1075) tI, .bn p81 .geq q80 (ci 2047) .b]) (.cond q81 (.seq (.oX [.mv p6 (.c (.int .u64 (.ofNat 9218868437227405312))) (.i .u64)]) .ret) .skip)) (.sO [.mv p82 q2 tI, .bn p83 .add q82 (ci 1075) tI, .P p84 (.conv (.ii .u64) q83) (.i .u64), .bn p85 .mul q84 (.c (.int .u64 (.ofNat 4503599627370496))) (.i .u64), .mv p86 q8 tI, .P p87 (.conv (.ii .u64) q86) (.i .u64), .bn p88 .add q85 q87 (.i .u64), .bn p89 .sub q88 (.c (.int .u64 (.ofNat 4503599627370496))) (.i .u64), .mv p6 q89 (.i .u64)] (.s .ret))))
def v97_0 : List Pos := [p2, p7, p8]
def c97_0 : XC := (.sO [.mv p66 q2 tI, .mv p67 q7 tI, .bn p68 .sub q66 q67 tI, .mv p2 q68 tI] (.sj v97_1 (.sO [.mv p69 q8 tI, .bn p70 .eql q69 (ci 9007199254740992) .b] (.cond q70 (.sO [.mv p71 q8 tI, .bn p72 .quo q71 (ci 2) tI, .mv p8 q72 tI] (.s (.oX [.mv p73 q2 tI, .bn p74 .add q73 (ci 1) tI, .mv p2 q74 tI]))) (.s .skip))) c97_1))
def v97_5 : List Pos := [p0, p1, p2, p7]
def c97_5 : XC := (.s (.oX [.mv p64 q7 tI, .bn p65 .sub q64 (ci 1) tI, .mv p7 q65 tI]))
def v97_6 : List Pos := [p2, p7, p8]
def c97_6 : XC := (.s (.exit 0))
def v97_4 : List Pos := [p0, p1, p2, p7, p10, p11]
def c97_4 : XC := (.sO [.mv p40 q10 .v, .mv p41 q11 .v, .cl p42 133 [q40, q41] .v, .mv p39 q42 .v, .P p43 (.ext q39 0) tI, .P p44 (.ext q39 1) .v, .mv p8 q43 tI, .mv p9 q44 .v] (.sj v97_5 (.sO [.mv p45 q8 tI, .bn p46 .lss q45 (ci 9007199254740992) .b] (.cond q46 (.sO [.mv p47 q9 .v, .cl p48 128 [q47, (ci 1)] .v, .mv p49 q11 .v, .cl p50 130 [q48, q49] tI, .mv p12 q50 tI] (.sj v97_6 (.sO [.mv p51 q12 tI, .bn p52 .gtr q51 (ci 0) .b, .mv p53 q52 .b, .ge p53 (XL.of [.G p53 false p54 (.mov q12) tI, .G p53 false p55 (.bin .eql q54 (ci 0)) .b, .G p53 false p56 (.mov q55) .b, .ge p56 (XL.of [.G p56 true p57 (.mov q8) tI, .G p56 true p58 (.bin .rem q57 (ci 2)) tI, .G p56 true p59 (.bin .eql q58 (ci 1)) .b, .G p53 false p60 (.pick q56 q59 (cb false)) .b]) p60 .b, .P p61 (.pick q53 (cb true) q60) .b]) p61 .b] (.cond q61 (.s (.oX [.mv p62 q8 tI, .bn p63 .add q62 (ci 1) tI, .mv p8 q63 tI])) (.s .skip))) c97_6)) (.s .skip))) c97_5))
def v97_3 : List Pos := [p0, p1, p2, p7]
def c97_3 : XC := (.sO [.mv p28 q0 .v, .mv p29 q1 .v, .mv p10 q28 .v, .mv p11 q29 .v] (.sj v97_4 (.sO [.mv p30 q7 tI, .bn p31 .gtr q30 (ci 0) .b] (.cond q31 (.s (.oX [.mv p32 q0 .v, .mv p33 q7 tI, .cl p34 128 [q32, q33] .v, .mv p10 q34 .v])) (.s (.oX [.mv p35 q1 .v, .mv p36 q7 tI, .P p37 (.un .neg q36) tI, .cl p38 128 [q35, q37] .v, .mv p11 q38 .v])))) c97_4))
def v97_2 : List Pos := [p0, p1, p2, p7]
def c97_2b : XC := (.block 1 (.sj v97_3 (.sO [.mv p22 q2 tI, .mv p23 q7 tI, .bn p24 .sub q22 q23 tI, .bn p25 .lss q24 (.c (.int .i64 (.negSucc 1073))) .b] (.cond q25 (.s (.oX [.mv p26 q2 tI, .bn p27 .add q26 (ci 1074) tI, .mv p7 q27 tI])) (.s .skip))) c97_3))
def c97_e : XC := (.sO [.mv p6 (.c Z64) (.i .u64)] (.seq (.seq (.oX [.mv p13 q0 .v, .P p14 (.lenl q13) tI, .bn p15 .eql q14 (ci 0) .b]) (.cond q15 (.seq (.oX [.mv p6 (.c Z64) (.i .u64)]) .ret) .skip)) (.sO [.mv p16 q0 .v, .cl p17 132 [q16] tI, .bn p18 .sub (ci 53) q17 tI, .mv p19 q1 .v, .cl p20 132 [q19] tI, .bn p21 .add q18 q20 tI, .mv p7 q21 tI] (.sO [.mv p8 (ci 0) tI] (.sO [.mv p9 (.c .nils) .v] (.sj v97_0 (.block 0 (.loop v97_2 c97_2b)) c97_0))))))
def x97 : XFn := ⟨[.v, .v, tI], false, [(.tmp p6)], c97_e⟩
def e97_1 (k t2 t8 h) := kN k [(p2, (vI t2)), (p8, (vI t8))] h
def S97_1 (D : CallD) (m : Nat) (t2 t8 : Int) (h : HP) : Res2 :=
 let t76 := ltQ t8 (Int.ofNat 4503599627370496)
 br t76 (
 let t78 := wrapF .u64 t8
 some (.ret (AV.int .u64 t78) h, .no)) (
 let t80 := wrQ .i64 (addQ t2 (Int.ofNat 1075))
 let t81 := leQ (Int.ofNat 2047) t80
 br t81 (
 some (.ret (AV.int .u64 (Int.ofNat 9218868437227405312)) h, .no)) (
 let t83 := wrQ .i64 (addQ t2 (Int.ofNat 1075))
 let t84 := wrapF .u64 t83
 let t85 := wrQ .u64 (t84 * (Int.ofNat 4503599627370496))
 let t87 := wrapF .u64 t8
 let t88 := wrQ .u64 (addQ t85 t87)
 let t89 := wrQ .u64 (t88 - (Int.ofNat 4503599627370496))
 some (.ret (AV.int .u64 t89) h, .no)))
def e97_0 (k t2 t7 t8 h) := kN k [(p2, (vI t2)), (p7, (vI t7)), (p8, (vI t8))] h
def S97_0 (D : CallD) (m : Nat) (t2 t7 t8 : Int) (h : HP) : Res2 :=
 let t68 := wrQ .i64 (t2 - t7)
 let t70 := eqQ t8 (Int.ofNat 9007199254740992)
 br t70 (
 let t72 := wrapF .i64 (Int.tdiv t8 (Int.ofNat 2))
 let t74 := wrQ .i64 (addQ t68 (Int.ofNat 1))
 S97_1 D m t74 t72 h) (
 S97_1 D m t68 t8 h)
def e97_5 (k t0 t1 t2 t7 h) := kN k [(p0, t0), (p1, t1), (p2, (vI t2)), (p7, (vI t7))] h
def S97_5 (D : CallD) (m : Nat) (g2 : AV → AV → Int → Int → HP → Res2) (t0 t1 : AV) (t2 t7 : Int) (h : HP) : Res2 :=
 let t65 := wrQ .i64 (t7 - (Int.ofNat 1))
 g2 t0 t1 t2 t65 h
def e97_6 (k t2 t7 t8 h) := kN k [(p2, (vI t2)), (p7, (vI t7)), (p8, (vI t8))] h
def S97_6 (D : CallD) (m : Nat) (g2 : AV → AV → Int → Int → HP → Res2) (t2 t7 t8 : Int) (h : HP) : Res2 :=
 S97_0 D m t2 t7 t8 h
def e97_4 (k t0 t1 t2 t7 t10 t11 h) := kN k [(p0, t0), (p1, t1), (p2, (vI t2)), (p7, (vI t7)), (p10, t10), (p11, t11)] h
def S97_4 (D : CallD) (m : Nat) (g2 : AV → AV → Int → Int → HP → Res2) (t0 t1 : AV) (t2 t7 : Int) (t10 t11 : AV) (h : HP) : Res2 :=
 cal D 133 [t10, t11] h fun t42 h10 =>
 extC t42 0 fun vt43 => asI .i64 vt43 fun t43 =>
 extC t42 1 fun t44 =>
 let t46 := ltQ t43 (Int.ofNat 9007199254740992)
 br t46 (
 cal D 128 [t44, (vI (Int.ofNat 1))] h10 fun t48 h11 =>
 cal D 130 [t48, t11] h11 fun t50 h12 =>
 asI .i64 t50 fun t50a =>
 let t52 := ltQ (Int.ofNat 0) t50a
 obB (brV t52 (
 some (vB true)) (
 let t55 := eqQ t50a (Int.ofNat 0)
 obBV (brV t55 (
 let t58 := Int.tmod t43 (Int.ofNat 2)
 let t59 := eqQ t58 (Int.ofNat 1)
 some (vB t59)) (
 some (vB false))) fun t60 =>
 some (vB t60))) fun t61 =>
 br t61 (
 let t63 := wrQ .i64 (addQ t43 (Int.ofNat 1))
 S97_6 D m g2 t2 t7 t63 h12) (
 S97_6 D m g2 t2 t7 t43 h12)) (
 S97_5 D m g2 t0 t1 t2 t7 h10)
def e97_3 (k t0 t1 t2 t7 h) := kN k [(p0, t0), (p1, t1), (p2, (vI t2)), (p7, (vI t7))] h
def S97_3 (D : CallD) (m : Nat) (g2 : AV → AV → Int → Int → HP → Res2) (t0 t1 : AV) (t2 t7 : Int) (h : HP) : Res2 :=
 let t31 := ltQ (Int.ofNat 0) t7
 br t31 (
 cal D 128 [t0, (vI t7)] h fun t34 h13 =>
 S97_4 D m g2 t0 t1 t2 t7 t34 t1 h13) (
 let t37 := IntKind.wrap .i64 (0 - t7)
 cal D 128 [t1, (vI t37)] h fun t38 h14 =>
 S97_4 D m g2 t0 t1 t2 t7 t0 t38 h14)
def e97_2 (k t0 t1 t2 t7 h) := kN k [(p0, t0), (p1, t1), (p2, (vI t2)), (p7, (vI t7))] h
def S97_2b (D : CallD) (m : Nat) (g2 : AV → AV → Int → Int → HP → Res2) (t0 t1 : AV) (t2 t7 : Int) (h : HP) : Res2 :=
 let t24 := wrQ .i64 (t2 - t7)
 let t25 := ltQ t24 (Int.negSucc 1073)
 br t25 (
 let t27 := wrQ .i64 (addQ t2 (Int.ofNat 1074))
 S97_3 D m g2 t0 t1 t2 t27 h) (
 S97_3 D m g2 t0 t1 t2 t7 h)
def S97_2 (D : CallD) (m : Nat) : AV → AV → Int → Int → HP → Res2 := nrec (fun _ _ _ _ _ => none) (fun _ g => S97_2b D m g) m
def e97_7 (k t0 t1 t2 h) := kN k [(p0, t0), (p1, t1), (p2, (vI t2))] h
def S97_7 (D : CallD) (m : Nat) (t0 t1 : AV) (t2 : Int) (h : HP) : Res2 :=
 lenC t0 fun vt14 => asI .i64 vt14 fun t14 =>
 let t15 := eqQ t14 (Int.ofNat 0)
 br t15 (
 some (.ret (AV.int .u64 (Int.ofNat 0)) h, .no)) (
 cal D 132 [t0] h fun t17 h8 =>
 asI .i64 t17 fun t17a =>
 let t18 := wrQ .i64 ((Int.ofNat 53) - t17a)
 cal D 132 [t1] h8 fun t20 h9 =>
 asI .i64 t20 fun t20a =>
 let t21 := wrQ .i64 (addQ t18 t20a)
 S97_2 D m t0 t1 t2 t21 h9)
def S97 : SFn := fun D m args h u => nou u <| popV args fun t0 args => popV args fun t1 args => popI .i64 args fun t2 args => endA args (S97_7 D m t0 t1 t2 h)
theorem T97_1 (hE : FX x97 D m E) : S97_1 D m = e97_1 (E c97_1 []) := by unfold S97_1; rw [hE c97_1]; kernel_rfl
theorem T97_0 (hE : FX x97 D m E) : S97_0 D m = e97_0 (E c97_0 []) := by unfold S97_0; rw [T97_1 hE, hE c97_0]; kernel_rfl
theorem T97_5 (hE : FX x97 D m E) (G2) : S97_5 D m (e97_2 G2) = e97_5 (E c97_5 [.blk 1, .lp v97_2 G2, .blk 0, .sj v97_0 c97_0]) := by unfold S97_5; rw [hE c97_5]; kernel_rfl
theorem T97_6 (hE : FX x97 D m E) (G2) : S97_6 D m (e97_2 G2) = e97_6 (E c97_6 [.sj v97_5 c97_5, .blk 1, .lp v97_2 G2, .blk 0, .sj v97_0 c97_0]) := by unfold S97_6; rw [T97_0 hE, hE c97_6]; kernel_rfl
theorem T97_4 (hE : FX x97 D m E) (G2) : S97_4 D m (e97_2 G2) = e97_4 (E c97_4 [.blk 1, .lp v97_2 G2, .blk 0, .sj v97_0 c97_0]) := by unfold S97_4; rw [T97_6 hE G2, T97_5 hE G2, hE c97_4]; kernel_rfl
theorem T97_3 (hE : FX x97 D m E) (G2) : S97_3 D m (e97_2 G2) = e97_3 (E c97_3 [.blk 1, .lp v97_2 G2, .blk 0, .sj v97_0 c97_0]) := by unfold S97_3; rw [T97_4 hE G2, hE c97_3]; kernel_rfl
theorem T97_2b (hE : FX x97 D m E) (G2) : S97_2b D m (e97_2 G2) = e97_2 (E c97_2b [.lp v97_2 G2, .blk 0, .sj v97_0 c97_0]) := by unfold S97_2b; rw [T97_3 hE G2, hE c97_2b]; kernel_rfl
theorem T97_2 (hE : FX x97 D m E) : S97_2 D m = e97_2 (nrec (fun _ => none) (fun _ G2 st => E c97_2b [.lp v97_2 G2, .blk 0, .sj v97_0 c97_0] st) m) :=
  nrec_emb e97_2 (fun _ _ _ _ _ => none) (fun g => S97_2b D m g) (fun G2 st => E c97_2b [.lp v97_2 G2, .blk 0, .sj v97_0 c97_0] st) rfl (fun g => T97_2b hE g) m
theorem T97_7 (hE : FX x97 D m E) : S97_7 D m = e97_7 (E c97_e []) := by unfold S97_7; rw [T97_2 hE, hE c97_e]; kernel_rfl
theorem X97 : XTie S97 x97 := X_of fun D m E hE args h u => by unfold S97; rw [T97_7 hE]; kernel_rfl
/- 98 -/
def v98_0 : List Pos := [p5]
def c98_0 : XC := (.sO [.mv p23 q5 .v, .mv p4 q23 .v] (.s .ret))
def v98_1 : List Pos := [p0, p1, p5, p6]
def c98_1b : XC := (.seq (.seq (.oX [.mv p10 q6 tI, .bn p11 .geq q10 (ci 0) .b]) (.cond q11 .skip (.exit 0))) (.seq (.block 1 (.ops true (XL.of [.mv p14 q5 .v, .mv p16 q0 .v, .mv p17 q1 .v, .mv p18 q6 tI, .P p19 (.iaddr (.sl 1) q17 q18) .v, .ld p20 q19 tI, .o ⟨(some p15), (.call (.fn 128) [q14, (ci 16)]), none, [⟨none, .cell q19, p20⟩]⟩ .v, .cl p21 134 [q16, q20] .v, .cl p22 129 [q15, q21] .v, .mv p5 q22 .v]))) (.s (.oX [.mv p12 q6 tI, .bn p13 .sub q12 (ci 1) tI, .mv p6 q13 tI]))))
def c98_e : XC := (.sO [.mv p4 (.c .nils) .v] (.sO [.mv p5 (.c .nils) .v] (.sj v98_0 (.sO [.mv p7 q1 .v, .P p8 (.lenl q7) tI, .bn p9 .sub q8 (ci 1) tI, .mv p6 q9 tI] (.block 0 (.loop v98_1 c98_1b))) c98_0)))
def x98 : XFn := ⟨[.v, .v], false, [(.tmp p4)], c98_e⟩
def e98_0 (k t5 h) := kN k [(p5, t5)] h
def S98_0 (D : CallD) (m : Nat) (t5 : AV) (h : HP) : Res2 :=
 some (.ret t5 h, .no)
def e98_1 (k t0 t1 t5 t6 h) := kN k [(p0, t0), (p1, t1), (p5, t5), (p6, (vI t6))] h
def S98_1b (D : CallD) (m : Nat) (g1 : AV → AV → AV → Int → HP → Res2) (t0 t1 t5 : AV) (t6 : Int) (h : HP) : Res2 :=
 let t11 := leQ (Int.ofNat 0) t6
 br t11 (
 iasC 1 t1 (vI t6) fun t19 =>
 ldI t19 h fun t20 =>
 cal D 128 [t5, (vI (Int.ofNat 16))] h fun t15 h3 =>
 br (again [⟨none, .cell q19, p20⟩] (mkT [(p20, (vI t20)), (p19, t19)]) h3) (
 cal D 134 [t0, (vI t20)] h3 fun t21 h4 =>
 cal D 129 [t15, t21] h4 fun t22 h5 =>
 let t13 := wrQ .i64 (t6 - (Int.ofNat 1))
 g1 t0 t1 t22 t13 h5) none) (
 S98_0 D m t5 h)
def S98_1 (D : CallD) (m : Nat) : AV → AV → AV → Int → HP → Res2 := nrec (fun _ _ _ _ _ => none) (fun _ g => S98_1b D m g) m
def e98_2 (k t0 t1 h) := kN k [(p0, t0), (p1, t1)] h
def S98_2 (D : CallD) (m : Nat) (t0 t1 : AV) (h : HP) : Res2 :=
 lenC t1 fun vt8 => asI .i64 vt8 fun t8 =>
 let t9 := wrQ .i64 (t8 - (Int.ofNat 1))
 S98_1 D m t0 t1 (.nils : AV) t9 h
def S98 : SFn := fun D m args h u => nou u <| popV args fun t0 args => popV args fun t1 args => endA args (S98_2 D m t0 t1 h)
theorem T98_0 (hE : FX x98 D m E) : S98_0 D m = e98_0 (E c98_0 []) := by unfold S98_0; rw [hE c98_0]; kernel_rfl
theorem T98_1b (hE : FX x98 D m E) (G1) : S98_1b D m (e98_1 G1) = e98_1 (E c98_1b [.lp v98_1 G1, .blk 0, .sj v98_0 c98_0]) := by unfold S98_1b; rw [T98_0 hE, hE c98_1b]; kernel_rfl
theorem T98_1 (hE : FX x98 D m E) : S98_1 D m = e98_1 (nrec (fun _ => none) (fun _ G1 st => E c98_1b [.lp v98_1 G1, .blk 0, .sj v98_0 c98_0] st) m) :=
  nrec_emb e98_1 (fun _ _ _ _ _ => none) (fun g => S98_1b D m g) (fun G1 st => E c98_1b [.lp v98_1 G1, .blk 0, .sj v98_0 c98_0] st) rfl (fun g => T98_1b hE g) m
theorem T98_2 (hE : FX x98 D m E) : S98_2 D m = e98_2 (E c98_e []) := by unfold S98_2; rw [T98_1 hE, hE c98_e]; kernel_rfl
theorem X98 : XTie S98 x98 := X_of fun D m E hE args h u => by unfold S98; rw [T98_2 hE]; kernel_rfl
/- 99 -/
def v99_0 : List Pos := [p3]
def c99_0 : XC := (.sO [.mv p13 q3 .v, .mv p2 q13 .v] (.s .ret))
def v99_1 : List Pos := [p0, p3]
def c99_1b : XC := (.seq (.seq (.oX [.mv p4 q0 tI, .bn p5 .gtr q4 (ci 0) .b]) (.cond q5 .skip (.exit 0))) (.block 1 (.sO [.mv p6 q3 .v, .mv p7 q0 tI, .bn p8 .rem q7 (ci 65536) tI, .al p9 (.bsl [(kI 0)] 1 [⟨0, 1, q8⟩]), .o ⟨(some p10), (.e (.app 1 8 q6 q9)), none, []⟩ .v, .mv p3 q10 .v] (.s (.oX [.mv p11 q0 tI, .bn p12 .quo q11 (ci 65536) tI, .mv p0 q12 tI])))))
def c99_e : XC := (.sO [.mv p2 (.c .nils) .v] (.sO [.mv p3 (.c .nils) .v] (.sj v99_0 (.block 0 (.loop v99_1 c99_1b)) c99_0)))
def x99 : XFn := ⟨[tI], false, [(.tmp p2)], c99_e⟩
def e99_0 (k t3 h) := kN k [(p3, t3)] h
def S99_0 (D : CallD) (m : Nat) (t3 : AV) (h : HP) : Res2 :=
 some (.ret t3 h, .no)
def e99_1 (k t0 t3 h) := kN k [(p0, (vI t0)), (p3, t3)] h
def S99_1b (D : CallD) (m : Nat) (g1 : Int → AV → HP → Res2) (t0 : Int) (t3 : AV) (h : HP) : Res2 :=
 let t5 := ltQ (Int.ofNat 0) t0
 br t5 (
 let t8 := Int.tmod t0 (Int.ofNat 65536)
 let t9 := AV.slice (HP.nxQ h) 0 1 (.exact 1)
 let h3 := HP.newQ h (.cells true [(vI t8)])
 eff (.app 1 8 (.c t3) (.c t9)) h3 fun t10 h4 =>
 let t12 := wrapF .i64 (Int.tdiv t0 (Int.ofNat 65536))
 g1 t12 t10 h4) (
 S99_0 D m t3 h)
def S99_1 (D : CallD) (m : Nat) : Int → AV → HP → Res2 := nrec (fun _ _ _ => none) (fun _ g => S99_1b D m g) m
def e99_2 (k t0 h) := kN k [(p0, (vI t0))] h
def S99_2 (D : CallD) (m : Nat) (t0 : Int) (h : HP) : Res2 :=
 S99_1 D m t0 (.nils : AV) h
def S99 : SFn := fun D m args h u => nou u <| popI .i64 args fun t0 args => endA args (S99_2 D m t0 h)
theorem T99_0 (hE : FX x99 D m E) : S99_0 D m = e99_0 (E c99_0 []) := by unfold S99_0; rw [hE c99_0]; kernel_rfl
theorem T99_1b (hE : FX x99 D m E) (G1) : S99_1b D m (e99_1 G1) = e99_1 (E c99_1b [.lp v99_1 G1, .blk 0, .sj v99_0 c99_0]) := by unfold S99_1b; rw [T99_0 hE, hE c99_1b]; kernel_rfl
theorem T99_1 (hE : FX x99 D m E) : S99_1 D m = e99_1 (nrec (fun _ => none) (fun _ G1 st => E c99_1b [.lp v99_1 G1, .blk 0, .sj v99_0 c99_0] st) m) :=
  nrec_emb e99_1 (fun _ _ _ => none) (fun g => S99_1b D m g) (fun G1 st => E c99_1b [.lp v99_1 G1, .blk 0, .sj v99_0 c99_0] st) rfl (fun g => T99_1b hE g) m
theorem T99_2 (hE : FX x99 D m E) : S99_2 D m = e99_2 (E c99_e []) := by unfold S99_2; rw [T99_1 hE, hE c99_e]; kernel_rfl
theorem X99 : XTie S99 x99 := X_of fun D m E hE args h u => by unfold S99; rw [T99_2 hE]; kernel_rfl
/- 100 -/
def c100_e : XC := (.sO [.mv p2 (ci 0) tI] (.sO [.mv p8 q0 (.i .u64), .cl p9 42 [q8] .v, .mv p7 q9 .v, .P p10 (.ext q7 0) (.i .u64), .P p11 (.ext q7 1) (.i .u64), .P p12 (.ext q7 2) (.i .u64), .mv p3 q10 (.i .u64), .mv p4 q11 (.i .u64), .mv p5 q12 (.i .u64)] (.sO [.mv p13 q0 (.i .u64), .bn p14 .rem q13 (.c (.int .u64 (.ofNat 9223372036854775808))) (.i .u64), .P p15 (.conv (.ii .i64) q14) tI, .mv p6 q15 tI] (.seq (.seq (.oX [.mv p16 q3 (.i .u64), .bn p17 .eql q16 (.c (.int .u64 (.ofNat 1))) .b]) (.cond q17 (.seq (.oX [.mv p18 q6 tI, .P p19 (.un .neg q18) tI, .mv p2 q19 tI]) .ret) .skip)) (.sO [.mv p20 q6 tI, .mv p2 q20 tI] (.s .ret))))))
def x100 : XFn := ⟨[(.i .u64)], false, [(.tmp p2)], c100_e⟩
def e100_0 (k t0 h) := kN k [(p0, (AV.int .u64 t0))] h
def S100_0 (D : CallD) (m : Nat) (t0 : Int) (h : HP) : Res2 :=
 cal D 42 [(AV.int .u64 t0)] h fun t9 h1 =>
 extC t9 0 fun vt10 => asI .u64 vt10 fun t10 =>
 extC t9 1 fun vt11 => asI .u64 vt11 fun t11 =>
 extC t9 2 fun vt12 => asI .u64 vt12 fun t12 =>
 let t14 := Int.tmod t0 (Int.ofNat 9223372036854775808)
 let t15 := wrapF .i64 t14
 let t17 := eqQ t10 (Int.ofNat 1)
 br t17 (
 let t19 := IntKind.wrap .i64 (0 - t15)
 some (.ret (vI t19) h1, .no)) (
 some (.ret (vI t15) h1, .no))
def S100 : SFn := fun D m args h u => nou u <| popI .u64 args fun t0 args => endA args (S100_0 D m t0 h)
theorem T100_0 (hE : FX x100 D m E) : S100_0 D m = e100_0 (E c100_e []) := by unfold S100_0; rw [hE c100_e]; kernel_rfl
theorem X100 : XTie S100 x100 := X_of fun D m E hE args h u => by unfold S100; rw [T100_0 hE]; kernel_rfl
/- 101 -/
def x101 : XFn := ⟨[.s, tC], false, [(.tmp p4)], (.sO [.mv p4 (ci 0) tI] (.sO [.mv p5 q0 .s, .mv p6 q1 tC, .cl p7 135 [q5, q6] tI, .mv p4 q7 tI] (.s .ret)))⟩
def S101 : SFn := evFX x101
theorem X101 : XTie S101 x101 := fun _ _ _ _ _ => rfl
/- 102 -/
def x102 : XFn := ⟨[.s, .s], false, [(.tmp p4)], (.sO [.mv p4 (cb false) .b] (.sO [.mv p5 q0 .s, .mv p6 q1 .s, .cl p7 136 [q5, q6] .b, .mv p4 q7 .b] (.s .ret)))⟩
def S102 : SFn := evFX x102
theorem X102 : XTie S102 x102 := fun _ _ _ _ _ => rfl
/- 103 -/
def x103 : XFn := ⟨[.s, .v], false, [(.tmp p4)], (.sO [.mv p4 (ci 0) tI] (.sO [.mv p5 (ci 0) tI] (.sj [p5] (.block 0 (.loop [p0, p1, p5] (.sj [p0, p1, p5] (.opq false (XL.pre [.mv p6 q5 tI, .mv p7 q0 .s, .P p8 (.lens q7) tI, .bn p9 .lss q6 q8 .b, .mv p10 q9 .b, .sp p10, .G p10 true p11 (.mov q1) .v, .G p10 true p12 (.mov q0) .s, .G p10 true p13 (.mov q5) tI, .G p10 true p14 (.idxs q12 q13) tC, .o ⟨(some p15), (.call (.val q11) [q14]), (some (p10, true)), []⟩ .b, .P p16 (.pick q10 q15 (cb false)) .b, .jn p10 [p0, p1, p5, p16]] (XL.of [])) (.cond q16 (.s .skip) (.s (.exit 0)))) (.block 1 (.s (.oX [.mv p17 q5 tI, .bn p18 .add q17 (ci 1) tI, .mv p5 q18 tI])))))) (.sO [.mv p19 q5 tI, .mv p4 q19 tI] (.s .ret)))))⟩
def S103 : SFn := evFX x103
theorem X103 : XTie S103 x103 := fun _ _ _ _ _ => rfl
/- 106 -/
def x106 : XFn := ⟨[tC], false, [(.tmp p2)], (.sO [.mv p2 (cb false) .b] (.sO [.mv p3 q0 tC, .bn p4 .eql q3 (.c (.int .u8 (.ofNat 95))) .b, .mv p5 q4 .b, .ge p5 (XL.of [.G p5 false p6 (.mov q0) tC, .G p5 false p7 (.bin .or q6 (.c (.int .u8 (.ofNat 32)))) tC, .G p5 false p8 (.bin .geq q7 (.c (.int .u8 (.ofNat 97)))) .b, .G p5 false p9 (.mov q8) .b, .ge p9 (XL.of [.G p9 true p10 (.mov q0) tC, .G p9 true p11 (.bin .or q10 (.c (.int .u8 (.ofNat 32)))) tC, .G p9 true p12 (.bin .leq q11 (.c (.int .u8 (.ofNat 122)))) .b, .G p5 false p13 (.pick q9 q12 (cb false)) .b]) p13 .b, .P p14 (.pick q5 (cb true) q13) .b]) p14 .b, .mv p2 q14 .b] (.s .ret)))⟩
def S106 : SFn := evFX x106
theorem X106 : XTie S106 x106 := fun _ _ _ _ _ => rfl
/- 107 -/
def x107 : XFn := ⟨[tC], false, [(.tmp p2)], (.sO [.mv p2 (cb false) .b] (.opq false (XL.pre [.mv p3 q0 tC, .cl p4 106 [q3] .b, .mv p5 q4 .b, .sp p5, .G p5 false p6 (.mov q0) tC, .o ⟨(some p7), (.call (.fn 108) [q6]), (some (p5, false)), []⟩ .b, .P p8 (.pick q5 (cb true) q7) .b, .jn p5 [p8]] (XL.of [.mv p2 q8 .b])) (.s .ret)))⟩
def S107 : SFn := evFX x107
theorem X107 : XTie S107 x107 := fun _ _ _ _ _ => rfl
/- 108 -/
def x108 : XFn := ⟨[tC], false, [(.tmp p2)], (.sO [.mv p2 (cb false) .b] (.sO [.mv p3 q0 tC, .bn p4 .geq q3 (.c (.int .u8 (.ofNat 48))) .b, .mv p5 q4 .b, .ge p5 (XL.of [.G p5 true p6 (.mov q0) tC, .G p5 true p7 (.bin .leq q6 (.c (.int .u8 (.ofNat 57)))) .b, .P p8 (.pick q5 q7 (cb false)) .b]) p8 .b, .mv p2 q8 .b] (.s .ret)))⟩
def S108 : SFn := evFX x108
theorem X108 : XTie S108 x108 := fun _ _ _ _ _ => rfl
/- 109 -/
def x109 : XFn := ⟨[.s], false, [(.tmp p2)], (.sO [.mv p2 (cb false) .b] (.sj [] (.sO [.mv p3 q0 .s] (.block 0 (.sj [p4] (.sO [.bn p5 .eql q3 (.c (.str [105, 110, 116])) .b, .mv p4 q5 .b] (.cond q4 (.s .skip) (.sO [.bn p6 .eql q3 (.c (.str [100, 111, 117, 98, 108, 101])) .b, .mv p4 q6 .b] (.cond q4 (.s .skip) (.sO [.bn p7 .eql q3 (.c (.str [118, 111, 105, 100])) .b, .mv p4 q7 .b] (.cond q4 (.s .skip) (.sO [.bn p8 .eql q3 (.c (.str [115, 116, 97, 116, 105, 99])) .b, .mv p4 q8 .b] (.cond q4 (.s .skip) (.sO [.bn p9 .eql q3 (.c (.str [101, 120, 116, 101, 114, 110])) .b, .mv p4 q9 .b] (.cond q4 (.s .skip) (.sO [.bn p10 .eql q3 (.c (.str [105, 102])) .b, .mv p4 q10 .b] (.cond q4 (.s .skip) (.sO [.bn p11 .eql q3 (.c (.str [101, 108, 115, 101])) .b, .mv p4 q11 .b] (.cond q4 (.s .skip) (.sO [.bn p12 .eql q3 (.c (.str [119, 104, 105, 108, 101])) .b, .mv p4 q12 .b] (.cond q4 (.s .skip) (.sO [.bn p13 .eql q3 (.c (.str [114, 101, 116, 117, 114, 110])) .b, .mv p4 q13 .b] (.cond q4 (.s .skip) (.sO [.bn p14 .eql q3 (.c (.str [98, 114, 101, 97, 107])) .b, .mv p4 q14 .b] (.cond q4 (.s .skip) (.s (.oX [.bn p15 .eql q3 (.c (.str [99, 111, 110, 116, 105, 110, 117, 101])) .b, .mv p4 q15 .b])))))))))))))))))))))) (.cond q4 (.sO [.mv p2 (cb true) .b] (.s .ret)) (.s .skip))))) (.sO [.mv p2 (cb false) .b] (.s .ret))))⟩
def S109 : SFn := evFX x109
theorem X109 : XTie S109 x109 := fun _ _ _ _ _ => rfl
/- 110 -/
def x110 : XFn := ⟨[.s], false, [(.tmp p2), (.tmp p3)], (.sO [.mv p2 (ci 0) tI, .mv p3 (ci 0) tI] (.sO [.mv p10 q0 .s, .cl p11 103 [q10, (.c (.fn 108 [] []))] tI, .mv p4 q11 tI] (.sO [.mv p5 (ci 2) tI] (.sj [p0, p4, p5] (.sO [.mv p12 q4 tI, .mv p13 q0 .s, .P p14 (.lens q13) tI, .bn p15 .lss q12 q14 .b, .mv p16 q15 .b, .ge p16 (XL.of [.G p16 true p17 (.mov q0) .s, .G p16 true p18 (.mov q4) tI, .G p16 true p19 (.idxs q17 q18) tC, .G p16 true p20 (.bin .eql q19 (.c (.int .u8 (.ofNat 46)))) .b, .P p21 (.pick q16 q20 (cb false)) .b]) p21 .b] (.cond q21 (.sO [.mv p5 (ci 3) tI] (.sO [.mv p22 q4 tI, .mv p23 q0 .s, .mv p24 q4 tI, .bn p25 .add q24 (ci 1) tI, .P p26 (.slice .str q23 (some q25) none none) .s, .cl p27 103 [q26, (.c (.fn 108 [] []))] tI, .bn p28 .add (ci 1) q27 tI, .bn p29 .add q22 q28 tI, .mv p4 q29 tI] (.sO [.mv p30 q4 tI, .mv p31 q0 .s, .P p32 (.lens q31) tI, .bn p33 .lss q30 q32 .b, .mv p34 q33 .b, .ge p34 (XL.of [.G p34 true p35 (.mov q0) .s, .G p34 true p36 (.mov q4) tI, .G p34 true p37 (.idxs q35 q36) tC, .G p34 true p38 (.bin .eql q37 (.c (.int .u8 (.ofNat 101)))) .b, .P p39 (.pick q34 q38 (cb false)) .b]) p39 .b] (.cond q39 (.sO [.mv p40 q4 tI, .bn p41 .add q40 (ci 1) tI, .mv p4 q41 tI] (.sj [p0, p4, p5] (.sO [.mv p42 q4 tI, .mv p43 q0 .s, .P p44 (.lens q43) tI, .bn p45 .lss q42 q44 .b, .mv p46 q45 .b, .ge p46 (XL.of [.G p46 true p47 (.mov q0) .s, .G p46 true p48 (.mov q4) tI, .G p46 true p49 (.idxs q47 q48) tC, .G p46 true p50 (.bin .eql q49 (.c (.int .u8 (.ofNat 43)))) .b, .G p46 true p51 (.mov q50) .b, .ge p51 (XL.of [.G p51 false p52 (.mov q0) .s, .G p51 false p53 (.mov q4) tI, .G p51 false p54 (.idxs q52 q53) tC, .G p51 false p55 (.bin .eql q54 (.c (.int .u8 (.ofNat 45)))) .b, .G p46 true p56 (.pick q51 (cb true) q55) .b]) p56 .b, .P p57 (.pick q46 q56 (cb false)) .b]) p57 .b] (.cond q57 (.s (.oX [.mv p58 q4 tI, .bn p59 .add q58 (ci 1) tI, .mv p4 q59 tI])) (.s .skip))) (.s (.oX [.mv p60 q4 tI, .mv p61 q0 .s, .mv p62 q4 tI, .P p63 (.slice .str q61 (some q62) none none) .s, .cl p64 103 [q63, (.c (.fn 108 [] []))] tI, .bn p65 .add q60 q64 tI, .mv p4 q65 tI])))) (.s .skip))))) (.s .skip))) (.sj [p0, p4, p5] (.opq false (XL.pre [.mv p66 q4 tI, .mv p67 q0 .s, .P p68 (.lens q67) tI, .bn p69 .lss q66 q68 .b, .mv p70 q69 .b, .sp p70, .G p70 true p71 (.mov q0) .s, .G p70 true p72 (.mov q4) tI, .G p70 true p73 (.idxs q71 q72) tC, .o ⟨(some p74), (.call (.fn 106) [q73]), (some (p70, true)), []⟩ .b, .G p70 true p75 (.mov q74) .b, .ge p75 (XL.of [.G p75 false p76 (.mov q0) .s, .G p75 false p77 (.mov q4) tI, .G p75 false p78 (.idxs q76 q77) tC, .G p75 false p79 (.bin .eql q78 (.c (.int .u8 (.ofNat 46)))) .b, .G p70 true p80 (.pick q75 (cb true) q79) .b]) p80 .b, .P p81 (.pick q70 q80 (cb false)) .b, .jn p70 [p0, p4, p5, p81]] (XL.of [])) (.cond q81 (.sO [.mv p2 (ci 0) tI, .mv p3 (ci 0) tI] (.s .ret)) (.s .skip))) (.seq (.seq (.oX [.mv p82 q5 tI, .bn p83 .eql q82 (ci 3) .b]) (.cond q83 (.seq (.seq (.oX [.mv p85 q0 .s, .mv p86 q4 tI, .P p87 (.slice .str q85 none (some q86) none) .s, .cl p88 138 [q87] .v, .mv p84 q88 .v, .P p89 (.ext q84 0) (.i .u64), .P p90 (.ext q84 1) tI, .mv p6 q89 (.i .u64), .mv p7 q90 tI]) (.seq (.oX [.mv p91 q7 tI, .bn p92 .neq q91 (ci 0) .b]) (.cond q92 (.seq (.oX [.mv p2 (ci 0) tI, .mv p3 (ci 0) tI]) .ret) .skip))) (.seq (.oX [.mv p93 q5 tI, .mv p94 q4 tI, .mv p2 q93 tI, .mv p3 q94 tI]) .ret)) .skip)) (.seq (.seq (.oX [.mv p96 q0 .s, .mv p97 q4 tI, .P p98 (.slice .str q96 none (some q97) none) .s, .cl p99 139 [q98, (ci 10), (ci 32)] .v, .mv p95 q99 .v, .P p100 (.ext q95 0) (.i .u64), .P p101 (.ext q95 1) .v, .mv p8 q100 (.i .u64), .mv p9 q101 .v]) (.seq (.oX [.mv p102 q9 .v, .P p103 (.eqn .ifc true q102 (.c .nili)) .b, .mv p104 q103 .b, .ge p104 (XL.of [.G p104 false p105 (.mov q4) tI, .G p104 false p106 (.bin .gtr q105 (ci 10)) .b, .P p107 (.pick q104 (cb true) q106) .b]) p107 .b]) (.cond q107 (.seq (.oX [.mv p2 (ci 0) tI, .mv p3 (ci 0) tI]) .ret) .skip))) (.sO [.mv p108 q5 tI, .mv p109 q4 tI, .mv p2 q108 tI, .mv p3 q109 tI] (.s .ret)))))))))⟩
def S110 : SFn := evFX x110
theorem X110 : XTie S110 x110 := fun _ _ _ _ _ => rfl
/- 111 -/
def x111 : XFn := ⟨[.s, .s], false, [(.tmp p4)], (.sO [.mv p4 (cb false) .b] (.sO [.mv p5 q0 .s, .mv p6 q1 .s, .cl p7 105 [q5, q6] tI, .bn p8 .geq q7 (ci 0) .b, .mv p4 q8 .b] (.s .ret)))⟩
def S111 : SFn := evFX x111
theorem X111 : XTie S111 x111 := fun _ _ _ _ _ => rfl
/- 114 -/
def x114 : XFn := ⟨[.s], false, [(.tmp p2), (.tmp p3)], (.sO [.mv p2 (ci 0) tI, .mv p3 (.c .nili) .v] (.sO [.mv p7 q0 .s, .cl p8 143 [q7] .v, .mv p6 q8 .v, .P p9 (.ext q6 0) tI, .P p10 (.ext q6 1) .v, .mv p4 q9 tI, .mv p5 q10 .v] (.seq (.seq (.oX [.mv p11 q5 .v, .P p12 (.eqn .ifc true q11 (.c .nili)) .b]) (.cond q12 (.seq (.oX [.mv p13 q4 tI, .mv p14 q0 .s, .mv p15 q5 .v, .cl p16 144 [(.c (.str [65, 116, 111, 105])), q14, (ci 0), (ci 0), q15] .v, .mv p2 q13 tI, .mv p3 q16 .v]) .ret) .skip)) (.sO [.mv p17 q4 tI, .mv p2 q17 tI, .mv p3 (.c .nili) .v] (.s .ret)))))⟩
def S114 : SFn := evFX x114
theorem X114 : XTie S114 x114 := fun _ _ _ _ _ => rfl
/- 115 -/
def x115 : XFn := ⟨[.v], false, [], (.sj [p0] (.sO [.mv p2 q0 .v, .P p3 (.nilck q2) .v, .fa p4 2 q3, .ld p5 q4 tI, .bn p6 .eql q5 (ci 40) .b] (.cond q6 (.s (.oX [.mv p7 q0 .v, .cl p8 112 [q7, (ci 12)] .v])) (.s .skip))) (.s (.oX [.mv p9 q0 .v, .P p10 (.nilck q9) .v, .fa p11 2 q10, .ld p12 q11 tI, .bn p13 .add q12 (ci 1) tI, .P p14 (.nilck q9) .v, .fa p15 2 q14, .st q15 q13])))⟩
def S115 : SFn := evFX x115
theorem X115 : XTie S115 x115 := fun _ _ _ _ _ => rfl
/- 116 -/
def x116 : XFn := ⟨[.v], true, [], (.s (.oX [.ld p1 q0 .v, .P p2 (.nilck q1) .v, .fa p3 2 q2, .ld p4 q3 tI, .bn p5 .sub q4 (ci 1) tI, .P p6 (.nilck q1) .v, .fa p7 2 q6, .st q7 q5]))⟩
def S116 : SFn := evFX x116
theorem X116 : XTie S116 x116 := fun _ _ _ _ _ => rfl
/- 117 -/
def x117 : XFn := ⟨[.v, tI], false, [(.cells 8 p4)], (.sO [.al p4 (.new Ze)] (.sO [.cl p8 145 [] .v, .mv p5 q8 .v] (.seq (.seq (.oX [.mv p9 q1 tI, .mv p10 q5 .v, .P p11 (.lenl q10) tI, .bn p12 .eql q9 q11 .b]) (.cond q12 (.seq (.oX [.mv p13 q0 .v, .cl p14 146 [q13] .v, .ss 8 q4 q14]) .ret) .skip)) (.sO [.mv p15 q0 .v, .mv p16 q1 tI, .bn p17 .add q16 (ci 1) tI, .cl p18 117 [q15, q17] .v, .al p6 (.new Ze), .ss 8 q6 q18] (.sj [p4, p6] (.block 0 (.loop [p0, p1, p4, p5, p6] (.seq (.seq (.oX [.mv p19 q0 .v, .mv p20 q5 .v, .mv p21 q1 tI, .P p22 (.iaddr (.sl 1) q20 q21) .v, .ld p23 q22 .v, .cl p24 75 [q19, q23] .b]) (.cond q24 .skip (.exit 0))) (.block 1 (.sO [.mv p25 q0 .v, .cl p26 50 [q25] .v, .P p27 (.field 1 1 false q26) .s, .mv p7 q27 .s] (.sO [.mv p28 q0 .v, .P p29 (.nilck q28) .v, .fa p30 1 q29, .ld p31 q30 tI, .bn p32 .add q31 (ci 1) tI, .P p33 (.nilck q28) .v, .fa p34 1 q33, .st q34 q32] (.s (.ops true (XL.of [.mv p35 q7 .s, .L p36 (.cells 8 q6) .v, .mv p37 q0 .v, .mv p38 q1 tI, .bn p39 .add q38 (ci 1) tI, .fa p42 7 q6, .ld p43 q42 tI, .o ⟨(some p40), (.call (.fn 117) [q37, q39]), none, [⟨none, .cells 8 q6, p36⟩, ⟨none, .cell q42, p43⟩]⟩ .v, .al p41 (.bsl [(kI 0), (.str []), (.str []), Z32, Z64, .nils, (kI 0), (kI 0), (kI 0), (.str []), (.str []), Z32, Z64, .nils, (kI 0), (kI 0)] 2 [⟨0, 8, q36⟩, ⟨8, 8, q40⟩]), .P p44 (.build Ze [⟨0, 1, (ci 5)⟩, ⟨1, 1, q35⟩, ⟨5, 1, q41⟩, ⟨7, 1, q43⟩]) .v, .ss 8 q6 q44]))))))))) (.sO [.L p45 (.cells 8 q6) .v, .ss 8 q4 q45] (.s .ret)))))))⟩
def S117 : SFn := evFX x117
theorem X117 : XTie S117 x117 := fun _ _ _ _ _ => rfl
/- 121 -/
def x121 : XFn := ⟨[.v, .v], false, [(.cells 8 p4)], (.sO [.al p3 (.box q1), .al p4 (.new Ze)] (.sO [.fa p10 5 q3, .ld p11 q10 .v, .cl p12 85 [q11] .v, .fa p13 5 q3, .st q13 q12] (.sj [p0, p3, p4] (.sO [.fa p14 5 q3, .ld p15 q14 .v, .P p16 (.lenl q15) tI, .mv p17 (ci 0) tI] (.block 0 (.loop [p0, p3, p4, p16, p17] (.sO [.bn p18 .lss q17 q16 .b] (.seq (.cond q18 .skip (.exit 0)) (.seq (.block 1 (.seq (.oX [.mv p19 q17 tI, .mv p5 q19 tI]) (.ops true (XL.of [.fa p20 5 q3, .ld p21 q20 .v, .mv p22 q5 tI, .mv p23 q0 .v, .fa p24 5 q3, .ld p25 q24 .v, .mv p26 q5 tI, .P p27 (.iaddr (.sl 8) q25 q26) .v, .L p28 (.cells 8 q27) .v, .o ⟨(some p29), (.call (.fn 121) [q23, q28]), none, [⟨none, .cell q20, p21⟩]⟩ .v, .P p30 (.iaddr (.sl 8) q21 q22) .v, .ss 8 q30 q29])))) (.s (.oX [.bn p31 .add q17 (ci 1) tI, .mv p17 q31 tI])))))))) (.sO [.fa p32 5 q3, .ld p33 q32 .v, .mv p6 q33 .v] (.sj [p3, p4] (.sO [.fa p34 0 q3, .ld p35 q34 tI] (.block 2 (.sO [.bn p37 .eql q35 (ci 1) .b, .mv p36 q37 .b] (.cond q36 (.s (.oX [.fa p38 6 q3, .st q38 (ci 1)])) (.sO [.bn p40 .eql q35 (ci 2) .b, .mv p39 q40 .b] (.cond q39 (.s (.oX [.fa p41 6 q3, .st q41 (ci 2)])) (.sO [.bn p43 .eql q35 (ci 3) .b, .mv p42 q43 .b] (.cond q42 (.sO [.mv p45 q0 .v, .fa p46 2 q3, .ld p47 q46 .s, .cl p48 148 [q45, q47] .v, .mv p44 q48 .v, .P p49 (.ext q44 0) .v, .P p50 (.ext q44 1) .b, .al p7 (.new Zs), .ss 18 q7 q49, .mv p8 q50 .b] (.sO [.mv p51 q8 .b, .mv p52 q51 .b, .ge p52 (XL.of [.G p52 true p53 (.faddr 0 q7) .v, .G p52 true p54 (.faddr 0 q53) .v, .o ⟨(some p55), (.l (.cell q54)), (some (p52, true)), []⟩ .b, .G p52 true p56 (.un .not q55) .b, .P p57 (.pick q52 q56 (cb false)) .b]) p57 .b, .fa p58 7 q3, .ld p59 q58 tI, .cl p60 55 [q57, (ci 13), q59] .v] (.seq (.ops true (XL.of [.fa p61 17 q7, .ld p62 q61 .s, .fa p63 0 q7, .fa p64 4 q63, .ld p65 q64 tI, .fa p66 2 q3, .o ⟨none, (.e (.store q66 q62)), none, [⟨none, .cell q64, p65⟩]⟩ .v, .fa p67 6 q3, .st q67 q65])) (.sO [.fa p68 0 q7, .fa p69 5 q68, .ld p70 q69 tI, .bn p71 .gtr q70 (ci 0) .b] (.cond q71 (.s (.oX [.fa p72 0 q7, .fa p73 4 q72, .ld p74 q73 tI, .cl p75 149 [q74] tI, .fa p76 6 q3, .st q76 q75, .fa p77 3 q3, .st q77 (.c (.int .u32 (.ofNat 1)))])) (.s .skip)))))) (.sO [.bn p79 .eql q35 (ci 4) .b, .mv p78 q79 .b] (.cond q78 (.s (.ops true (XL.of [.fa p80 1 q3, .ld p81 q80 .s, .mv p82 q6 .v, .P p83 (.iaddr (.sl 8) q82 (ci 0)) .v, .L p84 (.cells 8 q83) .v, .cl p85 150 [q81, q84] tI, .fa p86 6 q3, .st q86 q85]))) (.sO [.bn p88 .eql q35 (ci 5) .b, .mv p87 q88 .b] (.cond q87 (.s (.oX [.mv p89 q0 .v, .fa p90 1 q3, .ld p91 q90 .s, .mv p92 q6 .v, .cl p93 151 [q89, q91, q92] tI, .fa p94 6 q3, .st q94 q93])) (.sO [.bn p96 .eql q35 (ci 6) .b, .mv p95 q96 .b] (.cond q95 (.sO [.mv p97 q6 .v, .P p98 (.iaddr (.sl 8) q97 (ci 0)) .v, .L p99 (.cells 8 q98) .v, .cl p100 152 [q99] .b, .mv p9 q100 .b] (.seq (.ops true (XL.of [.mv p102 q6 .v, .mv p103 q9 .b, .mv p104 q6 .v, .P p105 (.iaddr (.sl 8) q104 (ci 1)) .v, .L p106 (.cells 8 q105) .v, .mv p107 q6 .v, .P p108 (.iaddr (.sl 8) q107 (ci 0)) .v, .fa p109 6 q108, .ld p110 q109 tI, .cl p111 153 [q103, q106, q110] .v, .mv p101 q111 .v, .P p112 (.ext q101 0) .v, .P p113 (.ext q101 1) .b, .P p114 (.iaddr (.sl 8) q102 (ci 1)) .v, .ss 8 q114 q112, .mv p9 q113 .b])) (.sO [.mv p115 q9 .b] (.cond q115 (.s (.oX [.mv p116 q6 .v, .P p117 (.iaddr (.sl 8) q116 (ci 0)) .v, .fa p118 6 q117, .ld p119 q118 tI, .fa p120 6 q3, .st q120 q119])) (.s .skip))))) (.sO [.bn p122 .eql q35 (ci 8) .b, .mv p121 q122 .b] (.cond q121 (.sO [.mv p123 q6 .v, .P p124 (.iaddr (.sl 8) q123 (ci 1)) .v, .fa p125 6 q124, .ld p126 q125 tI, .bn p127 .eql q126 (ci 1) .b] (.cond q127 (.s (.oX [.mv p128 q6 .v, .P p129 (.iaddr (.sl 8) q128 (ci 0)) .v, .fa p130 6 q129, .ld p131 q130 tI, .cl p132 154 [q131] tI, .fa p133 6 q3, .st q133 q132])) (.s .skip))) (.sO [.bn p135 .eql q35 (ci 9) .b, .mv p134 q135 .b] (.cond q134 (.opq false (XL.pre [.mv p136 q6 .v, .P p137 (.iaddr (.sl 8) q136 (ci 0)) .v, .fa p138 6 q137, .ld p139 q138 tI, .cl p140 82 [q139] .b, .mv p141 q140 .b, .sp p141, .G p141 true p142 (.faddr 3 q3) .v, .o ⟨(some p143), (.l (.cell q142)), (some (p141, true)), []⟩ tW, .G p141 true p144 (.conv (.ii .i64) q143) tI, .o ⟨(some p145), (.call (.fn 82) [q144]), (some (p141, true)), []⟩ .b, .P p146 (.pick q141 q145 (cb false)) .b, .jn p141 [p3, p4, p146]] (XL.of [])) (.cond q146 (.s (.oX [.fa p147 3 q3, .ld p148 q147 tW, .P p149 (.conv (.ii .i64) q148) tI, .fa p150 6 q3, .st q150 q149])) (.s .skip))) (.sO [.bn p152 .eql q35 (ci 7) .b, .mv p151 q152 .b] (.cond q151 (.sO [.mv p153 q0 .v, .L p154 (.cells 8 q3) .v, .cl p155 155 [q153, q154] .v, .ss 8 q4 q155] (.s .ret)) (.s .skip))))))))))))))))))))) (.sO [.fa p156 6 q3, .ld p157 q156 tI, .bn p158 .neq q157 (ci 0) .b, .fa p159 7 q3, .ld p160 q159 tI, .cl p161 55 [q158, (ci 14), q160] .v] (.sO [.L p162 (.cells 8 q3) .v, .ss 8 q4 q162] (.s .ret))))))))⟩
def S121 : SFn := evFX x121
theorem X121 : XTie S121 x121 := fun _ _ _ _ _ => rfl
/- 122 -/
def x122 : XFn := ⟨[.v, tI], false, [(.cells 8 p4), (.tmp p5)], (.sO [.al p2 (.box q0), .al p4 (.new Ze), .mv p5 (cb false) .b] (.sj [p1, p2, p4] (.sO [.mv p6 q1 tI, .cl p7 154 [q6] tI, .bn p8 .neq q7 (ci 0) .b, .mv p9 q8 .b, .ge p9 (XL.of [.G p9 true p10 (.faddr 0 q2) .v, .o ⟨(some p11), (.l (.cell q10)), (some (p9, true)), []⟩ tI, .G p9 true p12 (.bin .eql q11 (ci 1)) .b, .P p13 (.pick q9 q12 (cb false)) .b]) p13 .b, .mv p14 q13 .b, .ge p14 (XL.of [.G p14 true p15 (.faddr 3 q2) .v, .o ⟨(some p16), (.l (.cell q15)), (some (p14, true)), []⟩ tW, .G p14 true p17 (.bin .eql q16 (.c Z32)) .b, .P p18 (.pick q14 q17 (cb false)) .b]) p18 .b] (.cond q18 (.s (.oX [.mv p19 q1 tI, .fa p20 6 q2, .st q20 q19])) (.s .skip))) (.sO [.L p21 (.cells 8 q2) .v, .fa p22 6 q2, .ld p23 q22 tI, .mv p24 q1 tI, .bn p25 .eql q23 q24 .b, .mv p26 q25 .b, .ge p26 (XL.of [.G p26 true p27 (.mov q1) tI, .G p26 true p28 (.bin .neq q27 (ci 0)) .b, .P p29 (.pick q26 q28 (cb false)) .b]) p29 .b, .ss 8 q4 q21, .mv p5 q29 .b] (.s .ret))))⟩
def S122 : SFn := evFX x122
theorem X122 : XTie S122 x122 := fun _ _ _ _ _ => rfl
/- 125 -/
def x125 : XFn := ⟨[.v, .v], false, [(.tmp p3)], (.sO [.al p2 (.box q0), .mv p3 (cb false) .b] (.sO [.fa p4 3 q2, .ld p5 q4 .s, .ld p6 q1 .s, .bn p7 .eql q5 q6 .b, .mv p8 q7 .b, .ge p8 (XL.of [.G p8 true p9 (.faddr 0 q2) .v, .o ⟨(some p10), (.l (.cell q9)), (some (p8, true)), []⟩ .b, .G p8 true p11 (.un .not q10) .b, .P p12 (.pick q8 q11 (cb false)) .b]) p12 .b, .mv p3 q12 .b] (.s .ret)))⟩
def S125 : SFn := evFX x125
theorem X125 : XTie S125 x125 := fun _ _ _ _ _ => rfl
/- 128 -/
def v128_2 : List Pos := [p5]
def c128_2 : XC := (.sO [.mv p47 q5 .v, .mv p4 q47 .v] (.s .ret))
def v128_3 : List Pos := [p5, p9, p35, p36]
def c128_3b : XC := (.sO [.bn p37 .lss q36 q35 .b] (.seq (.cond q37 .skip (.exit 4)) (.seq (.block 5 (.seq (.oX [.mv p38 q36 tI, .mv p10 q38 tI]) (.oX [.mv p39 q5 .v, .mv p40 q9 .v, .mv p41 q10 tI, .P p42 (.iaddr (.sl 1) q40 q41) .v, .ld p43 q42 tI, .al p44 (.bsl [(kI 0)] 1 [⟨0, 1, q43⟩]), .o ⟨(some p45), (.e (.app 1 8 q39 q44)), none, []⟩ .v, .mv p5 q45 .v]))) (.s (.oX [.bn p46 .add q36 (ci 1) tI, .mv p36 q46 tI])))))
def v128_1 : List Pos := [p0, p5, p7]
def c128_1 : XC := (.sO [.mv p31 q0 .v, .mv p32 q7 tI, .cl p33 134 [q31, q32] .v, .mv p9 q33 .v] (.sj v128_2 (.sO [.mv p34 q9 .v, .P p35 (.lenl q34) tI, .mv p36 (ci 0) tI] (.block 4 (.loop v128_3 c128_3b))) c128_2))
def v128_4 : List Pos := [p0, p1, p5, p7, p8]
def c128_4b : XC := (.seq (.seq (.oX [.mv p23 q8 tI, .mv p24 q1 tI, .bn p25 .rem q24 (ci 16) tI, .bn p26 .lss q23 q25 .b]) (.cond q26 .skip (.exit 2))) (.seq (.block 3 (.oX [.mv p29 q7 tI, .bn p30 .mul q29 (ci 2) tI, .mv p7 q30 tI])) (.s (.oX [.mv p27 q8 tI, .bn p28 .add q27 (ci 1) tI, .mv p8 q28 tI]))))
def v128_0 : List Pos := [p0, p1, p5]
def c128_0 : XC := (.sO [.mv p7 (ci 1) tI] (.sj v128_1 (.sO [.mv p8 (ci 0) tI] (.block 2 (.loop v128_4 c128_4b))) c128_1))
def v128_5 : List Pos := [p0, p1, p5, p6]
def c128_5b : XC := (.seq (.seq (.oX [.mv p14 q6 tI, .mv p15 q1 tI, .bn p16 .quo q15 (ci 16) tI, .bn p17 .lss q14 q16 .b]) (.cond q17 .skip (.exit 0))) (.seq (.block 1 (.oX [.mv p20 q5 .v, .al p21 (.bsl [(kI 0)] 1 [⟨0, 1, (ci 0)⟩]), .o ⟨(some p22), (.e (.app 1 8 q20 q21)), none, []⟩ .v, .mv p5 q22 .v])) (.s (.oX [.mv p18 q6 tI, .bn p19 .add q18 (ci 1) tI, .mv p6 q19 tI]))))
def c128_e : XC := (.sO [.mv p4 (.c .nils) .v] (.seq (.seq (.oX [.mv p11 q0 .v, .P p12 (.lenl q11) tI, .bn p13 .eql q12 (ci 0) .b]) (.cond q13 (.seq (.oX [.mv p4 (.c .nils) .v]) .ret) .skip)) (.sO [.mv p5 (.c .nils) .v] (.sj v128_0 (.sO [.mv p6 (ci 0) tI] (.block 0 (.loop v128_5 c128_5b))) c128_0))))
def x128 : XFn := ⟨[.v, tI], false, [(.tmp p4)], c128_e⟩
def e128_2 (k t5 h) := kN k [(p5, t5)] h
def S128_2 (D : CallD) (m : Nat) (t5 : AV) (h : HP) : Res2 :=
 some (.ret t5 h, .no)
def e128_3 (k t5 t9 t35 t36 h) := kN k [(p5, t5), (p9, t9), (p35, (vI t35)), (p36, (vI t36))] h
def S128_3b (D : CallD) (m : Nat) (g3 : AV → AV → Int → Int → HP → Res2) (t5 t9 : AV) (t35 t36 : Int) (h : HP) : Res2 :=
 let t37 := ltQ t36 t35
 br t37 (
 iasC 1 t9 (vI t36) fun t42 =>
 ldI t42 h fun t43 =>
 let t44 := AV.slice (HP.nxQ h) 0 1 (.exact 1)
 let h8 := HP.newQ h (.cells true [(vI t43)])
 eff (.app 1 8 (.c t5) (.c t44)) h8 fun t45 h9 =>
 let t46 := wrQ .i64 (addQ t36 (Int.ofNat 1))
 g3 t45 t9 t35 t46 h9) (
 S128_2 D m t5 h)
def S128_3 (D : CallD) (m : Nat) : AV → AV → Int → Int → HP → Res2 := nrec (fun _ _ _ _ _ => none) (fun _ g => S128_3b D m g) m
def e128_1 (k t0 t5 t7 h) := kN k [(p0, t0), (p5, t5), (p7, (vI t7))] h
def S128_1 (D : CallD) (m : Nat) (t0 t5 : AV) (t7 : Int) (h : HP) : Res2 :=
 cal D 134 [t0, (vI t7)] h fun t33 h7 =>
 lenC t33 fun vt35 => asI .i64 vt35 fun t35 =>
 S128_3 D m t5 t33 t35 (Int.ofNat 0) h7
def e128_4 (k t0 t1 t5 t7 t8 h) := kN k [(p0, t0), (p1, (vI t1)), (p5, t5), (p7, (vI t7)), (p8, (vI t8))] h
def S128_4b (D : CallD) (m : Nat) (g4 : AV → Int → AV → Int → Int → HP → Res2) (t0 : AV) (t1 : Int) (t5 : AV) (t7 t8 : Int) (h : HP) : Res2 :=
 let t25 := Int.tmod t1 (Int.ofNat 16)
 let t26 := ltQ t8 t25
 br t26 (
 let t30 := wrQ .i64 (t7 * (Int.ofNat 2))
 let t28 := wrQ .i64 (addQ t8 (Int.ofNat 1))
 g4 t0 t1 t5 t30 t28 h) (
 S128_1 D m t0 t5 t7 h)
def S128_4 (D : CallD) (m : Nat) : AV → Int → AV → Int → Int → HP → Res2 := nrec (fun _ _ _ _ _ _ => none) (fun _ g => S128_4b D m g) m
def e128_0 (k t0 t1 t5 h) := kN k [(p0, t0), (p1, (vI t1)), (p5, t5)] h
def S128_0 (D : CallD) (m : Nat) (t0 : AV) (t1 : Int) (t5 : AV) (h : HP) : Res2 :=
 S128_4 D m t0 t1 t5 (Int.ofNat 1) (Int.ofNat 0) h
def e128_5 (k t0 t1 t5 t6 h) := kN k [(p0, t0), (p1, (vI t1)), (p5, t5), (p6, (vI t6))] h
def S128_5b (D : CallD) (m : Nat) (g5 : AV → Int → AV → Int → HP → Res2) (t0 : AV) (t1 : Int) (t5 : AV) (t6 : Int) (h : HP) : Res2 :=
 let t16 := wrapF .i64 (Int.tdiv t1 (Int.ofNat 16))
 let t17 := ltQ t6 t16
 br t17 (
 let t21 := AV.slice (HP.nxQ h) 0 1 (.exact 1)
 let h10 := HP.newQ h (.cells true [(vI (Int.ofNat 0))])
 eff (.app 1 8 (.c t5) (.c t21)) h10 fun t22 h11 =>
 let t19 := wrQ .i64 (addQ t6 (Int.ofNat 1))
 g5 t0 t1 t22 t19 h11) (
 S128_0 D m t0 t1 t5 h)
def S128_5 (D : CallD) (m : Nat) : AV → Int → AV → Int → HP → Res2 := nrec (fun _ _ _ _ _ => none) (fun _ g => S128_5b D m g) m
def e128_6 (k t0 t1 h) := kN k [(p0, t0), (p1, (vI t1))] h
def S128_6 (D : CallD) (m : Nat) (t0 : AV) (t1 : Int) (h : HP) : Res2 :=
 lenC t0 fun vt12 => asI .i64 vt12 fun t12 =>
 let t13 := eqQ t12 (Int.ofNat 0)
 br t13 (
 some (.ret (.nils : AV) h, .no)) (
 S128_5 D m t0 t1 (.nils : AV) (Int.ofNat 0) h)
def S128 : SFn := fun D m args h u => nou u <| popV args fun t0 args => popI .i64 args fun t1 args => endA args (S128_6 D m t0 t1 h)
theorem T128_2 (hE : FX x128 D m E) : S128_2 D m = e128_2 (E c128_2 []) := by unfold S128_2; rw [hE c128_2]; kernel_rfl
theorem T128_3b (hE : FX x128 D m E) (G3) : S128_3b D m (e128_3 G3) = e128_3 (E c128_3b [.lp v128_3 G3, .blk 4, .sj v128_2 c128_2]) := by unfold S128_3b; rw [T128_2 hE, hE c128_3b]; kernel_rfl
theorem T128_3 (hE : FX x128 D m E) : S128_3 D m = e128_3 (nrec (fun _ => none) (fun _ G3 st => E c128_3b [.lp v128_3 G3, .blk 4, .sj v128_2 c128_2] st) m) :=
  nrec_emb e128_3 (fun _ _ _ _ _ => none) (fun g => S128_3b D m g) (fun G3 st => E c128_3b [.lp v128_3 G3, .blk 4, .sj v128_2 c128_2] st) rfl (fun g => T128_3b hE g) m
theorem T128_1 (hE : FX x128 D m E) : S128_1 D m = e128_1 (E c128_1 []) := by unfold S128_1; rw [T128_3 hE, hE c128_1]; kernel_rfl
theorem T128_4b (hE : FX x128 D m E) (G4) : S128_4b D m (e128_4 G4) = e128_4 (E c128_4b [.lp v128_4 G4, .blk 2, .sj v128_1 c128_1]) := by unfold S128_4b; rw [T128_1 hE, hE c128_4b]; kernel_rfl
theorem T128_4 (hE : FX x128 D m E) : S128_4 D m = e128_4 (nrec (fun _ => none) (fun _ G4 st => E c128_4b [.lp v128_4 G4, .blk 2, .sj v128_1 c128_1] st) m) :=
  nrec_emb e128_4 (fun _ _ _ _ _ _ => none) (fun g => S128_4b D m g) (fun G4 st => E c128_4b [.lp v128_4 G4, .blk 2, .sj v128_1 c128_1] st) rfl (fun g => T128_4b hE g) m
theorem T128_0 (hE : FX x128 D m E) : S128_0 D m = e128_0 (E c128_0 []) := by unfold S128_0; rw [T128_4 hE, hE c128_0]; kernel_rfl
theorem T128_5b (hE : FX x128 D m E) (G5) : S128_5b D m (e128_5 G5) = e128_5 (E c128_5b [.lp v128_5 G5, .blk 0, .sj v128_0 c128_0]) := by unfold S128_5b; rw [T128_0 hE, hE c128_5b]; kernel_rfl
theorem T128_5 (hE : FX x128 D m E) : S128_5 D m = e128_5 (nrec (fun _ => none) (fun _ G5 st => E c128_5b [.lp v128_5 G5, .blk 0, .sj v128_0 c128_0] st) m) :=
  nrec_emb e128_5 (fun _ _ _ _ _ => none) (fun g => S128_5b D m g) (fun G5 st => E c128_5b [.lp v128_5 G5, .blk 0, .sj v128_0 c128_0] st) rfl (fun g => T128_5b hE g) m
theorem T128_6 (hE : FX x128 D m E) : S128_6 D m = e128_6 (E c128_e []) := by unfold S128_6; rw [T128_5 hE, hE c128_e]; kernel_rfl
theorem X128 : XTie S128 x128 := X_of fun D m E hE args h u => by unfold S128; rw [T128_6 hE]; kernel_rfl
/- 129 -/
def v129_0 : List Pos := [p5]
def c129_0 : XC := (.sO [.mv p41 q5 .v, .cl p42 161 [q41] .v, .mv p4 q42 .v] (.s .ret))
def v129_1 : List Pos := [p0, p1, p5, p6, p7]
def c129_1b : XC := (.seq (.seq (.oX [.mv p9 q7 tI, .mv p10 q0 .v, .P p11 (.lenl q10) tI, .bn p12 .lss q9 q11 .b, .mv p13 q12 .b, .ge p13 (XL.of [.G p13 false p14 (.mov q7) tI, .G p13 false p15 (.mov q1) .v, .G p13 false p16 (.lenl q15) tI, .G p13 false p17 (.bin .lss q14 q16) .b, .P p18 (.pick q13 (cb true) q17) .b]) p18 .b, .mv p19 q18 .b, .ge p19 (XL.of [.G p19 false p20 (.mov q6) tI, .G p19 false p21 (.bin .gtr q20 (ci 0)) .b, .P p22 (.pick q19 (cb true) q21) .b]) p22 .b]) (.cond q22 .skip (.exit 0))) (.seq (.block 1 (.seq (.oX [.mv p25 q0 .v, .mv p26 q7 tI, .cl p27 160 [q25, q26] tI, .mv p28 q1 .v, .mv p29 q7 tI, .cl p30 160 [q28, q29] tI, .bn p31 .add q27 q30 tI, .mv p32 q6 tI, .bn p33 .add q31 q32 tI, .mv p8 q33 tI]) (.seq (.oX [.mv p34 q5 .v, .mv p35 q8 tI, .bn p36 .rem q35 (ci 65536) tI, .al p37 (.bsl [(kI 0)] 1 [⟨0, 1, q36⟩]), .o ⟨(some p38), (.e (.app 1 8 q34 q37)), none, []⟩ .v, .mv p5 q38 .v]) (.oX [.mv p39 q8 tI, .bn p40 .quo q39 (ci 65536) tI, .mv p6 q40 tI])))) (.s (.oX [.mv p23 q7 tI, .bn p24 .add q23 (ci 1) tI, .mv p7 q24 tI]))))
def c129_e : XC := (.sO [.mv p4 (.c .nils) .v] (.sO [.mv p5 (.c .nils) .v] (.sO [.mv p6 (ci 0) tI] (.sj v129_0 (.sO [.mv p7 (ci 0) tI] (.block 0 (.loop v129_1 c129_1b))) c129_0))))
def x129 : XFn := ⟨[.v, .v], false, [(.tmp p4)], c129_e⟩
def e129_0 (k t5 h) := kN k [(p5, t5)] h
def S129_0 (D : CallD) (m : Nat) (t5 : AV) (h : HP) : Res2 :=
 cal D 161 [t5] h fun t42 h3 =>
 some (.ret t42 h3, .no)
def e129_1 (k t0 t1 t5 t6 t7 h) := kN k [(p0, t0), (p1, t1), (p5, t5), (p6, (vI t6)), (p7, (vI t7))] h
def S129_1b (D : CallD) (m : Nat) (g1 : AV → AV → AV → Int → Int → HP → Res2) (t0 t1 t5 : AV) (t6 t7 : Int) (h : HP) : Res2 :=
 lenC t0 fun vt11 => asI .i64 vt11 fun t11 =>
 let t12 := ltQ t7 t11
 obB (brV t12 (
 some (vB true)) (
 lenCV t1 fun vt16 => asIV .i64 vt16 fun t16 =>
 let t17 := ltQ t7 t16
 some (vB t17))) fun t18 =>
 obB (brV t18 (
 some (vB true)) (
 let t21 := ltQ (Int.ofNat 0) t6
 some (vB t21))) fun t22 =>
 br t22 (
 cal D 160 [t0, (vI t7)] h fun t27 h4 =>
 asI .i64 t27 fun t27a =>
 cal D 160 [t1, (vI t7)] h4 fun t30 h5 =>
 asI .i64 t30 fun t30a =>
 let t31 := wrQ .i64 (addQ t27a t30a)
 let t33 := wrQ .i64 (addQ t31 t6)
 let t36 := Int.tmod t33 (Int.ofNat 65536)
 let t37 := AV.slice (HP.nxQ h5) 0 1 (.exact 1)
 let h6 := HP.newQ h5 (.cells true [(vI t36)])
 eff (.app 1 8 (.c t5) (.c t37)) h6 fun t38 h7 =>
 let t40 := wrapF .i64 (Int.tdiv t33 (Int.ofNat 65536))
 let t24 := wrQ .i64 (addQ t7 (Int.ofNat 1))
 g1 t0 t1 t38 t40 t24 h7) (
 S129_0 D m t5 h)
def S129_1 (D : CallD) (m : Nat) : AV → AV → AV → Int → Int → HP → Res2 := nrec (fun _ _ _ _ _ _ => none) (fun _ g => S129_1b D m g) m
def e129_2 (k t0 t1 h) := kN k [(p0, t0), (p1, t1)] h
def S129_2 (D : CallD) (m : Nat) (t0 t1 : AV) (h : HP) : Res2 :=
 S129_1 D m t0 t1 (.nils : AV) (Int.ofNat 0) (Int.ofNat 0) h
def S129 : SFn := fun D m args h u => nou u <| popV args fun t0 args => popV args fun t1 args => endA args (S129_2 D m t0 t1 h)
theorem T129_0 (hE : FX x129 D m E) : S129_0 D m = e129_0 (E c129_0 []) := by unfold S129_0; rw [hE c129_0]; kernel_rfl
theorem T129_1b (hE : FX x129 D m E) (G1) : S129_1b D m (e129_1 G1) = e129_1 (E c129_1b [.lp v129_1 G1, .blk 0, .sj v129_0 c129_0]) := by unfold S129_1b; rw [T129_0 hE, hE c129_1b]; kernel_rfl
theorem T129_1 (hE : FX x129 D m E) : S129_1 D m = e129_1 (nrec (fun _ => none) (fun _ G1 st => E c129_1b [.lp v129_1 G1, .blk 0, .sj v129_0 c129_0] st) m) :=
  nrec_emb e129_1 (fun _ _ _ _ _ _ => none) (fun g => S129_1b D m g) (fun G1 st => E c129_1b [.lp v129_1 G1, .blk 0, .sj v129_0 c129_0] st) rfl (fun g => T129_1b hE g) m
theorem T129_2 (hE : FX x129 D m E) : S129_2 D m = e129_2 (E c129_e []) := by unfold S129_2; rw [T129_1 hE, hE c129_e]; kernel_rfl
theorem X129 : XTie S129 x129 := X_of fun D m E hE args h u => by unfold S129; rw [T129_2 hE]; kernel_rfl
/- 130 -/
def v130_1 : List Pos := []
def c130_1 : XC := (.sO [.mv p4 (ci 0) tI] (.s .ret))
def v130_2 : List Pos := [p0, p1, p6]
def c130_2b : XC := (.seq (.seq (.oX [.mv p19 q6 tI, .bn p20 .geq q19 (ci 0) .b]) (.cond q20 .skip (.exit 0))) (.seq (.block 1 (.seq (.oX [.mv p23 q0 .v, .mv p24 q6 tI, .cl p25 160 [q23, q24] tI, .mv p26 q1 .v, .mv p27 q6 tI, .cl p28 160 [q26, q27] tI, .mv p7 q25 tI, .mv p8 q28 tI]) (.seq (.seq (.oX [.mv p29 q7 tI, .mv p30 q8 tI, .bn p31 .lss q29 q30 .b]) (.cond q31 (.seq (.oX [.mv p4 (.c (.int .i64 (.negSucc 0))) tI]) .ret) .skip)) (.seq (.oX [.mv p32 q7 tI, .mv p33 q8 tI, .bn p34 .gtr q32 q33 .b]) (.cond q34 (.seq (.oX [.mv p4 (ci 1) tI]) .ret) .skip))))) (.s (.oX [.mv p21 q6 tI, .bn p22 .sub q21 (ci 1) tI, .mv p6 q22 tI]))))
def v130_0 : List Pos := [p0, p1, p5]
def c130_0 : XC := (.sj v130_1 (.sO [.mv p17 q5 tI, .bn p18 .sub q17 (ci 1) tI, .mv p6 q18 tI] (.block 0 (.loop v130_2 c130_2b))) c130_1)
def c130_e : XC := (.sO [.mv p4 (ci 0) tI] (.sO [.mv p9 q0 .v, .P p10 (.lenl q9) tI, .mv p5 q10 tI] (.sj v130_0 (.sO [.mv p11 q1 .v, .P p12 (.lenl q11) tI, .mv p13 q5 tI, .bn p14 .gtr q12 q13 .b] (.cond q14 (.s (.oX [.mv p15 q1 .v, .P p16 (.lenl q15) tI, .mv p5 q16 tI])) (.s .skip))) c130_0)))
def x130 : XFn := ⟨[.v, .v], false, [(.tmp p4)], c130_e⟩
def e130_1 (k h) := kN k [] h
def S130_1 (D : CallD) (m : Nat) (h : HP) : Res2 :=
 some (.ret (vI (Int.ofNat 0)) h, .no)
def e130_2 (k t0 t1 t6 h) := kN k [(p0, t0), (p1, t1), (p6, (vI t6))] h
def S130_2b (D : CallD) (m : Nat) (g2 : AV → AV → Int → HP → Res2) (t0 t1 : AV) (t6 : Int) (h : HP) : Res2 :=
 let t20 := leQ (Int.ofNat 0) t6
 br t20 (
 cal D 160 [t0, (vI t6)] h fun t25 h4 =>
 asI .i64 t25 fun t25a =>
 cal D 160 [t1, (vI t6)] h4 fun t28 h5 =>
 asI .i64 t28 fun t28a =>
 let t31 := ltQ t25a t28a
 br t31 (
 some (.ret (vI (Int.negSucc 0)) h5, .no)) (
 let t34 := ltQ t28a t25a
 br t34 (
 some (.ret (vI (Int.ofNat 1)) h5, .no)) (
 let t22 := wrQ .i64 (t6 - (Int.ofNat 1))
 g2 t0 t1 t22 h5))) (
 S130_1 D m h)
def S130_2 (D : CallD) (m : Nat) : AV → AV → Int → HP → Res2 := nrec (fun _ _ _ _ => none) (fun _ g => S130_2b D m g) m
def e130_0 (k t0 t1 t5 h) := kN k [(p0, t0), (p1, t1), (p5, (vI t5))] h
def S130_0 (D : CallD) (m : Nat) (t0 t1 : AV) (t5 : Int) (h : HP) : Res2 :=
 let t18 := wrQ .i64 (t5 - (Int.ofNat 1))
 S130_2 D m t0 t1 t18 h
def e130_3 (k t0 t1 h) := kN k [(p0, t0), (p1, t1)] h
def S130_3 (D : CallD) (m : Nat) (t0 t1 : AV) (h : HP) : Res2 :=
 lenC t0 fun vt10 => asI .i64 vt10 fun t10 =>
 lenC t1 fun vt12 => asI .i64 vt12 fun t12 =>
 let t14 := ltQ t10 t12
 br t14 (
 lenC t1 fun vt16 => asI .i64 vt16 fun t16 =>
 S130_0 D m t0 t1 t16 h) (
 S130_0 D m t0 t1 t10 h)
def S130 : SFn := fun D m args h u => nou u <| popV args fun t0 args => popV args fun t1 args => endA args (S130_3 D m t0 t1 h)
theorem T130_1 (hE : FX x130 D m E) : S130_1 D m = e130_1 (E c130_1 []) := by unfold S130_1; rw [hE c130_1]; kernel_rfl
theorem T130_2b (hE : FX x130 D m E) (G2) : S130_2b D m (e130_2 G2) = e130_2 (E c130_2b [.lp v130_2 G2, .blk 0, .sj v130_1 c130_1]) := by unfold S130_2b; rw [T130_1 hE, hE c130_2b]; kernel_rfl
theorem T130_2 (hE : FX x130 D m E) : S130_2 D m = e130_2 (nrec (fun _ => none) (fun _ G2 st => E c130_2b [.lp v130_2 G2, .blk 0, .sj v130_1 c130_1] st) m) :=
  nrec_emb e130_2 (fun _ _ _ _ => none) (fun g => S130_2b D m g) (fun G2 st => E c130_2b [.lp v130_2 G2, .blk 0, .sj v130_1 c130_1] st) rfl (fun g => T130_2b hE g) m
theorem T130_0 (hE : FX x130 D m E) : S130_0 D m = e130_0 (E c130_0 []) := by unfold S130_0; rw [T130_2 hE, hE c130_0]; kernel_rfl
theorem T130_3 (hE : FX x130 D m E) : S130_3 D m = e130_3 (E c130_e []) := by unfold S130_3; rw [T130_0 hE, hE c130_e]; kernel_rfl
theorem X130 : XTie S130 x130 := X_of fun D m E hE args h u => by unfold S130; rw [T130_3 hE]; kernel_rfl
/- 131 -/
def v131_0 : List Pos := [p5]
def c131_0 : XC := (.sO [.mv p33 q5 .v, .cl p34 161 [q33] .v, .mv p4 q34 .v] (.s .ret))
def v131_2 : List Pos := [p0, p1, p5, p6, p10, p11]
def c131_2 : XC := (.s (.oX [.bn p32 .add q11 (ci 1) tI, .mv p11 q32 tI]))
def v131_3 : List Pos := [p0, p1, p5, p6, p8, p10, p11]
def c131_3 : XC := (.s (.oX [.mv p28 q5 .v, .mv p29 q8 tI, .al p30 (.bsl [(kI 0)] 1 [⟨0, 1, q29⟩]), .o ⟨(some p31), (.e (.app 1 8 q28 q30)), none, []⟩ .v, .mv p5 q31 .v]))
def v131_1 : List Pos := [p0, p1, p5, p6, p10, p11]
def c131_1b : XC := (.sO [.bn p12 .lss q11 q10 .b] (.seq (.cond q12 .skip (.exit 0)) (.sj v131_2 (.block 1 (.sO [.mv p13 q11 tI, .mv p7 q13 tI] (.seq (.ops true (XL.of [.mv p14 q0 .v, .mv p15 q7 tI, .P p16 (.iaddr (.sl 1) q14 q15) .v, .ld p17 q16 tI, .mv p18 q1 .v, .mv p19 q7 tI, .mv p22 q6 tI, .o ⟨(some p20), (.call (.fn 160) [q18, q19]), none, [⟨none, .cell q16, p17⟩]⟩ tI, .bn p21 .sub q17 q20 tI, .bn p23 .sub q21 q22 tI, .mv p8 q23 tI])) (.sO [.mv p6 (ci 0) tI] (.sj v131_3 (.sO [.mv p24 q8 tI, .bn p25 .lss q24 (ci 0) .b] (.cond q25 (.sO [.mv p26 q8 tI, .bn p27 .add q26 (ci 65536) tI, .mv p8 q27 tI] (.s (.oX [.mv p6 (ci 1) tI]))) (.s .skip))) c131_3))))) c131_2)))
def c131_e : XC := (.sO [.mv p4 (.c .nils) .v] (.sO [.mv p5 (.c .nils) .v] (.sO [.mv p6 (ci 0) tI] (.sj v131_0 (.sO [.mv p9 q0 .v, .P p10 (.lenl q9) tI, .mv p11 (ci 0) tI] (.block 0 (.loop v131_1 c131_1b))) c131_0))))
def x131 : XFn := ⟨[.v, .v], false, [(.tmp p4)], c131_e⟩
def e131_0 (k t5 h) := kN k [(p5, t5)] h
def S131_0 (D : CallD) (m : Nat) (t5 : AV) (h : HP) : Res2 :=
 cal D 161 [t5] h fun t34 h5 =>
 some (.ret t34 h5, .no)
def e131_2 (k t0 t1 t5 t6 t10 t11 h) := kN k [(p0, t0), (p1, t1), (p5, t5), (p6, (vI t6)), (p10, (vI t10)), (p11, (vI t11))] h
def S131_2 (D : CallD) (m : Nat) (g1 : AV → AV → AV → Int → Int → Int → HP → Res2) (t0 t1 t5 : AV) (t6 t10 t11 : Int) (h : HP) : Res2 :=
 let t32 := wrQ .i64 (addQ t11 (Int.ofNat 1))
 g1 t0 t1 t5 t6 t10 t32 h
def e131_3 (k t0 t1 t5 t6 t8 t10 t11 h) := kN k [(p0, t0), (p1, t1), (p5, t5), (p6, (vI t6)), (p8, (vI t8)), (p10, (vI t10)), (p11, (vI t11))] h
def S131_3 (D : CallD) (m : Nat) (g1 : AV → AV → AV → Int → Int → Int → HP → Res2) (t0 t1 t5 : AV) (t6 t8 t10 t11 : Int) (h : HP) : Res2 :=
 let t30 := AV.slice (HP.nxQ h) 0 1 (.exact 1)
 let h7 := HP.newQ h (.cells true [(vI t8)])
 eff (.app 1 8 (.c t5) (.c t30)) h7 fun t31 h8 =>
 S131_2 D m g1 t0 t1 t31 t6 t10 t11 h8
def e131_1 (k t0 t1 t5 t6 t10 t11 h) := kN k [(p0, t0), (p1, t1), (p5, t5), (p6, (vI t6)), (p10, (vI t10)), (p11, (vI t11))] h
def S131_1b (D : CallD) (m : Nat) (g1 : AV → AV → AV → Int → Int → Int → HP → Res2) (t0 t1 t5 : AV) (t6 t10 t11 : Int) (h : HP) : Res2 :=
 let t12 := ltQ t11 t10
 br t12 (
 iasC 1 t0 (vI t11) fun t16 =>
 ldI t16 h fun t17 =>
 cal D 160 [t1, (vI t11)] h fun t20 h6 =>
 br (again [⟨none, .cell q16, p17⟩] (mkT [(p17, (vI t17)), (p16, t16)]) h6) (
 asI .i64 t20 fun t20a =>
 let t21 := wrQ .i64 (t17 - t20a)
 let t23 := wrQ .i64 (t21 - t6)
 let t25 := ltQ t23 (Int.ofNat 0)
 br t25 (
 let t27 := wrQ .i64 (addQ t23 (Int.ofNat 65536))
 S131_3 D m g1 t0 t1 t5 (Int.ofNat 1) t27 t10 t11 h6) (
 S131_3 D m g1 t0 t1 t5 (Int.ofNat 0) t23 t10 t11 h6)) none) (
 S131_0 D m t5 h)
def S131_1 (D : CallD) (m : Nat) : AV → AV → AV → Int → Int → Int → HP → Res2 := nrec (fun _ _ _ _ _ _ _ => none) (fun _ g => S131_1b D m g) m
def e131_4 (k t0 t1 h) := kN k [(p0, t0), (p1, t1)] h
def S131_4 (D : CallD) (m : Nat) (t0 t1 : AV) (h : HP) : Res2 :=
 lenC t0 fun vt10 => asI .i64 vt10 fun t10 =>
 S131_1 D m t0 t1 (.nils : AV) (Int.ofNat 0) t10 (Int.ofNat 0) h
def S131 : SFn := fun D m args h u => nou u <| popV args fun t0 args => popV args fun t1 args => endA args (S131_4 D m t0 t1 h)
theorem T131_0 (hE : FX x131 D m E) : S131_0 D m = e131_0 (E c131_0 []) := by unfold S131_0; rw [hE c131_0]; kernel_rfl
theorem T131_2 (hE : FX x131 D m E) (G1) : S131_2 D m (e131_1 G1) = e131_2 (E c131_2 [.lp v131_1 G1, .blk 0, .sj v131_0 c131_0]) := by unfold S131_2; rw [hE c131_2]; kernel_rfl
theorem T131_3 (hE : FX x131 D m E) (G1) : S131_3 D m (e131_1 G1) = e131_3 (E c131_3 [.blk 1, .sj v131_2 c131_2, .lp v131_1 G1, .blk 0, .sj v131_0 c131_0]) := by unfold S131_3; rw [T131_2 hE G1, hE c131_3]; kernel_rfl
theorem T131_1b (hE : FX x131 D m E) (G1) : S131_1b D m (e131_1 G1) = e131_1 (E c131_1b [.lp v131_1 G1, .blk 0, .sj v131_0 c131_0]) := by unfold S131_1b; rw [T131_3 hE G1, T131_0 hE, hE c131_1b]; kernel_rfl
theorem T131_1 (hE : FX x131 D m E) : S131_1 D m = e131_1 (nrec (fun _ => none) (fun _ G1 st => E c131_1b [.lp v131_1 G1, .blk 0, .sj v131_0 c131_0] st) m) :=
  nrec_emb e131_1 (fun _ _ _ _ _ _ _ => none) (fun g => S131_1b D m g) (fun G1 st => E c131_1b [.lp v131_1 G1, .blk 0, .sj v131_0 c131_0] st) rfl (fun g => T131_1b hE g) m
theorem T131_4 (hE : FX x131 D m E) : S131_4 D m = e131_4 (E c131_e []) := by unfold S131_4; rw [T131_1 hE, hE c131_e]; kernel_rfl
theorem X131 : XTie S131 x131 := X_of fun D m E hE args h u => by unfold S131; rw [T131_4 hE]; kernel_rfl
/- 132 -/
def v132_0 : List Pos := [p3]
def c132_0 : XC := (.sO [.mv p24 q3 tI, .mv p2 q24 tI] (.s .ret))
def v132_1 : List Pos := [p3, p4]
def c132_1b : XC := (.seq (.seq (.oX [.mv p18 q4 tI, .bn p19 .gtr q18 (ci 0) .b]) (.cond q19 .skip (.exit 0))) (.seq (.block 1 (.oX [.mv p22 q3 tI, .bn p23 .add q22 (ci 1) tI, .mv p3 q23 tI])) (.s (.oX [.mv p20 q4 tI, .bn p21 .quo q20 (ci 2) tI, .mv p4 q21 tI]))))
def c132_e : XC := (.sO [.mv p2 (ci 0) tI] (.seq (.seq (.oX [.mv p5 q0 .v, .P p6 (.lenl q5) tI, .bn p7 .eql q6 (ci 0) .b]) (.cond q7 (.seq (.oX [.mv p2 (ci 0) tI]) .ret) .skip)) (.sO [.mv p8 q0 .v, .P p9 (.lenl q8) tI, .bn p10 .sub q9 (ci 1) tI, .bn p11 .mul (ci 16) q10 tI, .mv p3 q11 tI] (.sj v132_0 (.sO [.mv p12 q0 .v, .mv p13 q0 .v, .P p14 (.lenl q13) tI, .bn p15 .sub q14 (ci 1) tI, .P p16 (.iaddr (.sl 1) q12 q15) .v, .ld p17 q16 tI, .mv p4 q17 tI] (.block 0 (.loop v132_1 c132_1b))) c132_0))))
def x132 : XFn := ⟨[.v], false, [(.tmp p2)], c132_e⟩
def e132_0 (k t3 h) := kN k [(p3, (vI t3))] h
def S132_0 (D : CallD) (m : Nat) (t3 : Int) (h : HP) : Res2 :=
 some (.ret (vI t3) h, .no)
def e132_1 (k t3 t4 h) := kN k [(p3, (vI t3)), (p4, (vI t4))] h
def S132_1b (D : CallD) (m : Nat) (g1 : Int → Int → HP → Res2) (t3 t4 : Int) (h : HP) : Res2 :=
 let t19 := ltQ (Int.ofNat 0) t4
 br t19 (
 let t23 := wrQ .i64 (addQ t3 (Int.ofNat 1))
 let t21 := wrapF .i64 (Int.tdiv t4 (Int.ofNat 2))
 g1 t23 t21 h) (
 S132_0 D m t3 h)
def S132_1 (D : CallD) (m : Nat) : Int → Int → HP → Res2 := nrec (fun _ _ _ => none) (fun _ g => S132_1b D m g) m
def e132_2 (k t0 h) := kN k [(p0, t0)] h
def S132_2 (D : CallD) (m : Nat) (t0 : AV) (h : HP) : Res2 :=
 lenC t0 fun vt6 => asI .i64 vt6 fun t6 =>
 let t7 := eqQ t6 (Int.ofNat 0)
 br t7 (
 some (.ret (vI (Int.ofNat 0)) h, .no)) (
 lenC t0 fun vt9 => asI .i64 vt9 fun t9 =>
 let t10 := wrQ .i64 (t9 - (Int.ofNat 1))
 let t11 := wrQ .i64 ((Int.ofNat 16) * t10)
 lenC t0 fun vt14 => asI .i64 vt14 fun t14 =>
 let t15 := wrQ .i64 (t14 - (Int.ofNat 1))
 iasC 1 t0 (vI t15) fun t16 =>
 ldI t16 h fun t17 =>
 S132_1 D m t11 t17 h)
def S132 : SFn := fun D m args h u => nou u <| popV args fun t0 args => endA args (S132_2 D m t0 h)
theorem T132_0 (hE : FX x132 D m E) : S132_0 D m = e132_0 (E c132_0 []) := by unfold S132_0; rw [hE c132_0]; kernel_rfl
theorem T132_1b (hE : FX x132 D m E) (G1) : S132_1b D m (e132_1 G1) = e132_1 (E c132_1b [.lp v132_1 G1, .blk 0, .sj v132_0 c132_0]) := by unfold S132_1b; rw [T132_0 hE, hE c132_1b]; kernel_rfl
theorem T132_1 (hE : FX x132 D m E) : S132_1 D m = e132_1 (nrec (fun _ => none) (fun _ G1 st => E c132_1b [.lp v132_1 G1, .blk 0, .sj v132_0 c132_0] st) m) :=
  nrec_emb e132_1 (fun _ _ _ => none) (fun g => S132_1b D m g) (fun G1 st => E c132_1b [.lp v132_1 G1, .blk 0, .sj v132_0 c132_0] st) rfl (fun g => T132_1b hE g) m
theorem T132_2 (hE : FX x132 D m E) : S132_2 D m = e132_2 (E c132_e []) := by unfold S132_2; rw [T132_1 hE, hE c132_e]; kernel_rfl
theorem X132 : XTie S132 x132 := X_of fun D m E hE args h u => by unfold S132; rw [T132_2 hE]; kernel_rfl
/- 133 -/
def v133_0 : List Pos := [p0, p6]
def c133_0 : XC := (.sO [.mv p27 q6 tI, .mv p28 q0 .v, .mv p4 q27 tI, .mv p5 q28 .v] (.s .ret))
def v133_2 : List Pos := [p0, p6, p7, p8]
def c133_2 : XC := (.sO [.mv p23 q8 .v, .cl p24 162 [q23] .v, .mv p8 q24 .v] (.s (.oX [.mv p25 q7 tI, .bn p26 .quo q25 (ci 2) tI, .mv p7 q26 tI])))
def v133_1 : List Pos := [p0, p6, p7, p8]
def c133_1b : XC := (.seq (.seq (.oX [.mv p11 q7 tI, .bn p12 .gtr q11 (ci 0) .b]) (.cond q12 .skip (.exit 0))) (.block 1 (.sj v133_2 (.sO [.mv p13 q0 .v, .mv p14 q8 .v, .cl p15 130 [q13, q14] tI, .bn p16 .geq q15 (ci 0) .b] (.cond q16 (.sO [.mv p17 q0 .v, .mv p18 q8 .v, .cl p19 131 [q17, q18] .v, .mv p0 q19 .v] (.s (.oX [.mv p20 q6 tI, .mv p21 q7 tI, .bn p22 .add q20 q21 tI, .mv p6 q22 tI]))) (.s .skip))) c133_2)))
def c133_e : XC := (.sO [.mv p4 (ci 0) tI, .mv p5 (.c .nils) .v] (.sO [.mv p6 (ci 0) tI, .mv p7 (ci 72057594037927936) tI] (.sO [.mv p9 q1 .v, .cl p10 128 [q9, (ci 56)] .v, .mv p8 q10 .v] (.sj v133_0 (.block 0 (.loop v133_1 c133_1b)) c133_0))))
def x133 : XFn := ⟨[.v, .v], false, [(.tmp p4), (.tmp p5)], c133_e⟩
def e133_0 (k t0 t6 h) := kN k [(p0, t0), (p6, (vI t6))] h
def S133_0 (D : CallD) (m : Nat) (t0 : AV) (t6 : Int) (h : HP) : Res2 :=
 some (.ret (.tup [(vI t6), t0]) h, .no)
def e133_2 (k t0 t6 t7 t8 h) := kN k [(p0, t0), (p6, (vI t6)), (p7, (vI t7)), (p8, t8)] h
def S133_2 (D : CallD) (m : Nat) (g1 : AV → Int → Int → AV → HP → Res2) (t0 : AV) (t6 t7 : Int) (t8 : AV) (h : HP) : Res2 :=
 cal D 162 [t8] h fun t24 h5 =>
 let t26 := wrapF .i64 (Int.tdiv t7 (Int.ofNat 2))
 g1 t0 t6 t26 t24 h5
def e133_1 (k t0 t6 t7 t8 h) := kN k [(p0, t0), (p6, (vI t6)), (p7, (vI t7)), (p8, t8)] h
def S133_1b (D : CallD) (m : Nat) (g1 : AV → Int → Int → AV → HP → Res2) (t0 : AV) (t6 t7 : Int) (t8 : AV) (h : HP) : Res2 :=
 let t12 := ltQ (Int.ofNat 0) t7
 br t12 (
 cal D 130 [t0, t8] h fun t15 h6 =>
 asI .i64 t15 fun t15a =>
 let t16 := leQ (Int.ofNat 0) t15a
 br t16 (
 cal D 131 [t0, t8] h6 fun t19 h7 =>
 let t22 := wrQ .i64 (addQ t6 t7)
 S133_2 D m g1 t19 t22 t7 t8 h7) (
 S133_2 D m g1 t0 t6 t7 t8 h6)) (
 S133_0 D m t0 t6 h)
def S133_1 (D : CallD) (m : Nat) : AV → Int → Int → AV → HP → Res2 := nrec (fun _ _ _ _ _ => none) (fun _ g => S133_1b D m g) m
def e133_3 (k t0 t1 h) := kN k [(p0, t0), (p1, t1)] h
def S133_3 (D : CallD) (m : Nat) (t0 t1 : AV) (h : HP) : Res2 :=
 cal D 128 [t1, (vI (Int.ofNat 56))] h fun t10 h4 =>
 S133_1 D m t0 (Int.ofNat 0) (Int.ofNat 72057594037927936) t10 h4
def S133 : SFn := fun D m args h u => nou u <| popV args fun t0 args => popV args fun t1 args => endA args (S133_3 D m t0 t1 h)
theorem T133_0 (hE : FX x133 D m E) : S133_0 D m = e133_0 (E c133_0 []) := by unfold S133_0; rw [hE c133_0]; kernel_rfl
theorem T133_2 (hE : FX x133 D m E) (G1) : S133_2 D m (e133_1 G1) = e133_2 (E c133_2 [.blk 1, .lp v133_1 G1, .blk 0, .sj v133_0 c133_0]) := by unfold S133_2; rw [hE c133_2]; kernel_rfl
theorem T133_1b (hE : FX x133 D m E) (G1) : S133_1b D m (e133_1 G1) = e133_1 (E c133_1b [.lp v133_1 G1, .blk 0, .sj v133_0 c133_0]) := by unfold S133_1b; rw [T133_2 hE G1, T133_0 hE, hE c133_1b]; kernel_rfl
theorem T133_1 (hE : FX x133 D m E) : S133_1 D m = e133_1 (nrec (fun _ => none) (fun _ G1 st => E c133_1b [.lp v133_1 G1, .blk 0, .sj v133_0 c133_0] st) m) :=
  nrec_emb e133_1 (fun _ _ _ _ _ => none) (fun g => S133_1b D m g) (fun G1 st => E c133_1b [.lp v133_1 G1, .blk 0, .sj v133_0 c133_0] st) rfl (fun g => T133_1b hE g) m
theorem T133_3 (hE : FX x133 D m E) : S133_3 D m = e133_3 (E c133_e []) := by unfold S133_3; rw [T133_1 hE, hE c133_e]; kernel_rfl
theorem X133 : XTie S133 x133 := X_of fun D m E hE args h u => by unfold S133; rw [T133_3 hE]; kernel_rfl
/- 134 -/
def v134_0 : List Pos := [p5]
def c134_0 : XC := (.sO [.mv p33 q5 .v, .cl p34 161 [q33] .v, .mv p4 q34 .v] (.s .ret))
def v134_1 : List Pos := [p0, p1, p5, p6, p7]
def c134_1b : XC := (.seq (.seq (.oX [.mv p9 q7 tI, .mv p10 q0 .v, .P p11 (.lenl q10) tI, .bn p12 .lss q9 q11 .b, .mv p13 q12 .b, .ge p13 (XL.of [.G p13 false p14 (.mov q6) tI, .G p13 false p15 (.bin .gtr q14 (ci 0)) .b, .P p16 (.pick q13 (cb true) q15) .b]) p16 .b]) (.cond q16 .skip (.exit 0))) (.seq (.block 1 (.seq (.oX [.mv p19 q0 .v, .mv p20 q7 tI, .cl p21 160 [q19, q20] tI, .mv p22 q1 tI, .bn p23 .mul q21 q22 tI, .mv p24 q6 tI, .bn p25 .add q23 q24 tI, .mv p8 q25 tI]) (.seq (.oX [.mv p26 q5 .v, .mv p27 q8 tI, .bn p28 .rem q27 (ci 65536) tI, .al p29 (.bsl [(kI 0)] 1 [⟨0, 1, q28⟩]), .o ⟨(some p30), (.e (.app 1 8 q26 q29)), none, []⟩ .v, .mv p5 q30 .v]) (.oX [.mv p31 q8 tI, .bn p32 .quo q31 (ci 65536) tI, .mv p6 q32 tI])))) (.s (.oX [.mv p17 q7 tI, .bn p18 .add q17 (ci 1) tI, .mv p7 q18 tI]))))
def c134_e : XC := (.sO [.mv p4 (.c .nils) .v] (.sO [.mv p5 (.c .nils) .v] (.sO [.mv p6 (ci 0) tI] (.sj v134_0 (.sO [.mv p7 (ci 0) tI] (.block 0 (.loop v134_1 c134_1b))) c134_0))))
def x134 : XFn := ⟨[.v, tI], false, [(.tmp p4)], c134_e⟩
def e134_0 (k t5 h) := kN k [(p5, t5)] h
def S134_0 (D : CallD) (m : Nat) (t5 : AV) (h : HP) : Res2 :=
 cal D 161 [t5] h fun t34 h3 =>
 some (.ret t34 h3, .no)
def e134_1 (k t0 t1 t5 t6 t7 h) := kN k [(p0, t0), (p1, (vI t1)), (p5, t5), (p6, (vI t6)), (p7, (vI t7))] h
def S134_1b (D : CallD) (m : Nat) (g1 : AV → Int → AV → Int → Int → HP → Res2) (t0 : AV) (t1 : Int) (t5 : AV) (t6 t7 : Int) (h : HP) : Res2 :=
 lenC t0 fun vt11 => asI .i64 vt11 fun t11 =>
 let t12 := ltQ t7 t11
 obB (brV t12 (
 some (vB true)) (
 let t15 := ltQ (Int.ofNat 0) t6
 some (vB t15))) fun t16 =>
 br t16 (
 cal D 160 [t0, (vI t7)] h fun t21 h4 =>
 asI .i64 t21 fun t21a =>
 let t23 := wrQ .i64 (t21a * t1)
 let t25 := wrQ .i64 (addQ t23 t6)
 let t28 := Int.tmod t25 (Int.ofNat 65536)
 let t29 := AV.slice (HP.nxQ h4) 0 1 (.exact 1)
 let h5 := HP.newQ h4 (.cells true [(vI t28)])
 eff (.app 1 8 (.c t5) (.c t29)) h5 fun t30 h6 =>
 let t32 := wrapF .i64 (Int.tdiv t25 (Int.ofNat 65536))
 let t18 := wrQ .i64 (addQ t7 (Int.ofNat 1))
 g1 t0 t1 t30 t32 t18 h6) (
 S134_0 D m t5 h)
def S134_1 (D : CallD) (m : Nat) : AV → Int → AV → Int → Int → HP → Res2 := nrec (fun _ _ _ _ _ _ => none) (fun _ g => S134_1b D m g) m
def e134_2 (k t0 t1 h) := kN k [(p0, t0), (p1, (vI t1))] h
def S134_2 (D : CallD) (m : Nat) (t0 : AV) (t1 : Int) (h : HP) : Res2 :=
 S134_1 D m t0 t1 (.nils : AV) (Int.ofNat 0) (Int.ofNat 0) h
def S134 : SFn := fun D m args h u => nou u <| popV args fun t0 args => popI .i64 args fun t1 args => endA args (S134_2 D m t0 t1 h)
theorem T134_0 (hE : FX x134 D m E) : S134_0 D m = e134_0 (E c134_0 []) := by unfold S134_0; rw [hE c134_0]; kernel_rfl
theorem T134_1b (hE : FX x134 D m E) (G1) : S134_1b D m (e134_1 G1) = e134_1 (E c134_1b [.lp v134_1 G1, .blk 0, .sj v134_0 c134_0]) := by unfold S134_1b; rw [T134_0 hE, hE c134_1b]; kernel_rfl
theorem T134_1 (hE : FX x134 D m E) : S134_1 D m = e134_1 (nrec (fun _ => none) (fun _ G1 st => E c134_1b [.lp v134_1 G1, .blk 0, .sj v134_0 c134_0] st) m) :=
  nrec_emb e134_1 (fun _ _ _ _ _ _ => none) (fun g => S134_1b D m g) (fun G1 st => E c134_1b [.lp v134_1 G1, .blk 0, .sj v134_0 c134_0] st) rfl (fun g => T134_1b hE g) m
theorem T134_2 (hE : FX x134 D m E) : S134_2 D m = e134_2 (E c134_e []) := by unfold S134_2; rw [T134_1 hE, hE c134_e]; kernel_rfl
theorem X134 : XTie S134 x134 := X_of fun D m E hE args h u => by unfold S134; rw [T134_2 hE]; kernel_rfl
/- 135 -/
def x135 : XFn := ⟨[.s, tC], false, [(.tmp p4)], (.sO [.mv p4 (ci 0) tI] (.sO [.mv p5 q0 .s, .mv p6 q1 tC, .P p7 (.xt .ixbyte [q5, q6]) tI, .mv p4 q7 tI] (.s .ret)))⟩
def S135 : SFn := evFX x135
theorem X135 : XTie S135 x135 := fun _ _ _ _ _ => rfl
/- 136 -/
def x136 : XFn := ⟨[.s, .s], false, [(.tmp p4)], (.sO [.mv p4 (cb false) .b] (.sO [.mv p5 q0 .s, .P p6 (.lens q5) tI, .mv p7 q1 .s, .P p8 (.lens q7) tI, .bn p9 .geq q6 q8 .b, .mv p10 q9 .b, .ge p10 (XL.of [.G p10 true p11 (.mov q0) .s, .G p10 true p12 (.mov q1) .s, .G p10 true p13 (.lens q12) tI, .G p10 true p14 (.slice .str q11 none (some q13) none) .s, .G p10 true p15 (.mov q1) .s, .G p10 true p16 (.bin .eql q14 q15) .b, .P p17 (.pick q10 q16 (cb false)) .b]) p17 .b, .mv p4 q17 .b] (.s .ret)))⟩
def S136 : SFn := evFX x136
theorem X136 : XTie S136 x136 := fun _ _ _ _ _ => rfl
/- 139 -/
def x139 : XFn := ⟨[.s, tI, tI], false, [(.tmp p6), (.tmp p7)], (.sO [.mv p6 (.c Z64) (.i .u64), .mv p7 (.c .nili) .v] (.sO [.mv p11 q0 .s, .mv p12 q1 tI, .mv p13 q2 tI, .cl p14 170 [q11, q12, q13] .v, .mv p10 q14 .v, .P p15 (.ext q10 0) (.i .u64), .P p16 (.ext q10 1) .v, .mv p8 q15 (.i .u64), .mv p9 q16 .v] (.seq (.seq (.oX [.mv p17 q9 .v, .P p18 (.eqn .ifc true q17 (.c .nili)) .b]) (.cond q18 (.seq (.oX [.mv p19 q8 (.i .u64), .mv p20 q0 .s, .mv p21 q1 tI, .mv p22 q2 tI, .mv p23 q9 .v, .cl p24 144 [(.c (.str [80, 97, 114, 115, 101, 85, 105, 110, 116])), q20, q21, q22, q23] .v, .mv p6 q19 (.i .u64), .mv p7 q24 .v]) .ret) .skip)) (.sO [.mv p25 q8 (.i .u64), .mv p6 q25 (.i .u64), .mv p7 (.c .nili) .v] (.s .ret)))))⟩
def S139 : SFn := evFX x139
theorem X139 : XTie S139 x139 := fun _ _ _ _ _ => rfl
/- 143 -/
def x143 : XFn := ⟨[.s], false, [(.tmp p2), (.tmp p3)], (.sO [.mv p2 (ci 0) tI, .mv p3 (.c .nili) .v] (.sO [.mv p11 q0 .s, .P p12 (.lens q11) tI, .mv p4 q12 tI] (.sj [p0] (.sO [.mv p13 (cb false) .b, .ge p13 (XL.of [.G p13 true p14 (.mov q4) tI, .G p13 true p15 (.bin .lss (ci 0) q14) .b, .G p13 true p16 (.mov q15) .b, .ge p16 (XL.of [.G p16 true p17 (.mov q4) tI, .G p16 true p18 (.bin .lss q17 (ci 10)) .b, .G p13 true p19 (.pick q16 q18 (cb false)) .b]) p19 .b, .P p20 (.pick q13 q19 (cb false)) .b]) p20 .b, .mv p21 q20 .b, .ge p21 (XL.of [.G p21 false p22 (.mov (cb true)) .b, .ge p22 (XL.of [.G p22 true p23 (.mov q4) tI, .G p22 true p24 (.bin .lss (ci 0) q23) .b, .G p22 true p25 (.mov q24) .b, .ge p25 (XL.of [.G p25 true p26 (.mov q4) tI, .G p25 true p27 (.bin .lss q26 (ci 19)) .b, .G p22 true p28 (.pick q25 q27 (cb false)) .b]) p28 .b, .G p21 false p29 (.pick q22 q28 (cb false)) .b]) p29 .b, .P p30 (.pick q21 (cb true) q29) .b]) p30 .b] (.cond q30 (.sO [.mv p31 q0 .s, .mv p5 q31 .s] (.sj [p0, p5] (.sO [.mv p32 q0 .s, .P p33 (.idxs q32 (ci 0)) tC, .bn p34 .eql q33 (.c (.int .u8 (.ofNat 45))) .b, .mv p35 q34 .b, .ge p35 (XL.of [.G p35 false p36 (.mov q0) .s, .G p35 false p37 (.idxs q36 (ci 0)) tC, .G p35 false p38 (.bin .eql q37 (.c (.int .u8 (.ofNat 43)))) .b, .P p39 (.pick q35 (cb true) q38) .b]) p39 .b] (.cond q39 (.sO [.mv p40 q0 .s, .P p41 (.slice .str q40 (some (ci 1)) none none) .s, .mv p0 q41 .s] (.sO [.mv p42 q0 .s, .P p43 (.lens q42) tI, .bn p44 .lss q43 (ci 1) .b] (.cond q44 (.sO [.P p45 (.mkif 221 (ci 2)) .v, .mv p2 (ci 0) tI, .mv p3 q45 .v] (.s .ret)) (.s .skip)))) (.s .skip))) (.sO [.mv p6 (ci 0) tI] (.sj [p5, p6] (.sO [.mv p46 q0 .s, .o ⟨(some p47), (.e (.sb q46)), none, []⟩ .v, .P p48 (.lenl q47) tI, .mv p49 (ci 0) tI] (.block 0 (.loop [p5, p6, p47, p48, p49] (.sO [.bn p50 .lss q49 q48 .b] (.seq (.cond q50 .skip (.exit 0)) (.seq (.block 1 (.seq (.oX [.P p51 (.iaddr (.sl 1) q47 q49) .v, .ld p52 q51 tC, .mv p8 q52 tC]) (.seq (.oX [.mv p53 q8 tC, .bn p54 .sub q53 (.c (.int .u8 (.ofNat 48))) tC, .mv p8 q54 tC]) (.seq (.seq (.oX [.mv p55 q8 tC, .bn p56 .gtr q55 (.c (.int .u8 (.ofNat 9))) .b]) (.cond q56 (.seq (.oX [.P p57 (.mkif 221 (ci 2)) .v, .mv p2 (ci 0) tI, .mv p3 q57 .v]) .ret) .skip)) (.oX [.mv p58 q6 tI, .bn p59 .mul q58 (ci 10) tI, .mv p60 q8 tC, .P p61 (.conv (.ii .i64) q60) tI, .bn p62 .add q59 q61 tI, .mv p6 q62 tI]))))) (.s (.oX [.bn p63 .add q49 (ci 1) tI, .mv p49 q63 tI])))))))) (.sj [p6] (.sO [.mv p64 q5 .s, .P p65 (.idxs q64 (ci 0)) tC, .bn p66 .eql q65 (.c (.int .u8 (.ofNat 45))) .b] (.cond q66 (.s (.oX [.mv p67 q6 tI, .P p68 (.un .neg q67) tI, .mv p6 q68 tI])) (.s .skip))) (.sO [.mv p69 q6 tI, .mv p2 q69 tI, .mv p3 (.c .nili) .v] (.s .ret))))))) (.s .skip))) (.sO [.mv p71 q0 .s, .cl p72 171 [q71, (ci 10), (ci 0)] .v, .mv p70 q72 .v, .P p73 (.ext q70 0) tI, .P p74 (.ext q70 1) .v, .mv p9 q73 tI, .mv p10 q74 .v] (.sO [.mv p75 q9 tI, .mv p76 q10 .v, .mv p2 q75 tI, .mv p3 q76 .v] (.s .ret))))))⟩
def S143 : SFn := evFX x143
theorem X143 : XTie S143 x143 := fun _ _ _ _ _ => rfl
end
end Go.Proofs.YtakcpnpeadkfpaaGreatDoor.Sx
