/- Functions, printed by a program of ours: their code, what they do, and that it is so. -/
import Derived.Test.YtnpadfengpoehaaGreatDoorSp
set_option maxRecDepth 8000
set_option linter.unusedVariables false
namespace Go.Proofs.YtnpadfengpoehaaGreatDoor.Sx
open Go Go.Proofs.YtnpadfengpoehaaGreatDoor.Ev
set_option linter.unusedSectionVars false
noncomputable section
variable [Rho]
variable {D : CallD} {m : Nat} {E : XE}
/- 4 -/
def v4_2 : List Pos := [p8]
def c4_2 : XC := (.sO [.fa p182 0 q8, .ld p183 q182 .v, .P p184 (.iaddr (.sl 17) q183 (ci 0)) .v, .fa p185 9 q184, .fa p186 2 q185, .ld p187 q186 .v, .mv p17 q187 .v] (.sO [.mv p188 q17 .v, .mv p189 q17 .v, .P p190 (.lenl q189) tI, .bn p191 .sub q190 (ci 1) tI, .P p192 (.iaddr (.sl 7) q188 q191) .v, .fa p193 1 q192, .ld p194 q193 .v, .P p195 (.iaddr (.sl 8) q194 (ci 0)) .v, .fa p196 2 q195, .ld p197 q196 .s, .bn p198 .eql q197 (.c (.str [36, 48])) .b, .mv p4 q198 .b] (.s .ret)))
def v4_4 : List Pos := [p0, p8, p11, p12]
def c4_4 : XC := (.s (.oX [.mv p77 q12 tI, .bn p78 .add q77 (ci 1) tI, .mv p12 q78 tI]))
def v4_6 : List Pos := [p0, p8, p11, p12, p13, p14]
def c4_6 : XC := (.sO [.mv p121 q12 tI, .P p122 (.mm false [q121, (ci 1)]) tI, .mv p15 q122 tI] (.seq (.seq (.oX [.fa p123 2 q11, .ld p124 q123 .v, .P p125 (.lenl q124) tI, .mv p126 q15 tI, .bn p127 .leq q125 q126 .b, .mv p128 q127 .b, .ge p128 (XL.of [.G p128 false p129 (.faddr 2 q11) .v, .o ⟨(some p130), (.l (.cell q129)), (some (p128, false)), []⟩ .v, .G p128 false p131 (.mov q15) tI, .G p128 false p132 (.iaddr (.sl 7) q130 q131) .v, .G p128 false p133 (.faddr 2 q132) .v, .o ⟨(some p134), (.l (.cell q133)), (some (p128, false)), []⟩ .v, .G p128 false p135 (.lenl q134) tI, .G p128 false p136 (.bin .lss q135 (ci 2)) .b, .P p137 (.pick q128 (cb true) q136) .b]) p137 .b]) (.cond q137 (.seq (.oX [.mv p4 (cb false) .b]) .ret) .skip)) (.sO [.fa p138 2 q11, .ld p139 q138 .v, .mv p140 q15 tI, .P p141 (.iaddr (.sl 7) q139 q140) .v, .L p142 (.cells 7 q141) .v, .ss 7 q11 q142] (.sO [.fa p143 2 q11, .ld p144 q143 .v, .fa p145 2 q11, .ld p146 q145 .v, .P p147 (.lenl q146) tI, .bn p148 .sub q147 (ci 1) tI, .P p149 (.iaddr (.sl 7) q144 q148) .v, .L p150 (.cells 7 q149) .v, .al p16 (.new [(kI 0), .nils, .nils, (.str []), (kI 0), (kI 0), (kI 0)]), .ss 7 q16 q150] (.sO [.fa p151 2 q11, .ld p152 q151 .v, .P p153 (.iaddr (.sl 7) q152 (ci 0)) .v, .fa p154 3 q153, .ld p155 q154 .s, .mv p156 q13 .s, .bn p157 .neq q155 q156 .b, .mv p158 q157 .b, .ge p158 (XL.of [.G p158 false p159 (.faddr 2 q11) .v, .o ⟨(some p160), (.l (.cell q159)), (some (p158, false)), []⟩ .v, .G p158 false p161 (.iaddr (.sl 7) q160 (ci 0)) .v, .G p158 false p162 (.faddr 1 q161) .v, .o ⟨(some p163), (.l (.cell q162)), (some (p158, false)), []⟩ .v, .G p158 false p164 (.iaddr (.sl 8) q163 (ci 0)) .v, .G p158 false p165 (.faddr 2 q164) .v, .o ⟨(some p166), (.l (.cell q165)), (some (p158, false)), []⟩ .s, .G p158 false p167 (.mov q14) .s, .G p158 false p168 (.bin .neq q166 q167) .b, .P p169 (.pick q158 (cb true) q168) .b]) p169 .b, .mv p170 q169 .b, .ge p170 (XL.of [.G p170 false p171 (.faddr 1 q16) .v, .o ⟨(some p172), (.l (.cell q171)), (some (p170, false)), []⟩ .v, .G p170 false p173 (.iaddr (.sl 8) q172 (ci 0)) .v, .G p170 false p174 (.faddr 5 q173) .v, .o ⟨(some p175), (.l (.cell q174)), (some (p170, false)), []⟩ .v, .G p170 false p176 (.iaddr (.sl 8) q175 (ci 0)) .v, .G p170 false p177 (.faddr 2 q176) .v, .o ⟨(some p178), (.l (.cell q177)), (some (p170, false)), []⟩ .s, .G p170 false p179 (.mov q13) .s, .G p170 false p180 (.bin .neq q178 q179) .b, .P p181 (.pick q170 (cb true) q180) .b]) p181 .b] (.cond q181 (.sO [.mv p4 (cb false) .b] (.s .ret)) (.s .skip)))))))
def v4_5 : List Pos := [p0, p8, p11, p12, p13, p14]
def c4_5 : XC := (.sj v4_6 (.sO [.mv p113 q12 tI, .bn p114 .lss q113 (ci 10) .b] (.cond q114 (.s (.oX [.mv p115 q12 tI, .P p116 (.conv (.ii .u8) q115) tC, .bn p117 .add (.c (.int .u8 (.ofNat 48))) q116 tC, .al p118 (.bsl [(.int .u8 (.ofNat 0))] 1 [⟨0, 1, q117⟩]), .L p119 (.bstr q118) .s, .bn p120 .add (.c (.str [36])) q119 .s, .mv p14 q120 .s])) (.s .skip))) c4_6)
def v4_3 : List Pos := [p0, p8, p11, p12]
def c4_3b : XC := (.seq (.seq (.oX [.mv p74 q12 tI, .mv p75 q0 tI, .bn p76 .lss q74 q75 .b]) (.cond q76 .skip (.exit 4))) (.sj v4_4 (.block 5 (.seq (.ops true (XL.of [.mv p79 q12 tI, .bn p80 .add q79 (ci 1) tI, .bn p81 .quo q80 (ci 10) tI, .P p82 (.conv (.ii .u8) q81) tC, .bn p83 .add (.c (.int .u8 (.ofNat 48))) q82 tC, .mv p84 q12 tI, .bn p85 .add q84 (ci 1) tI, .bn p86 .rem q85 (ci 10) tI, .P p87 (.conv (.ii .u8) q86) tC, .bn p88 .add (.c (.int .u8 (.ofNat 48))) q87 tC, .al p89 (.bsl [(.int .u8 (.ofNat 0)), (.int .u8 (.ofNat 0))] 2 [⟨0, 1, q83⟩, ⟨1, 1, q88⟩]), .L p90 (.bstr q89) .s, .bn p91 .add (.c (.str [36])) q90 .s, .mv p92 q12 tI, .bn p93 .quo q92 (ci 10) tI, .P p94 (.conv (.ii .u8) q93) tC, .bn p95 .add (.c (.int .u8 (.ofNat 48))) q94 tC, .mv p96 q12 tI, .bn p97 .rem q96 (ci 10) tI, .P p98 (.conv (.ii .u8) q97) tC, .bn p99 .add (.c (.int .u8 (.ofNat 48))) q98 tC, .al p100 (.bsl [(.int .u8 (.ofNat 0)), (.int .u8 (.ofNat 0))] 2 [⟨0, 1, q95⟩, ⟨1, 1, q99⟩]), .L p101 (.bstr q100) .s, .bn p102 .add (.c (.str [36])) q101 .s, .mv p13 q91 .s, .mv p14 q102 .s])) (.sj v4_5 (.sO [.mv p103 q12 tI, .bn p104 .add q103 (ci 1) tI, .bn p105 .lss q104 (ci 10) .b] (.cond q105 (.s (.oX [.mv p106 q12 tI, .bn p107 .add q106 (ci 1) tI, .P p108 (.conv (.ii .u8) q107) tC, .bn p109 .add (.c (.int .u8 (.ofNat 48))) q108 tC, .al p110 (.bsl [(.int .u8 (.ofNat 0))] 1 [⟨0, 1, q109⟩]), .L p111 (.bstr q110) .s, .bn p112 .add (.c (.str [36])) q111 .s, .mv p13 q112 .s])) (.s .skip))) c4_5))) c4_4))
def v4_1 : List Pos := [p0, p1, p5]
def c4_1 : XC := (.sO [.mv p48 q5 .s, .bn p49 .add q48 (.c (.str [32, 114, 101, 116, 117, 114, 110, 32, 120, 59, 32, 125])) .s, .cl p50 10 [q49] .v, .mv p47 q50 .v, .P p51 (.ext q47 0) .v, .P p52 (.ext q47 1) tI, .P p53 (.ext q47 2) tI, .al p8 (.new [.nils]), .ss 1 q8 q51, .mv p9 q52 tI, .mv p10 q53 tI] (.seq (.seq (.oX [.mv p54 q1 .b, .mv p55 q54 .b, .ge p55 (XL.of [.G p55 true p56 (.mov q0) tI, .G p55 true p57 (.bin .gtr q56 (ci 0)) .b, .P p58 (.pick q55 q57 (cb false)) .b]) p58 .b]) (.cond q58 (.seq (.oX [.mv p59 q10 tI, .bn p60 .eql q59 (ci 13) .b, .mv p4 q60 .b]) .ret) .skip)) (.seq (.seq (.oX [.mv p61 q10 tI, .bn p62 .neq q61 (ci 0) .b, .mv p63 q62 .b, .ge p63 (XL.of [.G p63 false p64 (.faddr 0 q8) .v, .o ⟨(some p65), (.l (.cell q64)), (some (p63, false)), []⟩ .v, .G p63 false p66 (.lenl q65) tI, .G p63 false p67 (.bin .neq q66 (ci 1)) .b, .P p68 (.pick q63 (cb true) q67) .b]) p68 .b]) (.cond q68 (.seq (.oX [.mv p4 (cb false) .b]) .ret) .skip)) (.sO [.fa p69 0 q8, .ld p70 q69 .v, .P p71 (.iaddr (.sl 17) q70 (ci 0)) .v, .fa p72 9 q71, .L p73 (.cells 7 q72) .v, .al p11 (.new [(kI 0), .nils, .nils, (.str []), (kI 0), (kI 0), (kI 0)]), .ss 7 q11 q73] (.sj v4_2 (.sO [.mv p12 (ci 0) tI] (.block 4 (.loop v4_3 c4_3b))) c4_2)))))
def v4_7 : List Pos := [p0, p1, p5, p7]
def c4_7b : XC := (.seq (.seq (.oX [.mv p40 q7 tI, .mv p41 q0 tI, .bn p42 .lss q40 q41 .b]) (.cond q42 .skip (.exit 2))) (.seq (.block 3 (.oX [.mv p45 q5 .s, .bn p46 .add q45 (.c (.str [32, 120, 32, 61, 32, 49, 59, 32, 125])) .s, .mv p5 q46 .s])) (.s (.oX [.mv p43 q7 tI, .bn p44 .add q43 (ci 1) tI, .mv p7 q44 tI]))))
def v4_0 : List Pos := [p0, p1, p5]
def c4_0 : XC := (.sj v4_1 (.sO [.mv p7 (ci 0) tI] (.block 2 (.loop v4_7 c4_7b))) c4_1)
def v4_9 : List Pos := [p0, p1, p5, p6]
def c4_9 : XC := (.s (.oX [.mv p27 q6 tI, .bn p28 .add q27 (ci 1) tI, .mv p6 q28 tI]))
def v4_8 : List Pos := [p0, p1, p5, p6]
def c4_8b : XC := (.seq (.seq (.oX [.mv p24 q6 tI, .mv p25 q0 tI, .bn p26 .lss q24 q25 .b]) (.cond q26 .skip (.exit 0))) (.sj v4_9 (.block 1 (.sO [.mv p29 q5 .s, .bn p30 .add q29 (.c (.str [123, 32, 105, 110, 116, 32, 120, 32, 61, 32, 120, 59])) .s, .mv p5 q30 .s] (.sO [.mv p31 q1 .b, .mv p32 q31 .b, .ge p32 (XL.of [.G p32 true p33 (.mov q6) tI, .G p32 true p34 (.mov q0) tI, .G p32 true p35 (.bin .sub q34 (ci 1)) tI, .G p32 true p36 (.bin .eql q33 q35) .b, .P p37 (.pick q32 q36 (cb false)) .b]) p37 .b] (.cond q37 (.s (.oX [.mv p38 q5 .s, .bn p39 .add q38 (.c (.str [32, 105, 110, 116, 32, 120, 59])) .s, .mv p5 q39 .s])) (.s .skip))))) c4_9))
def c4_e : XC := (.sO [.mv p4 (cb false) .b] (.seq (.seq (.oX [.cl p18 9 [] .b, .P p19 (.un .not q18) .b]) (.cond q19 (.seq (.oX [.mv p4 (cb false) .b]) .ret) .skip)) (.sO [.mv p20 q0 tI, .P p21 (.conv (.ii .u64) q20) (.i .u64), .bn p22 .rem q21 (.c (.int .u64 (.ofNat 12))) (.i .u64), .P p23 (.conv (.ii .i64) q22) tI, .mv p0 q23 tI] (.sO [.mv p5 (.c (.str [105, 110, 116, 32, 102, 40, 105, 110, 116, 32, 120, 41, 32, 123])) .s] (.sj v4_0 (.sO [.mv p6 (ci 0) tI] (.block 0 (.loop v4_8 c4_8b))) c4_0)))))
def x4 : XFn := ⟨[tI, .b], false, [(.tmp p4)], c4_e⟩
def e4_2 (k t8 h) := kN k [(p8, t8)] h
def S4_2 (D : CallD) (m : Nat) (t8 : AV) (h : HP) : Res2 :=
 faC 0 t8 fun t182 =>
 cellC t182 h fun t183 =>
 iasC 17 t183 (vI (Int.ofNat 0)) fun t184 =>
 faC 9 t184 fun t185 =>
 faC 2 t185 fun t186 =>
 cellC t186 h fun t187 =>
 lenC t187 fun vt190 => asI .i64 vt190 fun t190 =>
 let t191 := wrQ .i64 (t190 - (Int.ofNat 1))
 iasC 7 t187 (vI t191) fun t192 =>
 faC 1 t192 fun t193 =>
 cellC t193 h fun t194 =>
 iasC 8 t194 (vI (Int.ofNat 0)) fun t195 =>
 faC 2 t195 fun t196 =>
 ldS t196 h fun t197 =>
 let t198 := eqL t197 ([36, 48] : LN)
 some (.ret (vB t198) h, .no)
def e4_4 (k t0 t8 t11 t12 h) := kN k [(p0, (vI t0)), (p8, t8), (p11, t11), (p12, (vI t12))] h
def S4_4 (D : CallD) (m : Nat) (g3 : Int → AV → AV → Int → HP → Res2) (t0 : Int) (t8 t11 : AV) (t12 : Int) (h : HP) : Res2 :=
 let t78 := wrQ .i64 (addQ t12 (Int.ofNat 1))
 g3 t0 t8 t11 t78 h
def e4_6 (k t0 t8 t11 t12 t13 t14 h) := kN k [(p0, (vI t0)), (p8, t8), (p11, t11), (p12, (vI t12)), (p13, (vS t13)), (p14, (vS t14))] h
def S4_6 (D : CallD) (m : Nat) (g3 : Int → AV → AV → Int → HP → Res2) (t0 : Int) (t8 t11 : AV) (t12 : Int) (t13 t14 : LN) (h : HP) : Res2 :=
 let t122 := mmI false t12 (Int.ofNat 1)
 faC 2 t11 fun t123 =>
 cellC t123 h fun t124 =>
 lenC t124 fun vt125 => asI .i64 vt125 fun t125 =>
 let t127 := leQ t125 t122
 obB (brV t127 (
 some (vB true)) (
 faCV 2 t11 fun t129 =>
 cellCV t129 h fun t130 =>
 iasCV 7 t130 (vI t122) fun t132 =>
 faCV 2 t132 fun t133 =>
 cellCV t133 h fun t134 =>
 lenCV t134 fun vt135 => asIV .i64 vt135 fun t135 =>
 let t136 := ltQ t135 (Int.ofNat 2)
 some (vB t136))) fun t137 =>
 br t137 (
 some (.ret (vB false) h, .no)) (
 faC 2 t11 fun t138 =>
 cellC t138 h fun t139 =>
 iasC 7 t139 (vI t122) fun t141 =>
 cellsC 7 t141 h fun t142 =>
 stsC 7 t11 t142 h fun h19 =>
 faC 2 t11 fun t143 =>
 cellC t143 h19 fun t144 =>
 faC 2 t11 fun t145 =>
 cellC t145 h19 fun t146 =>
 lenC t146 fun vt147 => asI .i64 vt147 fun t147 =>
 let t148 := wrQ .i64 (t147 - (Int.ofNat 1))
 iasC 7 t144 (vI t148) fun t149 =>
 cellsC 7 t149 h19 fun t150 =>
 let t16 := AV.ptr (HP.nxQ h19) 0
 let h20 := HP.newQ h19 (.cells true [(kI 0), .nils, .nils, (.str []), (kI 0), (kI 0), (kI 0)])
 stsC 7 t16 t150 h20 fun h21 =>
 faC 2 t11 fun t151 =>
 cellC t151 h21 fun t152 =>
 iasC 7 t152 (vI (Int.ofNat 0)) fun t153 =>
 faC 3 t153 fun t154 =>
 ldS t154 h21 fun t155 =>
 let t157 := !(eqL t155 t13)
 obB (brV t157 (
 some (vB true)) (
 faCV 2 t11 fun t159 =>
 cellCV t159 h21 fun t160 =>
 iasCV 7 t160 (vI (Int.ofNat 0)) fun t161 =>
 faCV 1 t161 fun t162 =>
 cellCV t162 h21 fun t163 =>
 iasCV 8 t163 (vI (Int.ofNat 0)) fun t164 =>
 faCV 2 t164 fun t165 =>
 ldSV t165 h21 fun t166 =>
 let t168 := !(eqL t166 t14)
 some (vB t168))) fun t169 =>
 obB (brV t169 (
 some (vB true)) (
 let t171 := (AV.ptr (HP.nxQ h19) (Nat.add 0 1))
 cellCV t171 h21 fun t172 =>
 iasCV 8 t172 (vI (Int.ofNat 0)) fun t173 =>
 faCV 5 t173 fun t174 =>
 cellCV t174 h21 fun t175 =>
 iasCV 8 t175 (vI (Int.ofNat 0)) fun t176 =>
 faCV 2 t176 fun t177 =>
 ldSV t177 h21 fun t178 =>
 let t180 := !(eqL t178 t13)
 some (vB t180))) fun t181 =>
 br t181 (
 some (.ret (vB false) h21, .no)) (
 S4_4 D m g3 t0 t8 t11 t12 h21))
def e4_5 (k t0 t8 t11 t12 t13 t14 h) := kN k [(p0, (vI t0)), (p8, t8), (p11, t11), (p12, (vI t12)), (p13, (vS t13)), (p14, (vS t14))] h
def S4_5 (D : CallD) (m : Nat) (g3 : Int → AV → AV → Int → HP → Res2) (t0 : Int) (t8 t11 : AV) (t12 : Int) (t13 t14 : LN) (h : HP) : Res2 :=
 let t114 := ltQ t12 (Int.ofNat 10)
 br t114 (
 let t116 := wrapF .u8 t12
 let t117 := wrQ .u8 (addQ (Int.ofNat 48) t116)
 let t118 := AV.slice (HP.nxQ h) 0 1 (.exact 1)
 let h22 := HP.newQ h (.cells true [(vC t117)])
 obS (bstrV t118 h22) fun t119 =>
 obS (strBin .add ([36] : LN) t119) fun t120 =>
 S4_6 D m g3 t0 t8 t11 t12 t13 t120 h22) (
 S4_6 D m g3 t0 t8 t11 t12 t13 t14 h)
def e4_3 (k t0 t8 t11 t12 h) := kN k [(p0, (vI t0)), (p8, t8), (p11, t11), (p12, (vI t12))] h
def S4_3b (D : CallD) (m : Nat) (g3 : Int → AV → AV → Int → HP → Res2) (t0 : Int) (t8 t11 : AV) (t12 : Int) (h : HP) : Res2 :=
 let t76 := ltQ t12 t0
 br t76 (
 let t80 := wrQ .i64 (addQ t12 (Int.ofNat 1))
 let t81 := wrapF .i64 (Int.tdiv t80 (Int.ofNat 10))
 let t82 := wrapF .u8 t81
 let t83 := wrQ .u8 (addQ (Int.ofNat 48) t82)
 let t85 := wrQ .i64 (addQ t12 (Int.ofNat 1))
 let t86 := Int.tmod t85 (Int.ofNat 10)
 let t87 := wrapF .u8 t86
 let t88 := wrQ .u8 (addQ (Int.ofNat 48) t87)
 let t89 := AV.slice (HP.nxQ h) 0 2 (.exact 2)
 let h17 := HP.newQ h (.cells true [(vC t83), (vC t88)])
 obS (bstrV t89 h17) fun t90 =>
 obS (strBin .add ([36] : LN) t90) fun t91 =>
 let t93 := wrapF .i64 (Int.tdiv t12 (Int.ofNat 10))
 let t94 := wrapF .u8 t93
 let t95 := wrQ .u8 (addQ (Int.ofNat 48) t94)
 let t97 := Int.tmod t12 (Int.ofNat 10)
 let t98 := wrapF .u8 t97
 let t99 := wrQ .u8 (addQ (Int.ofNat 48) t98)
 let t100 := AV.slice (HP.nxQ h17) 0 2 (.exact 2)
 let h18 := HP.newQ h17 (.cells true [(vC t95), (vC t99)])
 obS (bstrV t100 h18) fun t101 =>
 obS (strBin .add ([36] : LN) t101) fun t102 =>
 let t104 := wrQ .i64 (addQ t12 (Int.ofNat 1))
 let t105 := ltQ t104 (Int.ofNat 10)
 br t105 (
 let t107 := wrQ .i64 (addQ t12 (Int.ofNat 1))
 let t108 := wrapF .u8 t107
 let t109 := wrQ .u8 (addQ (Int.ofNat 48) t108)
 let t110 := AV.slice (HP.nxQ h18) 0 1 (.exact 1)
 let h23 := HP.newQ h18 (.cells true [(vC t109)])
 obS (bstrV t110 h23) fun t111 =>
 obS (strBin .add ([36] : LN) t111) fun t112 =>
 S4_5 D m g3 t0 t8 t11 t12 t112 t102 h23) (
 S4_5 D m g3 t0 t8 t11 t12 t91 t102 h18)) (
 S4_2 D m t8 h)
def S4_3 (D : CallD) (m : Nat) : Int → AV → AV → Int → HP → Res2 := nrec (fun _ _ _ _ _ => none) (fun _ g => S4_3b D m g) m
def e4_1 (k t0 t1 t5 h) := kN k [(p0, (vI t0)), (p1, (vB t1)), (p5, (vS t5))] h
def S4_1 (D : CallD) (m : Nat) (t0 : Int) (t1 : Bool) (t5 : LN) (h : HP) : Res2 :=
 obS (strBin .add t5 ([32, 114, 101, 116, 117, 114, 110, 32, 120, 59, 32, 125] : LN)) fun t49 =>
 cal D 10 [(vS t49)] h fun t50 h12 =>
 extC t50 0 fun t51 =>
 extC t50 1 fun vt52 => asI .i64 vt52 fun t52 =>
 extC t50 2 fun vt53 => asI .i64 vt53 fun t53 =>
 let t8 := AV.ptr (HP.nxQ h12) 0
 let h13 := HP.newQ h12 (.cells true [.nils])
 stsC 1 t8 t51 h13 fun h14 =>
 obB (brV t1 (
 let t57 := ltQ (Int.ofNat 0) t0
 some (vB t57)) (
 some (vB false))) fun t58 =>
 br t58 (
 let t60 := eqQ t53 (Int.ofNat 13)
 some (.ret (vB t60) h14, .no)) (
 let t62 := notQ (eqQ t53 (Int.ofNat 0))
 obB (brV t62 (
 some (vB true)) (
 let t64 := (AV.ptr (HP.nxQ h12) (Nat.add 0 0))
 cellCV t64 h14 fun t65 =>
 lenCV t65 fun vt66 => asIV .i64 vt66 fun t66 =>
 let t67 := notQ (eqQ t66 (Int.ofNat 1))
 some (vB t67))) fun t68 =>
 br t68 (
 some (.ret (vB false) h14, .no)) (
 let t69 := (AV.ptr (HP.nxQ h12) (Nat.add 0 0))
 cellC t69 h14 fun t70 =>
 iasC 17 t70 (vI (Int.ofNat 0)) fun t71 =>
 faC 9 t71 fun t72 =>
 cellsC 7 t72 h14 fun t73 =>
 let t11 := AV.ptr (HP.nxQ h14) 0
 let h15 := HP.newQ h14 (.cells true [(kI 0), .nils, .nils, (.str []), (kI 0), (kI 0), (kI 0)])
 stsC 7 t11 t73 h15 fun h16 =>
 S4_3 D m t0 t8 t11 (Int.ofNat 0) h16))
def e4_7 (k t0 t1 t5 t7 h) := kN k [(p0, (vI t0)), (p1, (vB t1)), (p5, (vS t5)), (p7, (vI t7))] h
def S4_7b (D : CallD) (m : Nat) (g7 : Int → Bool → LN → Int → HP → Res2) (t0 : Int) (t1 : Bool) (t5 : LN) (t7 : Int) (h : HP) : Res2 :=
 let t42 := ltQ t7 t0
 br t42 (
 obS (strBin .add t5 ([32, 120, 32, 61, 32, 49, 59, 32, 125] : LN)) fun t46 =>
 let t44 := wrQ .i64 (addQ t7 (Int.ofNat 1))
 g7 t0 t1 t46 t44 h) (
 S4_1 D m t0 t1 t5 h)
def S4_7 (D : CallD) (m : Nat) : Int → Bool → LN → Int → HP → Res2 := nrec (fun _ _ _ _ _ => none) (fun _ g => S4_7b D m g) m
def e4_0 (k t0 t1 t5 h) := kN k [(p0, (vI t0)), (p1, (vB t1)), (p5, (vS t5))] h
def S4_0 (D : CallD) (m : Nat) (t0 : Int) (t1 : Bool) (t5 : LN) (h : HP) : Res2 :=
 S4_7 D m t0 t1 t5 (Int.ofNat 0) h
def e4_9 (k t0 t1 t5 t6 h) := kN k [(p0, (vI t0)), (p1, (vB t1)), (p5, (vS t5)), (p6, (vI t6))] h
def S4_9 (D : CallD) (m : Nat) (g8 : Int → Bool → LN → Int → HP → Res2) (t0 : Int) (t1 : Bool) (t5 : LN) (t6 : Int) (h : HP) : Res2 :=
 let t28 := wrQ .i64 (addQ t6 (Int.ofNat 1))
 g8 t0 t1 t5 t28 h
def e4_8 (k t0 t1 t5 t6 h) := kN k [(p0, (vI t0)), (p1, (vB t1)), (p5, (vS t5)), (p6, (vI t6))] h
def S4_8b (D : CallD) (m : Nat) (g8 : Int → Bool → LN → Int → HP → Res2) (t0 : Int) (t1 : Bool) (t5 : LN) (t6 : Int) (h : HP) : Res2 :=
 let t26 := ltQ t6 t0
 br t26 (
 obS (strBin .add t5 ([123, 32, 105, 110, 116, 32, 120, 32, 61, 32, 120, 59] : LN)) fun t30 =>
 obB (brV t1 (
 let t35 := wrQ .i64 (t0 - (Int.ofNat 1))
 let t36 := eqQ t6 t35
 some (vB t36)) (
 some (vB false))) fun t37 =>
 br t37 (
 obS (strBin .add t30 ([32, 105, 110, 116, 32, 120, 59] : LN)) fun t39 =>
 S4_9 D m g8 t0 t1 t39 t6 h) (
 S4_9 D m g8 t0 t1 t30 t6 h)) (
 S4_0 D m t0 t1 t5 h)
def S4_8 (D : CallD) (m : Nat) : Int → Bool → LN → Int → HP → Res2 := nrec (fun _ _ _ _ _ => none) (fun _ g => S4_8b D m g) m
def e4_10 (k t0 t1 h) := kN k [(p0, (vI t0)), (p1, (vB t1))] h
def S4_10 (D : CallD) (m : Nat) (t0 : Int) (t1 : Bool) (h : HP) : Res2 :=
 cal D 9 [] h fun t18 h11 =>
 asB t18 fun t18a =>
 let t19 := !t18a
 br t19 (
 some (.ret (vB false) h11, .no)) (
 let t21 := wrapF .u64 t0
 let t22 := Int.tmod t21 (Int.ofNat 12)
 let t23 := wrapF .i64 t22
 S4_8 D m t23 t1 ([105, 110, 116, 32, 102, 40, 105, 110, 116, 32, 120, 41, 32, 123] : LN) (Int.ofNat 0) h11)
def S4 : SFn := fun D m args h u => nou u <| popI .i64 args fun t0 args => popB args fun t1 args => endA args (S4_10 D m t0 t1 h)
theorem T4_2 (hE : FX x4 D m E) : S4_2 D m = e4_2 (E c4_2 []) := by unfold S4_2; rw [hE c4_2]; kernel_rfl
theorem T4_4 (hE : FX x4 D m E) (G3) : S4_4 D m (e4_3 G3) = e4_4 (E c4_4 [.lp v4_3 G3, .blk 4, .sj v4_2 c4_2]) := by unfold S4_4; rw [hE c4_4]; kernel_rfl
theorem T4_6 (hE : FX x4 D m E) (G3) : S4_6 D m (e4_3 G3) = e4_6 (E c4_6 [.blk 5, .sj v4_4 c4_4, .lp v4_3 G3, .blk 4, .sj v4_2 c4_2]) := by unfold S4_6; rw [T4_4 hE G3, hE c4_6]; kernel_rfl
theorem T4_5 (hE : FX x4 D m E) (G3) : S4_5 D m (e4_3 G3) = e4_5 (E c4_5 [.blk 5, .sj v4_4 c4_4, .lp v4_3 G3, .blk 4, .sj v4_2 c4_2]) := by unfold S4_5; rw [T4_6 hE G3, hE c4_5]; kernel_rfl
theorem T4_3b (hE : FX x4 D m E) (G3) : S4_3b D m (e4_3 G3) = e4_3 (E c4_3b [.lp v4_3 G3, .blk 4, .sj v4_2 c4_2]) := by unfold S4_3b; rw [T4_5 hE G3, T4_2 hE, hE c4_3b]; kernel_rfl
theorem T4_3 (hE : FX x4 D m E) : S4_3 D m = e4_3 (nrec (fun _ => none) (fun _ G3 st => E c4_3b [.lp v4_3 G3, .blk 4, .sj v4_2 c4_2] st) m) :=
  nrec_emb e4_3 (fun _ _ _ _ _ => none) (fun g => S4_3b D m g) (fun G3 st => E c4_3b [.lp v4_3 G3, .blk 4, .sj v4_2 c4_2] st) rfl (fun g => T4_3b hE g) m
theorem T4_1 (hE : FX x4 D m E) : S4_1 D m = e4_1 (E c4_1 []) := by unfold S4_1; rw [T4_3 hE, hE c4_1]; kernel_rfl
theorem T4_7b (hE : FX x4 D m E) (G7) : S4_7b D m (e4_7 G7) = e4_7 (E c4_7b [.lp v4_7 G7, .blk 2, .sj v4_1 c4_1]) := by unfold S4_7b; rw [T4_1 hE, hE c4_7b]; kernel_rfl
theorem T4_7 (hE : FX x4 D m E) : S4_7 D m = e4_7 (nrec (fun _ => none) (fun _ G7 st => E c4_7b [.lp v4_7 G7, .blk 2, .sj v4_1 c4_1] st) m) :=
  nrec_emb e4_7 (fun _ _ _ _ _ => none) (fun g => S4_7b D m g) (fun G7 st => E c4_7b [.lp v4_7 G7, .blk 2, .sj v4_1 c4_1] st) rfl (fun g => T4_7b hE g) m
theorem T4_0 (hE : FX x4 D m E) : S4_0 D m = e4_0 (E c4_0 []) := by unfold S4_0; rw [T4_7 hE, hE c4_0]; kernel_rfl
theorem T4_9 (hE : FX x4 D m E) (G8) : S4_9 D m (e4_8 G8) = e4_9 (E c4_9 [.lp v4_8 G8, .blk 0, .sj v4_0 c4_0]) := by unfold S4_9; rw [hE c4_9]; kernel_rfl
theorem T4_8b (hE : FX x4 D m E) (G8) : S4_8b D m (e4_8 G8) = e4_8 (E c4_8b [.lp v4_8 G8, .blk 0, .sj v4_0 c4_0]) := by unfold S4_8b; rw [T4_9 hE G8, T4_0 hE, hE c4_8b]; kernel_rfl
theorem T4_8 (hE : FX x4 D m E) : S4_8 D m = e4_8 (nrec (fun _ => none) (fun _ G8 st => E c4_8b [.lp v4_8 G8, .blk 0, .sj v4_0 c4_0] st) m) :=
  nrec_emb e4_8 (fun _ _ _ _ _ => none) (fun g => S4_8b D m g) (fun G8 st => E c4_8b [.lp v4_8 G8, .blk 0, .sj v4_0 c4_0] st) rfl (fun g => T4_8b hE g) m
theorem T4_10 (hE : FX x4 D m E) : S4_10 D m = e4_10 (E c4_e []) := by unfold S4_10; rw [T4_8 hE, hE c4_e]; kernel_rfl
theorem X4 : XTie S4 x4 := X_of fun D m E hE args h u => by unfold S4; rw [T4_10 hE]; kernel_rfl
/- 6 -/
def v6_2 : List Pos := [p12, p13]
def c6_2 : XC := (.sO [.mv p86 q12 tI, .bn p87 .eql q86 (ci 0) .b, .mv p88 q13 .b, .P p89 (.eqb false q87 q88) .b, .mv p90 q89 .b, .ge p90 (XL.of [.G p90 true p91 (.mov q13) .b, .G p90 true p92 (.mov q91) .b, .ge p92 (XL.of [.G p92 false p93 (.mov q12) tI, .G p92 false p94 (.bin .eql q93 (ci 14)) .b, .G p90 true p95 (.pick q92 (cb true) q94) .b]) p95 .b, .P p96 (.pick q90 q95 (cb false)) .b]) p96 .b, .mv p4 q96 .b] (.s .ret))
def v6_1 : List Pos := [p7, p8, p9, p12, p13]
def c6_1 : XC := (.sj v6_2 (.sO [.mv p78 q7 tC, .bn p79 .geq q78 (.c (.int .u8 (.ofNat 16))) .b] (.cond q79 (.s (.oX [.mv p80 q13 .b, .mv p81 q80 .b, .ge p81 (XL.of [.G p81 false p82 (.mov q8) tC, .G p81 false p83 (.mov q9) tC, .G p81 false p84 (.bin .eql q82 q83) .b, .P p85 (.pick q81 (cb true) q84) .b]) p85 .b, .mv p13 q85 .b])) (.s .skip))) c6_2)
def v6_0 : List Pos := [p7, p8, p9, p12, p13]
def c6_0 : XC := (.sj v6_1 (.sO [.mv p63 q7 tC, .bn p64 .eql q63 (.c (.int .u8 (.ofNat 14))) .b, .mv p65 q64 .b, .ge p65 (XL.of [.G p65 false p66 (.mov q7) tC, .G p65 false p67 (.bin .eql q66 (.c (.int .u8 (.ofNat 15)))) .b, .P p68 (.pick q65 (cb true) q67) .b]) p68 .b] (.cond q68 (.s (.oX [.mv p69 q13 .b, .mv p70 q69 .b, .ge p70 (XL.of [.G p70 false p71 (.mov q8) tC, .G p70 false p72 (.bin .gtr q71 (.c (.int .u8 (.ofNat 1)))) .b, .G p70 false p73 (.mov q72) .b, .ge p73 (XL.of [.G p73 true p74 (.mov q9) tC, .G p73 true p75 (.bin .eql q74 (.c (.int .u8 (.ofNat 0)))) .b, .G p70 false p76 (.pick q73 q75 (cb false)) .b]) p76 .b, .P p77 (.pick q70 (cb true) q76) .b]) p77 .b, .mv p13 q77 .b])) (.s .skip))) c6_1)
def c6_e : XC := (.sO [.al p3 (.box q1), .mv p4 (cb false) .b] (.seq (.seq (.oX [.cl p14 9 [] .b, .P p15 (.un .not q14) .b]) (.cond q15 (.seq (.oX [.mv p4 (cb false) .b]) .ret) .skip)) (.sO [.P p16 (.build [(.str []), (.str []), (.str []), (.str []), (.str []), (.str []), (.str []), (.str []), (.str []), (.str []), (.str []), (.str []), (.str []), (.str []), (.str []), (.str []), (.str []), (.str [])] [⟨0, 1, (.c (.str [124, 124]))⟩, ⟨1, 1, (.c (.str [38, 38]))⟩, ⟨2, 1, (.c (.str [124]))⟩, ⟨3, 1, (.c (.str [94]))⟩, ⟨4, 1, (.c (.str [38]))⟩, ⟨5, 1, (.c (.str [37]))⟩, ⟨6, 1, (.c (.str [60, 60]))⟩, ⟨7, 1, (.c (.str [62, 62]))⟩, ⟨8, 1, (.c (.str [60]))⟩, ⟨9, 1, (.c (.str [60, 61]))⟩, ⟨10, 1, (.c (.str [62]))⟩, ⟨11, 1, (.c (.str [62, 61]))⟩, ⟨12, 1, (.c (.str [42]))⟩, ⟨13, 1, (.c (.str [47]))⟩, ⟨14, 1, (.c (.str [43]))⟩, ⟨15, 1, (.c (.str [45]))⟩, ⟨16, 1, (.c (.str [61, 61]))⟩, ⟨17, 1, (.c (.str [33, 61]))⟩]) .v, .al p5 (.new [(.str []), (.str []), (.str []), (.str []), (.str []), (.str []), (.str []), (.str []), (.str []), (.str []), (.str []), (.str []), (.str []), (.str []), (.str []), (.str []), (.str []), (.str [])]), .ss 18 q5 q16] (.sO [.P p17 (.build [(.str []), (.str []), (.str []), (.str [])] [⟨0, 1, (.c (.str [105]))⟩, ⟨1, 1, (.c (.str [100]))⟩, ⟨2, 1, (.c (.str [112]))⟩, ⟨3, 1, (.c (.str [113]))⟩]) .v, .al p6 (.new [(.str []), (.str []), (.str []), (.str [])]), .ss 4 q6 q17] (.seq (.ops true (XL.of [.mv p18 q0 tC, .bn p19 .rem q18 (.c (.int .u8 (.ofNat 18))) tC, .P p20 (.iaddr (.arr 2 1) q3 (ci 0)) .v, .ld p21 q20 tC, .bn p22 .rem q21 (.c (.int .u8 (.ofNat 4))) tC, .P p23 (.iaddr (.arr 2 1) q3 (ci 1)) .v, .ld p24 q23 tC, .bn p25 .rem q24 (.c (.int .u8 (.ofNat 4))) tC, .mv p7 q19 tC, .mv p8 q22 tC, .mv p9 q25 tC])) (.seq (.ops true (XL.of [.mv p27 q8 tC, .P p28 (.iaddr (.arr 4 1) q6 q27) .v, .ld p29 q28 .s, .bn p30 .add (.c (.str [105, 110, 116, 32, 105, 59, 32, 100, 111, 117, 98, 108, 101, 32, 100, 59, 32, 105, 110, 116, 32, 42, 112, 59, 32, 100, 111, 117, 98, 108, 101, 32, 42, 113, 59, 32, 105, 110, 116, 32, 102, 40, 41, 32, 123, 32])) q29 .s, .bn p31 .add q30 (.c (.str [32])) .s, .mv p32 q7 tC, .P p33 (.iaddr (.arr 18 1) q5 q32) .v, .ld p34 q33 .s, .bn p35 .add q31 q34 .s, .bn p36 .add q35 (.c (.str [32])) .s, .mv p37 q9 tC, .P p38 (.iaddr (.arr 4 1) q6 q37) .v, .ld p39 q38 .s, .bn p40 .add q36 q39 .s, .bn p41 .add q40 (.c (.str [59, 32, 114, 101, 116, 117, 114, 110, 32, 48, 59, 32, 125])) .s, .al p10 (.new [.nils]), .cl p42 10 [q41] .v, .mv p26 q42 .v, .P p43 (.ext q26 0) .v, .P p44 (.ext q26 1) tI, .P p45 (.ext q26 2) tI, .ss 1 q10 q43, .mv p11 q44 tI, .mv p12 q45 tI])) (.sO [.mv p46 q8 tC, .bn p47 .eql q46 (.c (.int .u8 (.ofNat 0))) .b, .mv p48 q47 .b, .ge p48 (XL.of [.G p48 true p49 (.mov q9) tC, .G p48 true p50 (.bin .eql q49 (.c (.int .u8 (.ofNat 0)))) .b, .P p51 (.pick q48 q50 (cb false)) .b]) p51 .b, .mv p13 q51 .b] (.sj v6_0 (.sO [.mv p52 q7 tC, .bn p53 .geq q52 (.c (.int .u8 (.ofNat 8))) .b] (.cond q53 (.s (.oX [.mv p54 q13 .b, .mv p55 q54 .b, .ge p55 (XL.of [.G p55 false p56 (.mov q8) tC, .G p55 false p57 (.bin .eql q56 (.c (.int .u8 (.ofNat 1)))) .b, .G p55 false p58 (.mov q57) .b, .ge p58 (XL.of [.G p58 true p59 (.mov q9) tC, .G p58 true p60 (.bin .eql q59 (.c (.int .u8 (.ofNat 1)))) .b, .G p55 false p61 (.pick q58 q60 (cb false)) .b]) p61 .b, .P p62 (.pick q55 (cb true) q61) .b]) p62 .b, .mv p13 q62 .b])) (.s .skip))) c6_0))))))))
def x6 : XFn := ⟨[tC, .v], false, [(.tmp p4)], c6_e⟩
def e6_2 (k t12 t13 h) := kN k [(p12, (vI t12)), (p13, (vB t13))] h
def S6_2 (D : CallD) (m : Nat) (t12 : Int) (t13 : Bool) (h : HP) : Res2 :=
 let t87 := eqQ t12 (Int.ofNat 0)
 let t89 := ((t87 == t13) != false)
 obB (brV t89 (
 obBV (brV t13 (
 some (vB true)) (
 let t94 := eqQ t12 (Int.ofNat 14)
 some (vB t94))) fun t95 =>
 some (vB t95)) (
 some (vB false))) fun t96 =>
 some (.ret (vB t96) h, .no)
def e6_1 (k t7 t8 t9 t12 t13 h) := kN k [(p7, (vC t7)), (p8, (vC t8)), (p9, (vC t9)), (p12, (vI t12)), (p13, (vB t13))] h
def S6_1 (D : CallD) (m : Nat) (t7 t8 t9 t12 : Int) (t13 : Bool) (h : HP) : Res2 :=
 let t79 := leQ (Int.ofNat 16) t7
 br t79 (
 obB (brV t13 (
 some (vB true)) (
 let t84 := eqQ t8 t9
 some (vB t84))) fun t85 =>
 S6_2 D m t12 t85 h) (
 S6_2 D m t12 t13 h)
def e6_0 (k t7 t8 t9 t12 t13 h) := kN k [(p7, (vC t7)), (p8, (vC t8)), (p9, (vC t9)), (p12, (vI t12)), (p13, (vB t13))] h
def S6_0 (D : CallD) (m : Nat) (t7 t8 t9 t12 : Int) (t13 : Bool) (h : HP) : Res2 :=
 let t64 := eqQ t7 (Int.ofNat 14)
 obB (brV t64 (
 some (vB true)) (
 let t67 := eqQ t7 (Int.ofNat 15)
 some (vB t67))) fun t68 =>
 br t68 (
 obB (brV t13 (
 some (vB true)) (
 let t72 := ltQ (Int.ofNat 1) t8
 obBV (brV t72 (
 let t75 := eqQ t9 (Int.ofNat 0)
 some (vB t75)) (
 some (vB false))) fun t76 =>
 some (vB t76))) fun t77 =>
 S6_1 D m t7 t8 t9 t12 t77 h) (
 S6_1 D m t7 t8 t9 t12 t13 h)
def e6_3 (k t0 t1 h) := kN k [(p0, (vC t0)), (p1, t1)] h
def S6_3 (D : CallD) (m : Nat) (t0 : Int) (t1 : AV) (h : HP) : Res2 :=
 let t3 := AV.ptr (HP.nxQ h) 0
 let h4 := HP.newQ h (.cells true (AV.cells t1))
 cal D 9 [] h4 fun t14 h5 =>
 asB t14 fun t14a =>
 let t15 := !t14a
 br t15 (
 some (.ret (vB false) h5, .no)) (
 let t16 := (AV.agg [(vS ([124, 124] : LN)), (vS ([38, 38] : LN)), (vS ([124] : LN)), (vS ([94] : LN)), (vS ([38] : LN)), (vS ([37] : LN)), (vS ([60, 60] : LN)), (vS ([62, 62] : LN)), (vS ([60] : LN)), (vS ([60, 61] : LN)), (vS ([62] : LN)), (vS ([62, 61] : LN)), (vS ([42] : LN)), (vS ([47] : LN)), (vS ([43] : LN)), (vS ([45] : LN)), (vS ([61, 61] : LN)), (vS ([33, 61] : LN))])
 let t5 := AV.ptr (HP.nxQ h5) 0
 let h6 := HP.newQ h5 (.cells true [(.str []), (.str []), (.str []), (.str []), (.str []), (.str []), (.str []), (.str []), (.str []), (.str []), (.str []), (.str []), (.str []), (.str []), (.str []), (.str []), (.str []), (.str [])])
 stsC 18 t5 t16 h6 fun h7 =>
 let t17 := (AV.agg [(vS ([105] : LN)), (vS ([100] : LN)), (vS ([112] : LN)), (vS ([113] : LN))])
 let t6 := AV.ptr (HP.nxQ h7) 0
 let h8 := HP.newQ h7 (.cells true [(.str []), (.str []), (.str []), (.str [])])
 stsC 4 t6 t17 h8 fun h9 =>
 let t19 := Int.tmod t0 (Int.ofNat 18)
 let t20 := (AV.ptr (HP.nxQ h) (Nat.add 0 (Nat.mul 0 1)))
 ldC t20 h9 fun t21 =>
 let t22 := Int.tmod t21 (Int.ofNat 4)
 let t23 := (AV.ptr (HP.nxQ h) (Nat.add 0 (Nat.mul 1 1)))
 ldC t23 h9 fun t24 =>
 let t25 := Int.tmod t24 (Int.ofNat 4)
 iarC 4 1 t6 (vC t22) fun t28 =>
 ldS t28 h9 fun t29 =>
 obS (strBin .add ([105, 110, 116, 32, 105, 59, 32, 100, 111, 117, 98, 108, 101, 32, 100, 59, 32, 105, 110, 116, 32, 42, 112, 59, 32, 100, 111, 117, 98, 108, 101, 32, 42, 113, 59, 32, 105, 110, 116, 32, 102, 40, 41, 32, 123, 32] : LN) t29) fun t30 =>
 obS (strBin .add t30 ([32] : LN)) fun t31 =>
 iarC 18 1 t5 (vC t19) fun t33 =>
 ldS t33 h9 fun t34 =>
 obS (strBin .add t31 t34) fun t35 =>
 obS (strBin .add t35 ([32] : LN)) fun t36 =>
 iarC 4 1 t6 (vC t25) fun t38 =>
 ldS t38 h9 fun t39 =>
 obS (strBin .add t36 t39) fun t40 =>
 obS (strBin .add t40 ([59, 32, 114, 101, 116, 117, 114, 110, 32, 48, 59, 32, 125] : LN)) fun t41 =>
 let t10 := AV.ptr (HP.nxQ h9) 0
 let h10 := HP.newQ h9 (.cells true [.nils])
 cal D 10 [(vS t41)] h10 fun t42 h11 =>
 extC t42 0 fun t43 =>
 extC t42 1 fun vt44 => asI .i64 vt44 fun t44 =>
 extC t42 2 fun vt45 => asI .i64 vt45 fun t45 =>
 stsC 1 t10 t43 h11 fun h12 =>
 let t47 := eqQ t22 (Int.ofNat 0)
 obB (brV t47 (
 let t50 := eqQ t25 (Int.ofNat 0)
 some (vB t50)) (
 some (vB false))) fun t51 =>
 let t53 := leQ (Int.ofNat 8) t19
 br t53 (
 obB (brV t51 (
 some (vB true)) (
 let t57 := eqQ t22 (Int.ofNat 1)
 obBV (brV t57 (
 let t60 := eqQ t25 (Int.ofNat 1)
 some (vB t60)) (
 some (vB false))) fun t61 =>
 some (vB t61))) fun t62 =>
 S6_0 D m t19 t22 t25 t45 t62 h12) (
 S6_0 D m t19 t22 t25 t45 t51 h12))
def S6 : SFn := fun D m args h u => nou u <| popI .u8 args fun t0 args => popV args fun t1 args => endA args (S6_3 D m t0 t1 h)
theorem T6_2 (hE : FX x6 D m E) : S6_2 D m = e6_2 (E c6_2 []) := by unfold S6_2; rw [hE c6_2]; kernel_rfl
theorem T6_1 (hE : FX x6 D m E) : S6_1 D m = e6_1 (E c6_1 []) := by unfold S6_1; rw [T6_2 hE, hE c6_1]; kernel_rfl
theorem T6_0 (hE : FX x6 D m E) : S6_0 D m = e6_0 (E c6_0 []) := by unfold S6_0; rw [T6_1 hE, hE c6_0]; kernel_rfl
theorem T6_3 (hE : FX x6 D m E) : S6_3 D m = e6_3 (E c6_e []) := by unfold S6_3; rw [T6_0 hE, hE c6_e]; kernel_rfl
theorem X6 : XTie S6 x6 := X_of fun D m E hE args h u => by unfold S6; rw [T6_3 hE]; kernel_rfl
/- 9 -/
def c9_e : XC := (.sO [.mv p0 (cb false) .b] (.sO [.cl p9 10 [(.c (.str [105, 110, 116, 32, 102, 40, 100, 111, 117, 98, 108, 101, 32, 120, 41, 32, 123, 32, 114, 101, 116, 117, 114, 110, 32, 40, 105, 110, 116, 41, 32, 120, 59, 32, 125]))] .v, .mv p8 q9 .v, .P p10 (.ext q8 0) .v, .P p11 (.ext q8 1) tI, .P p12 (.ext q8 2) tI, .al p1 (.new [.nils]), .ss 1 q1 q10, .mv p2 q11 tI, .mv p3 q12 tI] (.sO [.cl p14 10 [(.c (.str [105, 110, 116, 32, 102, 40, 41, 32, 123, 32, 114, 101, 116, 117, 114, 110, 32, 49, 46, 53, 59, 32, 125]))] .v, .mv p13 q14 .v, .P p15 (.ext q13 0) .v, .P p16 (.ext q13 1) tI, .P p17 (.ext q13 2) tI, .al p4 (.new [.nils]), .ss 1 q4 q15, .mv p5 q16 tI, .mv p6 q17 tI] (.seq (.seq (.oX [.mv p18 q3 tI, .bn p19 .neq q18 (ci 0) .b, .mv p20 q19 .b, .ge p20 (XL.of [.G p20 false p21 (.faddr 0 q1) .v, .o ⟨(some p22), (.l (.cell q21)), (some (p20, false)), []⟩ .v, .G p20 false p23 (.lenl q22) tI, .G p20 false p24 (.bin .neq q23 (ci 1)) .b, .P p25 (.pick q20 (cb true) q24) .b]) p25 .b, .mv p26 q25 .b, .ge p26 (XL.of [.G p26 false p27 (.faddr 0 q1) .v, .o ⟨(some p28), (.l (.cell q27)), (some (p26, false)), []⟩ .v, .G p26 false p29 (.iaddr (.sl 17) q28 (ci 0)) .v, .G p26 false p30 (.faddr 8 q29) .v, .o ⟨(some p31), (.l (.cell q30)), (some (p26, false)), []⟩ .v, .G p26 false p32 (.lenl q31) tI, .G p26 false p33 (.bin .neq q32 (ci 1)) .b, .P p34 (.pick q26 (cb true) q33) .b]) p34 .b, .mv p35 q34 .b, .ge p35 (XL.of [.G p35 false p36 (.faddr 0 q1) .v, .o ⟨(some p37), (.l (.cell q36)), (some (p35, false)), []⟩ .v, .G p35 false p38 (.iaddr (.sl 17) q37 (ci 0)) .v, .G p35 false p39 (.faddr 9 q38) .v, .G p35 false p40 (.faddr 2 q39) .v, .o ⟨(some p41), (.l (.cell q40)), (some (p35, false)), []⟩ .v, .G p35 false p42 (.lenl q41) tI, .G p35 false p43 (.bin .neq q42 (ci 1)) .b, .P p44 (.pick q35 (cb true) q43) .b]) p44 .b, .mv p45 q44 .b, .ge p45 (XL.of [.G p45 false p46 (.faddr 0 q1) .v, .o ⟨(some p47), (.l (.cell q46)), (some (p45, false)), []⟩ .v, .G p45 false p48 (.iaddr (.sl 17) q47 (ci 0)) .v, .G p45 false p49 (.faddr 9 q48) .v, .G p45 false p50 (.faddr 2 q49) .v, .o ⟨(some p51), (.l (.cell q50)), (some (p45, false)), []⟩ .v, .G p45 false p52 (.iaddr (.sl 7) q51 (ci 0)) .v, .G p45 false p53 (.faddr 1 q52) .v, .o ⟨(some p54), (.l (.cell q53)), (some (p45, false)), []⟩ .v, .G p45 false p55 (.lenl q54) tI, .G p45 false p56 (.bin .neq q55 (ci 1)) .b, .P p57 (.pick q45 (cb true) q56) .b]) p57 .b]) (.cond q57 (.seq (.oX [.mv p0 (cb false) .b]) .ret) .skip)) (.sO [.fa p58 0 q1, .ld p59 q58 .v, .P p60 (.iaddr (.sl 17) q59 (ci 0)) .v, .fa p61 9 q60, .fa p62 2 q61, .ld p63 q62 .v, .P p64 (.iaddr (.sl 7) q63 (ci 0)) .v, .fa p65 1 q64, .ld p66 q65 .v, .P p67 (.iaddr (.sl 8) q66 (ci 0)) .v, .L p68 (.cells 8 q67) .v, .al p7 (.new [(kI 0), (.str []), (.str []), (.int .u32 (.ofNat 0)), (.int .u64 (.ofNat 0)), .nils, (kI 0), (kI 0)]), .ss 8 q7 q68] (.sO [.fa p69 0 q1, .ld p70 q69 .v, .P p71 (.iaddr (.sl 17) q70 (ci 0)) .v, .fa p72 8 q71, .ld p73 q72 .v, .P p74 (.iaddr (.sl 3) q73 (ci 0)) .v, .fa p75 0 q74, .ld p76 q75 .s, .bn p77 .eql q76 (.c (.str [36, 48])) .b, .mv p78 q77 .b, .ge p78 (XL.of [.G p78 true p79 (.faddr 6 q7) .v, .o ⟨(some p80), (.l (.cell q79)), (some (p78, true)), []⟩ tI, .G p78 true p81 (.bin .eql q80 (ci 1)) .b, .P p82 (.pick q78 q81 (cb false)) .b]) p82 .b, .mv p83 q82 .b, .ge p83 (XL.of [.G p83 true p84 (.faddr 5 q7) .v, .o ⟨(some p85), (.l (.cell q84)), (some (p83, true)), []⟩ .v, .G p83 true p86 (.lenl q85) tI, .G p83 true p87 (.bin .eql q86 (ci 1)) .b, .P p88 (.pick q83 q87 (cb false)) .b]) p88 .b, .mv p89 q88 .b, .ge p89 (XL.of [.G p89 true p90 (.faddr 5 q7) .v, .o ⟨(some p91), (.l (.cell q90)), (some (p89, true)), []⟩ .v, .G p89 true p92 (.iaddr (.sl 8) q91 (ci 0)) .v, .G p89 true p93 (.faddr 2 q92) .v, .o ⟨(some p94), (.l (.cell q93)), (some (p89, true)), []⟩ .s, .G p89 true p95 (.bin .eql q94 (.c (.str [36, 48]))) .b, .P p96 (.pick q89 q95 (cb false)) .b]) p96 .b, .mv p97 q96 .b, .ge p97 (XL.of [.G p97 true p98 (.mov q6) tI, .G p97 true p99 (.bin .eql q98 (ci 14)) .b, .P p100 (.pick q97 q99 (cb false)) .b]) p100 .b, .mv p101 q100 .b, .ge p101 (XL.of [.G p101 true p102 (.mov q5) tI, .G p101 true p103 (.bin .eql q102 (ci 10)) .b, .P p104 (.pick q101 q103 (cb false)) .b]) p104 .b, .mv p0 q104 .b] (.s .ret)))))))
def x9 : XFn := ⟨[], false, [(.tmp p0)], c9_e⟩
def e9_0 (k h) := kN k [] h
def S9_0 (D : CallD) (m : Nat) (h : HP) : Res2 :=
 cal D 10 [(vS ([105, 110, 116, 32, 102, 40, 100, 111, 117, 98, 108, 101, 32, 120, 41, 32, 123, 32, 114, 101, 116, 117, 114, 110, 32, 40, 105, 110, 116, 41, 32, 120, 59, 32, 125] : LN))] h fun t9 h1 =>
 extC t9 0 fun t10 =>
 extC t9 1 fun vt11 => asI .i64 vt11 fun t11 =>
 extC t9 2 fun vt12 => asI .i64 vt12 fun t12 =>
 let t1 := AV.ptr (HP.nxQ h1) 0
 let h2 := HP.newQ h1 (.cells true [.nils])
 stsC 1 t1 t10 h2 fun h3 =>
 cal D 10 [(vS ([105, 110, 116, 32, 102, 40, 41, 32, 123, 32, 114, 101, 116, 117, 114, 110, 32, 49, 46, 53, 59, 32, 125] : LN))] h3 fun t14 h4 =>
 extC t14 0 fun t15 =>
 extC t14 1 fun vt16 => asI .i64 vt16 fun t16 =>
 extC t14 2 fun vt17 => asI .i64 vt17 fun t17 =>
 let t4 := AV.ptr (HP.nxQ h4) 0
 let h5 := HP.newQ h4 (.cells true [.nils])
 stsC 1 t4 t15 h5 fun h6 =>
 let t19 := notQ (eqQ t12 (Int.ofNat 0))
 obB (brV t19 (
 some (vB true)) (
 let t21 := (AV.ptr (HP.nxQ h1) (Nat.add 0 0))
 cellCV t21 h6 fun t22 =>
 lenCV t22 fun vt23 => asIV .i64 vt23 fun t23 =>
 let t24 := notQ (eqQ t23 (Int.ofNat 1))
 some (vB t24))) fun t25 =>
 obB (brV t25 (
 some (vB true)) (
 let t27 := (AV.ptr (HP.nxQ h1) (Nat.add 0 0))
 cellCV t27 h6 fun t28 =>
 iasCV 17 t28 (vI (Int.ofNat 0)) fun t29 =>
 faCV 8 t29 fun t30 =>
 cellCV t30 h6 fun t31 =>
 lenCV t31 fun vt32 => asIV .i64 vt32 fun t32 =>
 let t33 := notQ (eqQ t32 (Int.ofNat 1))
 some (vB t33))) fun t34 =>
 obB (brV t34 (
 some (vB true)) (
 let t36 := (AV.ptr (HP.nxQ h1) (Nat.add 0 0))
 cellCV t36 h6 fun t37 =>
 iasCV 17 t37 (vI (Int.ofNat 0)) fun t38 =>
 faCV 9 t38 fun t39 =>
 faCV 2 t39 fun t40 =>
 cellCV t40 h6 fun t41 =>
 lenCV t41 fun vt42 => asIV .i64 vt42 fun t42 =>
 let t43 := notQ (eqQ t42 (Int.ofNat 1))
 some (vB t43))) fun t44 =>
 obB (brV t44 (
 some (vB true)) (
 let t46 := (AV.ptr (HP.nxQ h1) (Nat.add 0 0))
 cellCV t46 h6 fun t47 =>
 iasCV 17 t47 (vI (Int.ofNat 0)) fun t48 =>
 faCV 9 t48 fun t49 =>
 faCV 2 t49 fun t50 =>
 cellCV t50 h6 fun t51 =>
 iasCV 7 t51 (vI (Int.ofNat 0)) fun t52 =>
 faCV 1 t52 fun t53 =>
 cellCV t53 h6 fun t54 =>
 lenCV t54 fun vt55 => asIV .i64 vt55 fun t55 =>
 let t56 := notQ (eqQ t55 (Int.ofNat 1))
 some (vB t56))) fun t57 =>
 br t57 (
 some (.ret (vB false) h6, .no)) (
 let t58 := (AV.ptr (HP.nxQ h1) (Nat.add 0 0))
 cellC t58 h6 fun t59 =>
 iasC 17 t59 (vI (Int.ofNat 0)) fun t60 =>
 faC 9 t60 fun t61 =>
 faC 2 t61 fun t62 =>
 cellC t62 h6 fun t63 =>
 iasC 7 t63 (vI (Int.ofNat 0)) fun t64 =>
 faC 1 t64 fun t65 =>
 cellC t65 h6 fun t66 =>
 iasC 8 t66 (vI (Int.ofNat 0)) fun t67 =>
 cellsC 8 t67 h6 fun t68 =>
 let t7 := AV.ptr (HP.nxQ h6) 0
 let h7 := HP.newQ h6 (.cells true [(kI 0), (.str []), (.str []), (.int .u32 (.ofNat 0)), (.int .u64 (.ofNat 0)), .nils, (kI 0), (kI 0)])
 stsC 8 t7 t68 h7 fun h8 =>
 let t69 := (AV.ptr (HP.nxQ h1) (Nat.add 0 0))
 cellC t69 h8 fun t70 =>
 iasC 17 t70 (vI (Int.ofNat 0)) fun t71 =>
 faC 8 t71 fun t72 =>
 cellC t72 h8 fun t73 =>
 iasC 3 t73 (vI (Int.ofNat 0)) fun t74 =>
 faC 0 t74 fun t75 =>
 ldS t75 h8 fun t76 =>
 let t77 := eqL t76 ([36, 48] : LN)
 obB (brV t77 (
 let t79 := (AV.ptr (HP.nxQ h6) (Nat.add 0 6))
 ldIV t79 h8 fun t80 =>
 let t81 := eqQ t80 (Int.ofNat 1)
 some (vB t81)) (
 some (vB false))) fun t82 =>
 obB (brV t82 (
 let t84 := (AV.ptr (HP.nxQ h6) (Nat.add 0 5))
 cellCV t84 h8 fun t85 =>
 lenCV t85 fun vt86 => asIV .i64 vt86 fun t86 =>
 let t87 := eqQ t86 (Int.ofNat 1)
 some (vB t87)) (
 some (vB false))) fun t88 =>
 obB (brV t88 (
 let t90 := (AV.ptr (HP.nxQ h6) (Nat.add 0 5))
 cellCV t90 h8 fun t91 =>
 iasCV 8 t91 (vI (Int.ofNat 0)) fun t92 =>
 faCV 2 t92 fun t93 =>
 ldSV t93 h8 fun t94 =>
 let t95 := eqL t94 ([36, 48] : LN)
 some (vB t95)) (
 some (vB false))) fun t96 =>
 obB (brV t96 (
 let t99 := eqQ t17 (Int.ofNat 14)
 some (vB t99)) (
 some (vB false))) fun t100 =>
 obB (brV t100 (
 let t103 := eqQ t16 (Int.ofNat 10)
 some (vB t103)) (
 some (vB false))) fun t104 =>
 some (.ret (vB t104) h8, .no))
def S9 : SFn := fun D m args h u => nou u <| endA args (S9_0 D m h)
theorem T9_0 (hE : FX x9 D m E) : S9_0 D m = e9_0 (E c9_e []) := by unfold S9_0; rw [hE c9_e]; kernel_rfl
theorem X9 : XTie S9 x9 := X_of fun D m E hE args h u => by unfold S9; rw [T9_0 hE]; kernel_rfl
/- 10 -/
def c10_e : XC := (.sO [.al p2 (.new [.nils]), .mv p3 (ci 0) tI, .mv p4 (ci 0) tI] (.sO [.mv p9 q0 .s, .cl p10 13 [q9] .v, .mv p8 q10 .v, .P p11 (.ext q8 0) .v, .P p12 (.ext q8 1) tI, .P p13 (.ext q8 2) tI, .al p5 (.new [.nils]), .ss 1 q5 q11, .mv p6 q12 tI, .mv p7 q13 tI] (.seq (.seq (.oX [.mv p14 q7 tI, .bn p15 .neq q14 (ci 0) .b]) (.cond q15 (.seq (.oX [.P p16 (.build [.nils] []) .v, .mv p17 q6 tI, .mv p18 q7 tI, .ss 1 q2 q16, .mv p3 q17 tI, .mv p4 q18 tI]) .ret) .skip)) (.sO [.L p19 (.cells 1 q5) .v, .cl p20 16 [q19] .v, .P p21 (.ext q20 0) .v, .P p22 (.ext q20 1) tI, .P p23 (.ext q20 2) tI, .ss 1 q2 q21, .mv p3 q22 tI, .mv p4 q23 tI] (.s .ret)))))
def x10 : XFn := ⟨[.s], false, [(.cells 1 p2), (.tmp p3), (.tmp p4)], c10_e⟩
def e10_0 (k t0 h) := kN k [(p0, (vS t0))] h
def S10_0 (D : CallD) (m : Nat) (t0 : LN) (h : HP) : Res2 :=
 let t2 := AV.ptr (HP.nxQ h) 0
 let h1 := HP.newQ h (.cells true [.nils])
 cal D 13 [(vS t0)] h1 fun t10 h2 =>
 extC t10 0 fun t11 =>
 extC t10 1 fun vt12 => asI .i64 vt12 fun t12 =>
 extC t10 2 fun vt13 => asI .i64 vt13 fun t13 =>
 let t5 := AV.ptr (HP.nxQ h2) 0
 let h3 := HP.newQ h2 (.cells true [.nils])
 stsC 1 t5 t11 h3 fun h4 =>
 let t15 := notQ (eqQ t13 (Int.ofNat 0))
 br t15 (
 let t16 := (AV.agg [(.nils : AV)])
 stsC 1 t2 t16 h4 fun h5 =>
 cellsC 1 t2 h5 fun t2a =>
 some (.ret (.tup [t2a, (vI t12), (vI t13)]) h5, .no)) (
 cellsC 1 t5 h4 fun t19 =>
 cal D 16 [t19] h4 fun t20 h6 =>
 extC t20 0 fun t21 =>
 extC t20 1 fun vt22 => asI .i64 vt22 fun t22 =>
 extC t20 2 fun vt23 => asI .i64 vt23 fun t23 =>
 stsC 1 t2 t21 h6 fun h7 =>
 cellsC 1 t2 h7 fun t2a =>
 some (.ret (.tup [t2a, (vI t22), (vI t23)]) h7, .no))
def S10 : SFn := fun D m args h u => nou u <| popS args fun t0 args => endA args (S10_0 D m t0 h)
theorem T10_0 (hE : FX x10 D m E) : S10_0 D m = e10_0 (E c10_e []) := by unfold S10_0; rw [hE c10_e]; kernel_rfl
theorem X10 : XTie S10 x10 := X_of fun D m E hE args h u => by unfold S10; rw [T10_0 hE]; kernel_rfl
/- 13 -/
def v13_0 : List Pos := [p2, p3, p4]
def c13_0 : XC := (.sO [.L p33 (.cells 1 q2) .v, .ss 1 q2 q33, .st q3 (ci 0), .st q4 (ci 0)] (.s .ret))
def v13_1 : List Pos := [p2, p3, p4, p6]
def c13_1b : XC := (.seq (.seq (.oX [.mv p22 q6 .v, .cl p23 23 [q22] .v, .P p24 (.field 0 1 false q23) tI, .bn p25 .neq q24 (ci 0) .b]) (.cond q25 .skip (.exit 0))) (.block 1 (.s (.ops true (XL.of [.fa p26 0 q2, .ld p27 q26 .v, .mv p28 q6 .v, .o ⟨(some p29), (.call (.fn 24) [q28]), none, [⟨none, .cell q26, p27⟩]⟩ .v, .al p30 (.bsl [(.bool false), (.bool false), (.bool false), (.str []), (kI 0), (kI 0), .nils, (.bool false), .nils, (kI 0), .nils, .nils, (.str []), (kI 0), (kI 0), (kI 0), (kI 0)] 1 [⟨0, 17, q29⟩]), .o ⟨(some p31), (.e (.app 17 200 q27 q30)), none, []⟩ .v, .fa p32 0 q2, .st q32 q31])))))
def c13_e : XC := (.sO [.al p2 (.new [.nils]), .al p3 (.new [(kI 0)]), .al p4 (.new [(kI 0)])] (.sO [.mv p8 q0 .s, .cl p9 21 [q8] .v, .mv p7 q9 .v, .P p10 (.ext q7 0) .v, .P p11 (.ext q7 1) tI, .P p12 (.ext q7 2) tI, .mv p5 q10 .v, .st q3 q11, .st q4 q12] (.seq (.seq (.oX [.ld p13 q4 tI, .bn p14 .neq q13 (ci 0) .b]) (.cond q14 (.seq (.ops true (XL.of [.L p15 (.cells 1 q2) .v, .ld p16 q3 tI, .ld p17 q4 tI, .o ⟨none, (.e (.stores 1 q2 q15)), none, [⟨none, .cell q3, p16⟩, ⟨none, .cell q4, p17⟩]⟩ .v, .o ⟨none, (.e (.store q3 q16)), none, [⟨none, .cell q4, p17⟩]⟩ .v, .st q4 q17])) .ret) .skip)) (.sO [.P p18 (.mkfn 22 [] [q2, q3, q4]) .v, .o ⟨none, (.defer (.val q18) []), none, []⟩ .v] (.sO [.mv p19 q5 .v, .P p20 (.build [.nils, (kI 0), (kI 0)] [⟨0, 1, q19⟩]) .v, .al p21 (.box q20), .mv p6 q21 .v] (.sj v13_0 (.block 0 (.loop v13_1 c13_1b)) c13_0))))))
def x13 : XFn := ⟨[.s], false, [(.cells 1 p2), (.cell p3), (.cell p4)], c13_e⟩
def e13_0 (k : St → Res2) (t2 t3 t4 : AV) (h : HP) (df : List ADef) : Res2 := k ⟨mkT [(p2, t2), (p3, t3), (p4, t4)], h, df, .no⟩
def S13_0 (D : CallD) (m : Nat) (t2 t3 t4 : AV) (h : HP) (df : List ADef) : Res2 :=
 cellsC 1 t2 h fun t33 =>
 stsC 1 t2 t33 h fun h14 =>
 stoC t3 (vI (Int.ofNat 0)) h14 fun h15 =>
 stoC t4 (vI (Int.ofNat 0)) h15 fun h16 =>
 XFn.endOf x13 D (.ret ⟨(mkT [(p2, t2), (p3, t3), (p4, t4)]), h16, df, .no⟩)
def e13_1 (k : St → Res2) (t2 t3 t4 t6 : AV) (h : HP) (df : List ADef) : Res2 := k ⟨mkT [(p2, t2), (p3, t3), (p4, t4), (p6, t6)], h, df, .no⟩
def S13_1b (D : CallD) (m : Nat) (g1 : AV → AV → AV → AV → HP → List ADef → Res2) (t2 t3 t4 t6 : AV) (h : HP) (df : List ADef) : Res2 :=
 calC D 23 [t6] h (fun t23 h17 =>
 fldC 0 1 false t23 fun vt24 => asI .i64 vt24 fun t24 =>
 let t25 := notQ (eqQ t24 (Int.ofNat 0))
 br t25 (
 faC 0 t2 fun t26 =>
 cellC t26 h17 fun t27 =>
 calC D 24 [t6] h17 (fun t29 h18 =>
 br (again [⟨none, .cell q26, p27⟩] (mkT [(p27, t27), (p26, t26)]) h18) (
 obQ (evA (.bsl [(.bool false), (.bool false), (.bool false), (.str []), (kI 0), (kI 0), .nils, (.bool false), .nils, (kI 0), .nils, .nils, (.str []), (kI 0), (kI 0), (kI 0), (kI 0)] 1 [⟨0, 17, (.c t29)⟩]) .leaf) fun r19 =>
 let t30 := vkV r19.2 (HP.nxQ h18)
 let h20 := HP.newQ h18 r19.1
 eff (.app 17 200 (.c t27) (.c t30)) h20 fun t31 h21 =>
 faC 0 t2 fun t32 =>
 stoC t32 t31 h21 fun h22 =>
 g1 t2 t3 t4 t6 h22 df) none) (fun ch18 gh18 => XFn.endOf x13 D (.panic ch18 ⟨(mkT [(p2, t2), (p3, t3), (p4, t4)]), gh18, df, .no⟩))) (
 S13_0 D m t2 t3 t4 h17 df)) (fun ch17 gh17 => XFn.endOf x13 D (.panic ch17 ⟨(mkT [(p2, t2), (p3, t3), (p4, t4)]), gh17, df, .no⟩))
def S13_1 (D : CallD) (m : Nat) : AV → AV → AV → AV → HP → List ADef → Res2 := nrec (fun _ _ _ _ _ _ => none) (fun _ g => S13_1b D m g) m
def e13_2 (k t0 h) := kN k [(p0, (vS t0))] h
def S13_2 (D : CallD) (m : Nat) (t0 : LN) (h : HP) : Res2 :=
 let t2 := AV.ptr (HP.nxQ h) 0
 let h3 := HP.newQ h (.cells true [.nils])
 let t3 := AV.ptr (HP.nxQ h3) 0
 let h4 := HP.newQ h3 (.cells true [(kI 0)])
 let t4 := AV.ptr (HP.nxQ h4) 0
 let h5 := HP.newQ h4 (.cells true [(kI 0)])
 calC D 21 [(vS t0)] h5 (fun t9 h6 =>
 extC t9 0 fun t10 =>
 extC t9 1 fun vt11 => asI .i64 vt11 fun t11 =>
 extC t9 2 fun vt12 => asI .i64 vt12 fun t12 =>
 stoC t3 (vI t11) h6 fun h7 =>
 stoC t4 (vI t12) h7 fun h8 =>
 ldI t4 h8 fun t13 =>
 let t14 := notQ (eqQ t13 (Int.ofNat 0))
 br t14 (
 cellsC 1 t2 h8 fun t15 =>
 ldI t3 h8 fun t16 =>
 ldI t4 h8 fun t17 =>
 stsC 1 t2 t15 h8 fun h9 =>
 br (againE (.stores 1 q2 q15) [⟨none, .cell q3, p16⟩, ⟨none, .cell q4, p17⟩] (mkT [(p2, t2), (p17, (vI t17)), (p4, t4), (p16, (vI t16)), (p3, t3)]) h9) (
 stoC t3 (vI t16) h9 fun h10 =>
 br (againE (.store q3 q16) [⟨none, .cell q4, p17⟩] (mkT [(p3, t3), (p17, (vI t17)), (p4, t4)]) h10) (
 stoC t4 (vI t17) h10 fun h11 =>
 XFn.endOf x13 D (.ret ⟨(mkT [(p2, t2), (p3, t3), (p4, t4)]), h11, [], .no⟩)) none) none) (
 let t18 := (AV.fn 22 [] [t2, t3, t4])
 let d12 : List ADef := ⟨22, [t2, t3, t4]⟩ :: []
 obQ (evP (.build [.nils, (kI 0), (kI 0)] [⟨0, 1, (.c t10)⟩]) .leaf) fun t20 =>
 let t21 := AV.ptr (HP.nxQ h8) 0
 let h13 := HP.newQ h8 (.cells true (AV.cells t20))
 S13_1 D m t2 t3 t4 t21 h13 d12)) (fun ch6 gh6 => XFn.endOf x13 D (.panic ch6 ⟨(mkT [(p2, t2), (p3, t3), (p4, t4)]), gh6, [], .no⟩))
def S13 : SFn := fun D m args h u => nou u <| popS args fun t0 args => endA args (S13_2 D m t0 h)
theorem T13_0 (hE : FX x13 D m E) : S13_0 D m = e13_0 (E c13_0 []) := by unfold S13_0; rw [hE c13_0]; kernel_rfl
theorem T13_1b (hE : FX x13 D m E) (G1) : S13_1b D m (e13_1 G1) = e13_1 (E c13_1b [.lp v13_1 G1, .blk 0, .sj v13_0 c13_0]) := by unfold S13_1b; rw [T13_0 hE, hE c13_1b]; kernel_rfl
theorem T13_1 (hE : FX x13 D m E) : S13_1 D m = e13_1 (nrec (fun _ => none) (fun _ G1 st => E c13_1b [.lp v13_1 G1, .blk 0, .sj v13_0 c13_0] st) m) :=
  nrec_emb e13_1 (fun _ _ _ _ _ _ => none) (fun g => S13_1b D m g) (fun G1 st => E c13_1b [.lp v13_1 G1, .blk 0, .sj v13_0 c13_0] st) rfl (fun g => T13_1b hE g) m
theorem T13_2 (hE : FX x13 D m E) : S13_2 D m = e13_2 (E c13_e []) := by unfold S13_2; rw [T13_1 hE, hE c13_e]; kernel_rfl
theorem X13 : XTie S13 x13 := X_of fun D m E hE args h u => by unfold S13; rw [T13_2 hE]; kernel_rfl
/- 16 -/
def v16_1 : List Pos := [p2, p3, p4]
def c16_1 : XC := (.sO [.L p62 (.cells 1 q2) .v, .ss 1 q2 q62, .st q3 (ci 0), .st q4 (ci 0)] (.s .ret))
def v16_3 : List Pos := [p1, p2, p3, p4, p38, p39, p40]
def c16_3 : XC := (.s (.oX [.bn p61 .add q40 (ci 1) tI, .mv p40 q61 tI]))
def l16_4 : XL := (XL.of [.cl p60 30 [q57, (ci 13), q59] .v])
def v16_2 : List Pos := [p1, p2, p3, p4, p38, p39, p40]
def c16_2b : XC := (.sO [.bn p41 .lss q40 q39 .b] (.seq (.cond q41 .skip (.exit 2)) (.sj v16_3 (.block 3 (.sO [.P p42 (.iaddr (.sl 17) q38 q40) .v, .L p43 (.cells 17 q42) .v, .al p9 (.new [(.bool false), (.bool false), (.bool false), (.str []), (kI 0), (kI 0), .nils, (.bool false), .nils, (kI 0), .nils, .nils, (.str []), (kI 0), (kI 0), (kI 0), (kI 0)]), .ss 17 q9 q43] (.ops true (XL.pre [.fa p44 0 q9, .ld p45 q44 .b, .P p46 (.un .not q45) .b, .mv p47 q46 .b, .ge p47 (XL.of [.G p47 false p48 (.faddr 1 q9) .v, .o ⟨(some p49), (.l (.cell q48)), (some (p47, false)), []⟩ .b, .G p47 false p50 (.un .not q49) .b, .P p51 (.pick q47 (cb true) q50) .b]) p51 .b, .mv p52 q51 .b, .sp p52, .G p52 false p53 (.faddr 0 q1) .v, .o ⟨(some p54), (.l (.cell q53)), (some (p52, false)), []⟩ .v, .G p52 false p55 (.mkfn 32 [] [q9]) .v, .fa p58 16 q9, .ld p59 q58 tI, .o ⟨(some p56), (.call (.fn 31) [q54, q55]), (some (p52, false)), [⟨none, .cell q58, p59⟩]⟩ .b, .P p57 (.pick q52 (cb true) q56) .b, .jn p52 [p1, p2, p3, p4, p38, p39, p40, p57, p59]] l16_4)))) c16_3)))
def v16_0 : List Pos := [p1, p2, p3, p4]
def c16_0 : XC := (.sj v16_1 (.sO [.fa p37 0 q1, .ld p38 q37 .v, .P p39 (.lenl q38) tI, .mv p40 (ci 0) tI] (.block 2 (.loop v16_2 c16_2b))) c16_1)
def v16_5 : List Pos := [p1, p2, p3, p4, p5, p17, p18, p19]
def c16_5b : XC := (.sO [.bn p20 .lss q19 q18 .b] (.seq (.cond q20 .skip (.exit 0)) (.seq (.block 1 (.seq (.oX [.mv p21 q19 tI, .P p22 (.iaddr (.sl 17) q17 q19) .v, .L p23 (.cells 17 q22) .v, .al p7 (.new [(.bool false), (.bool false), (.bool false), (.str []), (kI 0), (kI 0), .nils, (.bool false), .nils, (kI 0), .nils, .nils, (.str []), (kI 0), (kI 0), (kI 0), (kI 0)]), .mv p6 q21 tI, .ss 17 q7 q23]) (.ops true (XL.of [.fa p24 0 q2, .ld p25 q24 .v, .mv p26 q5 .v, .L p27 (.cells 17 q7) .v, .fa p28 0 q1, .ld p29 q28 .v, .mv p30 q6 tI, .P p31 (.slice (.sl 17) q29 none (some q30) none) .v, .o ⟨(some p32), (.call (.fn 29) [q26, q27, q31]), none, [⟨none, .cell q24, p25⟩]⟩ .v, .al p33 (.bsl [(.bool false), (.bool false), (.bool false), (.str []), (kI 0), (kI 0), .nils, (.bool false), .nils, (kI 0), .nils, .nils, (.str []), (kI 0), (kI 0), (kI 0), (kI 0)] 1 [⟨0, 17, q32⟩]), .o ⟨(some p34), (.e (.app 17 200 q25 q33)), none, []⟩ .v, .fa p35 0 q2, .st q35 q34])))) (.s (.oX [.bn p36 .add q19 (ci 1) tI, .mv p19 q36 tI])))))
def c16_e : XC := (.sO [.al p1 (.box q0), .al p2 (.new [.nils]), .al p3 (.new [(kI 0)]), .al p4 (.new [(kI 0)])] (.sO [.P p10 (.mkfn 27 [] [q2, q3, q4]) .v, .o ⟨none, (.defer (.val q10) []), none, []⟩ .v] (.sO [.cl p11 28 [] .v, .al p12 (.mkmap), .al p13 (.bsl [.nilm, .nilm] 2 [⟨0, 1, q11⟩, ⟨1, 1, q12⟩]), .P p14 (.build [.nils, (kI 0), (kI 0), (kI 0)] [⟨0, 1, q13⟩]) .v, .al p15 (.box q14), .mv p5 q15 .v] (.sj v16_0 (.sO [.fa p16 0 q1, .ld p17 q16 .v, .P p18 (.lenl q17) tI, .mv p19 (ci 0) tI] (.block 0 (.loop v16_5 c16_5b))) c16_0))))
def x16 : XFn := ⟨[.v], false, [(.cells 1 p2), (.cell p3), (.cell p4)], c16_e⟩
def e16_1 (k : St → Res2) (t2 t3 t4 : AV) (h : HP) (df : List ADef) : Res2 := k ⟨mkT [(p2, t2), (p3, t3), (p4, t4)], h, df, .no⟩
def S16_1 (D : CallD) (m : Nat) (t2 t3 t4 : AV) (h : HP) (df : List ADef) : Res2 :=
 cellsC 1 t2 h fun t62 =>
 stsC 1 t2 t62 h fun h17 =>
 stoC t3 (vI (Int.ofNat 0)) h17 fun h18 =>
 stoC t4 (vI (Int.ofNat 0)) h18 fun h19 =>
 XFn.endOf x16 D (.ret ⟨(mkT [(p2, t2), (p3, t3), (p4, t4)]), h19, df, .no⟩)
def e16_3 (k : St → Res2) (t1 t2 t3 t4 t38 : AV) (t39 t40 : Int) (h : HP) (df : List ADef) : Res2 := k ⟨mkT [(p1, t1), (p2, t2), (p3, t3), (p4, t4), (p38, t38), (p39, (vI t39)), (p40, (vI t40))], h, df, .no⟩
def S16_3 (D : CallD) (m : Nat) (g2 : AV → AV → AV → AV → AV → Int → Int → HP → List ADef → Res2) (t1 t2 t3 t4 t38 : AV) (t39 t40 : Int) (h : HP) (df : List ADef) : Res2 :=
 let t61 := wrQ .i64 (addQ t40 (Int.ofNat 1))
 g2 t1 t2 t3 t4 t38 t39 t61 h df
def e16_4 (k : St → Res2) (t1 t2 t3 t4 t38 : AV) (t39 t40 : Int) (t57 : Bool) (t59 : Int) (h : HP) (df : List ADef) : Res2 := k ⟨mkT [(p1, t1), (p2, t2), (p3, t3), (p4, t4), (p38, t38), (p39, (vI t39)), (p40, (vI t40)), (p57, (vB t57)), (p59, (vI t59))], h, df, .no⟩
def S16_4 (D : CallD) (m : Nat) (g2 : AV → AV → AV → AV → AV → Int → Int → HP → List ADef → Res2) (t1 t2 t3 t4 t38 : AV) (t39 t40 : Int) (t57 : Bool) (t59 : Int) (h : HP) (df : List ADef) : Res2 :=
 calC D 30 [(vB t57), (vI (Int.ofNat 13)), (vI t59)] h (fun t60 h22 =>
 S16_3 D m g2 t1 t2 t3 t4 t38 t39 t40 h22 df) (fun ch22 gh22 => XFn.endOf x16 D (.panic ch22 ⟨(mkT [(p2, t2), (p3, t3), (p4, t4)]), gh22, df, .no⟩))
def e16_2 (k : St → Res2) (t1 t2 t3 t4 t38 : AV) (t39 t40 : Int) (h : HP) (df : List ADef) : Res2 := k ⟨mkT [(p1, t1), (p2, t2), (p3, t3), (p4, t4), (p38, t38), (p39, (vI t39)), (p40, (vI t40))], h, df, .no⟩
def S16_2b (D : CallD) (m : Nat) (g2 : AV → AV → AV → AV → AV → Int → Int → HP → List ADef → Res2) (t1 t2 t3 t4 t38 : AV) (t39 t40 : Int) (h : HP) (df : List ADef) : Res2 :=
 let t41 := ltQ t40 t39
 br t41 (
 iasC 17 t38 (vI t40) fun t42 =>
 cellsC 17 t42 h fun t43 =>
 let t9 := AV.ptr (HP.nxQ h) 0
 let h20 := HP.newQ h (.cells true [(.bool false), (.bool false), (.bool false), (.str []), (kI 0), (kI 0), .nils, (.bool false), .nils, (kI 0), .nils, .nils, (.str []), (kI 0), (kI 0), (kI 0), (kI 0)])
 stsC 17 t9 t43 h20 fun h21 =>
 let t44 := (AV.ptr (HP.nxQ h) (Nat.add 0 0))
 ldB t44 h21 fun t45 =>
 let t46 := !t45
 obB (brV t46 (
 some (vB true)) (
 let t48 := (AV.ptr (HP.nxQ h) (Nat.add 0 1))
 ldBV t48 h21 fun t49 =>
 let t50 := !t49
 some (vB t50))) fun t51 =>
 br t51 (
 let t58 := (AV.ptr (HP.nxQ h) (Nat.add 0 16))
 ldI t58 h21 fun t59 =>
 S16_4 D m g2 t1 t2 t3 t4 t38 t39 t40 true t59 h21 df) (
 faC 0 t1 fun t53 =>
 cellC t53 h21 fun t54 =>
 let t55 := (AV.fn 32 [] [t9])
 let t58 := (AV.ptr (HP.nxQ h) (Nat.add 0 16))
 ldI t58 h21 fun t59 =>
 calC D 31 [t54, t55] h21 (fun t56 h23 =>
 br (again [⟨none, .cell q58, p59⟩] (mkT [(p59, (vI t59)), (p58, t58)]) h23) (
 asB t56 fun t56a =>
 S16_4 D m g2 t1 t2 t3 t4 t38 t39 t40 t56a t59 h23 df) none) (fun ch23 gh23 => XFn.endOf x16 D (.panic ch23 ⟨(mkT [(p2, t2), (p3, t3), (p4, t4)]), gh23, df, .no⟩)))) (
 S16_1 D m t2 t3 t4 h df)
def S16_2 (D : CallD) (m : Nat) : AV → AV → AV → AV → AV → Int → Int → HP → List ADef → Res2 := nrec (fun _ _ _ _ _ _ _ _ _ => none) (fun _ g => S16_2b D m g) m
def e16_0 (k : St → Res2) (t1 t2 t3 t4 : AV) (h : HP) (df : List ADef) : Res2 := k ⟨mkT [(p1, t1), (p2, t2), (p3, t3), (p4, t4)], h, df, .no⟩
def S16_0 (D : CallD) (m : Nat) (t1 t2 t3 t4 : AV) (h : HP) (df : List ADef) : Res2 :=
 faC 0 t1 fun t37 =>
 cellC t37 h fun t38 =>
 lenC t38 fun vt39 => asI .i64 vt39 fun t39 =>
 S16_2 D m t1 t2 t3 t4 t38 t39 (Int.ofNat 0) h df
def e16_5 (k : St → Res2) (t1 t2 t3 t4 t5 t17 : AV) (t18 t19 : Int) (h : HP) (df : List ADef) : Res2 := k ⟨mkT [(p1, t1), (p2, t2), (p3, t3), (p4, t4), (p5, t5), (p17, t17), (p18, (vI t18)), (p19, (vI t19))], h, df, .no⟩
def S16_5b (D : CallD) (m : Nat) (g5 : AV → AV → AV → AV → AV → AV → Int → Int → HP → List ADef → Res2) (t1 t2 t3 t4 t5 t17 : AV) (t18 t19 : Int) (h : HP) (df : List ADef) : Res2 :=
 let t20 := ltQ t19 t18
 br t20 (
 iasC 17 t17 (vI t19) fun t22 =>
 cellsC 17 t22 h fun t23 =>
 let t7 := AV.ptr (HP.nxQ h) 0
 let h24 := HP.newQ h (.cells true [(.bool false), (.bool false), (.bool false), (.str []), (kI 0), (kI 0), .nils, (.bool false), .nils, (kI 0), .nils, .nils, (.str []), (kI 0), (kI 0), (kI 0), (kI 0)])
 stsC 17 t7 t23 h24 fun h25 =>
 faC 0 t2 fun t24 =>
 cellC t24 h25 fun t25 =>
 cellsC 17 t7 h25 fun t27 =>
 faC 0 t1 fun t28 =>
 cellC t28 h25 fun t29 =>
 obQ (evP (.slice (.sl 17) (.c t29) none (some (.c (vI t19))) none) .leaf) fun t31 =>
 calC D 29 [t5, t27, t31] h25 (fun t32 h26 =>
 br (again [⟨none, .cell q24, p25⟩] (mkT [(p25, t25), (p24, t24)]) h26) (
 obQ (evA (.bsl [(.bool false), (.bool false), (.bool false), (.str []), (kI 0), (kI 0), .nils, (.bool false), .nils, (kI 0), .nils, .nils, (.str []), (kI 0), (kI 0), (kI 0), (kI 0)] 1 [⟨0, 17, (.c t32)⟩]) .leaf) fun r27 =>
 let t33 := vkV r27.2 (HP.nxQ h26)
 let h28 := HP.newQ h26 r27.1
 eff (.app 17 200 (.c t25) (.c t33)) h28 fun t34 h29 =>
 faC 0 t2 fun t35 =>
 stoC t35 t34 h29 fun h30 =>
 let t36 := wrQ .i64 (addQ t19 (Int.ofNat 1))
 g5 t1 t2 t3 t4 t5 t17 t18 t36 h30 df) none) (fun ch26 gh26 => XFn.endOf x16 D (.panic ch26 ⟨(mkT [(p2, t2), (p3, t3), (p4, t4)]), gh26, df, .no⟩))) (
 S16_0 D m t1 t2 t3 t4 h df)
def S16_5 (D : CallD) (m : Nat) : AV → AV → AV → AV → AV → AV → Int → Int → HP → List ADef → Res2 := nrec (fun _ _ _ _ _ _ _ _ _ _ => none) (fun _ g => S16_5b D m g) m
def e16_6 (k t0 h) := kN k [(p0, t0)] h
def S16_6 (D : CallD) (m : Nat) (t0 : AV) (h : HP) : Res2 :=
 let t1 := AV.ptr (HP.nxQ h) 0
 let h7 := HP.newQ h (.cells true (AV.cells t0))
 let t2 := AV.ptr (HP.nxQ h7) 0
 let h8 := HP.newQ h7 (.cells true [.nils])
 let t3 := AV.ptr (HP.nxQ h8) 0
 let h9 := HP.newQ h8 (.cells true [(kI 0)])
 let t4 := AV.ptr (HP.nxQ h9) 0
 let h10 := HP.newQ h9 (.cells true [(kI 0)])
 let t10 := (AV.fn 27 [] [t2, t3, t4])
 let d11 : List ADef := ⟨27, [t2, t3, t4]⟩ :: []
 calC D 28 [] h10 (fun t11 h12 =>
 let t12 := AV.map (HP.nxQ h12)
 let h13 := HP.newQ h12 (.map [] 0)
 obQ (evA (.bsl [.nilm, .nilm] 2 [⟨0, 1, (.c t11)⟩, ⟨1, 1, (.c t12)⟩]) .leaf) fun r14 =>
 let t13 := vkV r14.2 (HP.nxQ h13)
 let h15 := HP.newQ h13 r14.1
 obQ (evP (.build [.nils, (kI 0), (kI 0), (kI 0)] [⟨0, 1, (.c t13)⟩]) .leaf) fun t14 =>
 let t15 := AV.ptr (HP.nxQ h15) 0
 let h16 := HP.newQ h15 (.cells true (AV.cells t14))
 let t16 := (AV.ptr (HP.nxQ h) (Nat.add 0 0))
 cellC t16 h16 fun t17 =>
 lenC t17 fun vt18 => asI .i64 vt18 fun t18 =>
 S16_5 D m t1 t2 t3 t4 t15 t17 t18 (Int.ofNat 0) h16 d11) (fun ch12 gh12 => XFn.endOf x16 D (.panic ch12 ⟨(mkT [(p2, t2), (p3, t3), (p4, t4)]), gh12, d11, .no⟩))
def S16 : SFn := fun D m args h u => nou u <| popV args fun t0 args => endA args (S16_6 D m t0 h)
theorem T16_1 (hE : FX x16 D m E) : S16_1 D m = e16_1 (E c16_1 []) := by unfold S16_1; rw [hE c16_1]; kernel_rfl
theorem T16_3 (hE : FX x16 D m E) (G2) : S16_3 D m (e16_2 G2) = e16_3 (E c16_3 [.lp v16_2 G2, .blk 2, .sj v16_1 c16_1]) := by unfold S16_3; rw [hE c16_3]; kernel_rfl
theorem T16_4 (hE : FX x16 D m E) (G2) : S16_4 D m (e16_2 G2) = e16_4 (E (.ops true l16_4) [.blk 3, .sj v16_3 c16_3, .lp v16_2 G2, .blk 2, .sj v16_1 c16_1]) := by unfold S16_4; rw [T16_3 hE G2, hE (.ops true l16_4)]; kernel_rfl
theorem T16_2b (hE : FX x16 D m E) (G2) : S16_2b D m (e16_2 G2) = e16_2 (E c16_2b [.lp v16_2 G2, .blk 2, .sj v16_1 c16_1]) := by unfold S16_2b; rw [T16_4 hE G2, T16_1 hE, hE c16_2b]; kernel_rfl
theorem T16_2 (hE : FX x16 D m E) : S16_2 D m = e16_2 (nrec (fun _ => none) (fun _ G2 st => E c16_2b [.lp v16_2 G2, .blk 2, .sj v16_1 c16_1] st) m) :=
  nrec_emb e16_2 (fun _ _ _ _ _ _ _ _ _ => none) (fun g => S16_2b D m g) (fun G2 st => E c16_2b [.lp v16_2 G2, .blk 2, .sj v16_1 c16_1] st) rfl (fun g => T16_2b hE g) m
theorem T16_0 (hE : FX x16 D m E) : S16_0 D m = e16_0 (E c16_0 []) := by unfold S16_0; rw [T16_2 hE, hE c16_0]; kernel_rfl
theorem T16_5b (hE : FX x16 D m E) (G5) : S16_5b D m (e16_5 G5) = e16_5 (E c16_5b [.lp v16_5 G5, .blk 0, .sj v16_0 c16_0]) := by unfold S16_5b; rw [T16_0 hE, hE c16_5b]; kernel_rfl
theorem T16_5 (hE : FX x16 D m E) : S16_5 D m = e16_5 (nrec (fun _ => none) (fun _ G5 st => E c16_5b [.lp v16_5 G5, .blk 0, .sj v16_0 c16_0] st) m) :=
  nrec_emb e16_5 (fun _ _ _ _ _ _ _ _ _ _ => none) (fun g => S16_5b D m g) (fun G5 st => E c16_5b [.lp v16_5 G5, .blk 0, .sj v16_0 c16_0] st) rfl (fun g => T16_5b hE g) m
theorem T16_6 (hE : FX x16 D m E) : S16_6 D m = e16_6 (E c16_e []) := by unfold S16_6; rw [T16_5 hE, hE c16_e]; kernel_rfl
theorem X16 : XTie S16 x16 := X_of fun D m E hE args h u => by unfold S16; rw [T16_6 hE]; kernel_rfl
/- 21 -/
def v21_0 : List Pos := [p0, p2, p3, p4]
def c21_0 : XC := (.sO [.ld p35 q2 .v, .mv p36 q0 .s, .P p37 (.lens q36) tI, .P p38 (.build [(kI 0), (.str []), (kI 0)] [⟨2, 1, q37⟩]) .v, .al p39 (.bsl [(kI 0), (.str []), (kI 0)] 1 [⟨0, 3, q38⟩]), .o ⟨(some p40), (.e (.app 3 32 q35 q39)), none, []⟩ .v, .st q2 q40, .st q3 (ci 0), .st q4 (ci 0)] (.s .ret))
def v21_1 : List Pos := [p0, p2, p3, p4]
def c21_1b : XC := (.seq (.seq (.oX [.ld p12 q3 tI, .mv p13 q0 .s, .P p14 (.lens q13) tI, .bn p15 .lss q12 q14 .b]) (.cond q15 .skip (.exit 0))) (.seq (.block 1 (.seq (.oX [.mv p19 q0 .s, .ld p20 q3 tI, .cl p21 37 [q19, q20] .v, .al p5 (.new [(kI 0), (.str []), (kI 0)]), .ss 3 q5 q21]) (.seq (.seq (.oX [.ld p22 q2 .v, .P p23 (.lenl q22) tI, .bn p24 .eql q23 (ci 2500) .b]) (.cond q24 (.seq (.ops true (XL.of [.ld p25 q3 tI, .o ⟨none, (.e (.store q2 (.c .nils))), none, [⟨none, .cell q3, p25⟩]⟩ .v, .st q3 q25, .st q4 (ci 5)])) .ret) .skip)) (.seq (.oX [.ld p26 q2 .v, .L p27 (.cells 3 q5) .v, .al p28 (.bsl [(kI 0), (.str []), (kI 0)] 1 [⟨0, 3, q27⟩]), .o ⟨(some p29), (.e (.app 3 32 q26 q28)), none, []⟩ .v, .st q2 q29]) (.oX [.ld p30 q3 tI, .fa p31 1 q5, .ld p32 q31 .s, .P p33 (.lens q32) tI, .bn p34 .add q30 q33 tI, .st q3 q34]))))) (.s (.oX [.mv p16 q0 .s, .ld p17 q3 tI, .cl p18 36 [q16, q17] tI, .st q3 q18]))))
def c21_e : XC := (.sO [.al p2 (.new [.nils]), .al p3 (.new [(kI 0)]), .al p4 (.new [(kI 0)])] (.seq (.seq (.oX [.mv p6 q0 .s, .P p7 (.lens q6) tI, .bn p8 .gtr q7 (ci 8192) .b]) (.cond q8 (.seq (.oX [.st q2 (.c .nils), .st q3 (ci 0), .st q4 (ci 6)]) .ret) .skip)) (.sO [.P p9 (.mkfn 35 [] [q2, q3, q4]) .v, .o ⟨none, (.defer (.val q9) []), none, []⟩ .v] (.sj v21_0 (.sO [.mv p10 q0 .s, .cl p11 36 [q10, (ci 0)] tI, .st q3 q11] (.block 0 (.loop v21_1 c21_1b))) c21_0))))
def x21 : XFn := ⟨[.s], false, [(.cell p2), (.cell p3), (.cell p4)], c21_e⟩
def e21_0 (k : St → Res2) (t0 : LN) (t2 t3 t4 : AV) (h : HP) (df : List ADef) : Res2 := k ⟨mkT [(p0, (vS t0)), (p2, t2), (p3, t3), (p4, t4)], h, df, .no⟩
def S21_0 (D : CallD) (m : Nat) (t0 : LN) (t2 t3 t4 : AV) (h : HP) (df : List ADef) : Res2 :=
 cellC t2 h fun t35 =>
 let t37 := Int.ofNat (lenL t0)
 let t38 := (AV.agg [(vI (Int.ofNat 0)), (vS ([] : LN)), (vI t37)])
 let t39 := AV.slice (HP.nxQ h) 0 1 (.exact 1)
 let h10 := HP.newQ h (.cells true [(vI (Int.ofNat 0)), (vS ([] : LN)), (vI t37)])
 eff (.app 3 32 (.c t35) (.c t39)) h10 fun t40 h11 =>
 stoC t2 t40 h11 fun h12 =>
 stoC t3 (vI (Int.ofNat 0)) h12 fun h13 =>
 stoC t4 (vI (Int.ofNat 0)) h13 fun h14 =>
 XFn.endOf x21 D (.ret ⟨(mkT [(p2, t2), (p3, t3), (p4, t4)]), h14, df, .no⟩)
def e21_1 (k : St → Res2) (t0 : LN) (t2 t3 t4 : AV) (h : HP) (df : List ADef) : Res2 := k ⟨mkT [(p0, (vS t0)), (p2, t2), (p3, t3), (p4, t4)], h, df, .no⟩
def S21_1b (D : CallD) (m : Nat) (g1 : LN → AV → AV → AV → HP → List ADef → Res2) (t0 : LN) (t2 t3 t4 : AV) (h : HP) (df : List ADef) : Res2 :=
 ldI t3 h fun t12 =>
 let t14 := Int.ofNat (lenL t0)
 let t15 := ltQ t12 t14
 br t15 (
 ldI t3 h fun t20 =>
 calC D 37 [(vS t0), (vI t20)] h (fun t21 h17 =>
 let t5 := AV.ptr (HP.nxQ h17) 0
 let h18 := HP.newQ h17 (.cells true [(kI 0), (.str []), (kI 0)])
 stsC 3 t5 t21 h18 fun h19 =>
 cellC t2 h19 fun t22 =>
 lenC t22 fun vt23 => asI .i64 vt23 fun t23 =>
 let t24 := eqQ t23 (Int.ofNat 2500)
 br t24 (
 ldI t3 h19 fun t25 =>
 stoC t2 (.nils : AV) h19 fun h20 =>
 br (againE (.store q2 (.c .nils)) [⟨none, .cell q3, p25⟩] (mkT [(p2, t2), (p25, (vI t25)), (p3, t3)]) h20) (
 stoC t3 (vI t25) h20 fun h21 =>
 stoC t4 (vI (Int.ofNat 5)) h21 fun h22 =>
 XFn.endOf x21 D (.ret ⟨(mkT [(p2, t2), (p3, t3), (p4, t4)]), h22, df, .no⟩)) none) (
 cellC t2 h19 fun t26 =>
 cellsC 3 t5 h19 fun t27 =>
 obQ (evA (.bsl [(kI 0), (.str []), (kI 0)] 1 [⟨0, 3, (.c t27)⟩]) .leaf) fun r23 =>
 let t28 := vkV r23.2 (HP.nxQ h19)
 let h24 := HP.newQ h19 r23.1
 eff (.app 3 32 (.c t26) (.c t28)) h24 fun t29 h25 =>
 stoC t2 t29 h25 fun h26 =>
 ldI t3 h26 fun t30 =>
 let t31 := (AV.ptr (HP.nxQ h17) (Nat.add 0 1))
 ldS t31 h26 fun t32 =>
 let t33 := Int.ofNat (lenL t32)
 let t34 := wrQ .i64 (addQ t30 t33)
 stoC t3 (vI t34) h26 fun h27 =>
 ldI t3 h27 fun t17 =>
 calC D 36 [(vS t0), (vI t17)] h27 (fun t18 h28 =>
 asI .i64 t18 fun t18a =>
 stoC t3 (vI t18a) h28 fun h29 =>
 g1 t0 t2 t3 t4 h29 df) (fun ch28 gh28 => XFn.endOf x21 D (.panic ch28 ⟨(mkT [(p2, t2), (p3, t3), (p4, t4)]), gh28, df, .no⟩)))) (fun ch17 gh17 => XFn.endOf x21 D (.panic ch17 ⟨(mkT [(p2, t2), (p3, t3), (p4, t4)]), gh17, df, .no⟩))) (
 S21_0 D m t0 t2 t3 t4 h df)
def S21_1 (D : CallD) (m : Nat) : LN → AV → AV → AV → HP → List ADef → Res2 := nrec (fun _ _ _ _ _ _ => none) (fun _ g => S21_1b D m g) m
def e21_2 (k t0 h) := kN k [(p0, (vS t0))] h
def S21_2 (D : CallD) (m : Nat) (t0 : LN) (h : HP) : Res2 :=
 let t2 := AV.ptr (HP.nxQ h) 0
 let h3 := HP.newQ h (.cells true [.nils])
 let t3 := AV.ptr (HP.nxQ h3) 0
 let h4 := HP.newQ h3 (.cells true [(kI 0)])
 let t4 := AV.ptr (HP.nxQ h4) 0
 let h5 := HP.newQ h4 (.cells true [(kI 0)])
 let t7 := Int.ofNat (lenL t0)
 let t8 := ltQ (Int.ofNat 8192) t7
 br t8 (
 stoC t2 (.nils : AV) h5 fun h6 =>
 stoC t3 (vI (Int.ofNat 0)) h6 fun h7 =>
 stoC t4 (vI (Int.ofNat 6)) h7 fun h8 =>
 XFn.endOf x21 D (.ret ⟨(mkT [(p2, t2), (p3, t3), (p4, t4)]), h8, [], .no⟩)) (
 let t9 := (AV.fn 35 [] [t2, t3, t4])
 let d9 : List ADef := ⟨35, [t2, t3, t4]⟩ :: []
 calC D 36 [(vS t0), (vI (Int.ofNat 0))] h5 (fun t11 h15 =>
 asI .i64 t11 fun t11a =>
 stoC t3 (vI t11a) h15 fun h16 =>
 S21_1 D m t0 t2 t3 t4 h16 d9) (fun ch15 gh15 => XFn.endOf x21 D (.panic ch15 ⟨(mkT [(p2, t2), (p3, t3), (p4, t4)]), gh15, d9, .no⟩)))
def S21 : SFn := fun D m args h u => nou u <| popS args fun t0 args => endA args (S21_2 D m t0 h)
theorem T21_0 (hE : FX x21 D m E) : S21_0 D m = e21_0 (E c21_0 []) := by unfold S21_0; rw [hE c21_0]; kernel_rfl
theorem T21_1b (hE : FX x21 D m E) (G1) : S21_1b D m (e21_1 G1) = e21_1 (E c21_1b [.lp v21_1 G1, .blk 0, .sj v21_0 c21_0]) := by unfold S21_1b; rw [T21_0 hE, hE c21_1b]; kernel_rfl
theorem T21_1 (hE : FX x21 D m E) : S21_1 D m = e21_1 (nrec (fun _ => none) (fun _ G1 st => E c21_1b [.lp v21_1 G1, .blk 0, .sj v21_0 c21_0] st) m) :=
  nrec_emb e21_1 (fun _ _ _ _ _ _ => none) (fun g => S21_1b D m g) (fun G1 st => E c21_1b [.lp v21_1 G1, .blk 0, .sj v21_0 c21_0] st) rfl (fun g => T21_1b hE g) m
theorem T21_2 (hE : FX x21 D m E) : S21_2 D m = e21_2 (E c21_e []) := by unfold S21_2; rw [T21_1 hE, hE c21_e]; kernel_rfl
theorem X21 : XTie S21 x21 := X_of fun D m E hE args h u => by unfold S21; rw [T21_2 hE]; kernel_rfl
/- 22 -/
def c22_e : XC := (.sO [.o ⟨(some p6), .recover, none, []⟩ .v, .P p7 (.tassert 65 (.agg [(kI 0), (kI 0)]) true q6) .v, .mv p5 q7 .v, .P p8 (.ext q5 0) .v, .P p9 (.ext q5 1) .b, .al p3 (.new [(kI 0), (kI 0)]), .ss 2 q3 q8, .mv p4 q9 .b] (.sO [.mv p10 q4 .b] (.cond q10 (.s (.ops true (XL.of [.P p11 (.build [.nils] []) .v, .fa p12 0 q3, .ld p13 q12 tI, .fa p14 1 q3, .ld p15 q14 tI, .o ⟨none, (.e (.stores 1 q0 q11)), none, [⟨none, .cell q12, p13⟩, ⟨none, .cell q14, p15⟩]⟩ .v, .o ⟨none, (.e (.store q1 q13)), none, [⟨none, .cell q14, p15⟩]⟩ .v, .st q2 q15]))) (.s .skip))))
def x22 : XFn := ⟨[.v, .v, .v], true, [], c22_e⟩
def e22_0 (k : St → Res2) (t0 t1 t2 : AV) (h : HP) (u : AMode) : Res2 := k ⟨mkT [(p0, t0), (p1, t1), (p2, t2)], h, [], u⟩
def S22_0 (D : CallD) (m : Nat) (t0 t1 t2 : AV) (h : HP) (u : AMode) : Res2 :=
 recC u fun t6 u1 =>
 obQ (evP (.tassert 65 (.agg [(kI 0), (kI 0)]) true (.c t6)) .leaf) fun t7 =>
 extC t7 0 fun t8 =>
 extC t7 1 fun vt9 => asB vt9 fun t9 =>
 let t3 := AV.ptr (HP.nxQ h) 0
 let h2 := HP.newQ h (.cells true [(kI 0), (kI 0)])
 stsC 2 t3 t8 h2 fun h3 =>
 br t9 (
 let t11 := (AV.agg [(.nils : AV)])
 let t12 := (AV.ptr (HP.nxQ h) (Nat.add 0 0))
 ldI t12 h3 fun t13 =>
 let t14 := (AV.ptr (HP.nxQ h) (Nat.add 0 1))
 ldI t14 h3 fun t15 =>
 stsC 1 t0 t11 h3 fun h4 =>
 br (againE (.stores 1 q0 q11) [⟨none, .cell q12, p13⟩, ⟨none, .cell q14, p15⟩] (mkT [(p0, t0), (p15, (vI t15)), (p14, t14), (p13, (vI t13)), (p12, t12)]) h4) (
 stoC t1 (vI t13) h4 fun h5 =>
 br (againE (.store q1 q13) [⟨none, .cell q14, p15⟩] (mkT [(p1, t1), (p15, (vI t15)), (p14, t14)]) h5) (
 stoC t2 (vI t15) h5 fun h6 =>
 some (.ret (.tup []) h6, u1)) none) none) (
 some (.ret (.tup []) h3, u1))
def S22 : SFn := fun D m args h u => popV args fun t0 args => popV args fun t1 args => popV args fun t2 args => endA args (S22_0 D m t0 t1 t2 h u)
theorem T22_0 (hE : FX x22 D m E) : S22_0 D m = e22_0 (E c22_e []) := by unfold S22_0; rw [hE c22_e]; kernel_rfl
theorem X22 : XTie S22 x22 := X_of fun D m E hE args h u => by unfold S22; rw [T22_0 hE]; kernel_rfl
/- 23 -/
def c23_e : XC := (.sO [.al p2 (.new [(kI 0), (.str []), (kI 0)])] (.seq (.ops true (XL.of [.mv p3 q0 .v, .P p4 (.nilck q3) .v, .fa p5 0 q4, .ld p6 q5 .v, .mv p7 q0 .v, .P p8 (.nilck q7) .v, .fa p9 1 q8, .ld p10 q9 tI, .P p11 (.iaddr (.sl 3) q6 q10) .v, .L p12 (.cells 3 q11) .v, .ss 3 q2 q12])) (.s .ret)))
def x23 : XFn := ⟨[.v], false, [(.cells 3 p2)], c23_e⟩
def e23_0 (k t0 h) := kN k [(p0, t0)] h
def S23_0 (D : CallD) (m : Nat) (t0 : AV) (h : HP) : Res2 :=
 let t2 := AV.ptr (HP.nxQ h) 0
 let h1 := HP.newQ h (.cells true [(kI 0), (.str []), (kI 0)])
 nilckC t0 fun t4 =>
 faC 0 t4 fun t5 =>
 cellC t5 h1 fun t6 =>
 nilckC t0 fun t8 =>
 faC 1 t8 fun t9 =>
 ldI t9 h1 fun t10 =>
 iasC 3 t6 (vI t10) fun t11 =>
 cellsC 3 t11 h1 fun t12 =>
 stsC 3 t2 t12 h1 fun h2 =>
 cellsC 3 t2 h2 fun t2a =>
 some (.ret t2a h2, .no)
def S23 : SFn := fun D m args h u => nou u <| popV args fun t0 args => endA args (S23_0 D m t0 h)
theorem T23_0 (hE : FX x23 D m E) : S23_0 D m = e23_0 (E c23_e []) := by unfold S23_0; rw [hE c23_e]; kernel_rfl
theorem X23 : XTie S23 x23 := X_of fun D m E hE args h u => by unfold S23; rw [T23_0 hE]; kernel_rfl
/- 24 -/
def v24_2 : List Pos := [p0, p2, p3]
def c24_2 : XC := (.sO [.mv p81 q0 .v, .cl p82 44 [q81, (.c (.str [59]))] .v] (.sO [.L p83 (.cells 17 q3) .v, .ss 17 q2 q83] (.s .ret)))
def v24_4 : List Pos := [p0, p2, p3]
def c24_4 : XC := (.sO [.fa p76 5 q3, .ld p77 q76 tI, .bn p78 .gtr q77 (ci 0) .b] (.cond q78 (.s (.oX [.mv p79 q0 .v, .cl p80 44 [q79, (.c (.str [125]))] .v])) (.s .skip)))
def v24_6 : List Pos := [p0, p2, p3]
def c24_6 : XC := (.block 1 (.s (.ops true (XL.of [.fa p67 6 q3, .ld p68 q67 .v, .mv p69 q0 .v, .P p71 (.lenl q68) tI, .al p72 (.bsl [(kI 0), (.str []), (.str []), (.int .u32 (.ofNat 0)), (.int .u64 (.ofNat 0)), .nils, (kI 0), (kI 0)] 1 [⟨0, 8, (.c (.agg [(kI 0), (.str []), (.str []), (.int .u32 (.ofNat 0)), (.int .u64 (.ofNat 0)), .nils, (kI 0), (kI 0)]))⟩]), .o ⟨(some p70), (.call (.fn 46) [q69]), none, [⟨none, .cell q67, p68⟩]⟩ .v, .o ⟨(some p73), (.e (.app 8 96 q68 q72)), none, []⟩ .v, .P p74 (.iaddr (.sl 8) q73 q71) .v, .fa p75 6 q3, .o ⟨none, (.e (.st2 (some 8) none q74 q70 q75 q73)), none, []⟩ .v]))))
def c24_8 : XC := (.cond q66 (.s .skip) (.s (.exit 0)))
def l24_7 : XL := (XL.of [])
def v24_5 : List Pos := [p0, p2, p3]
def c24_5b : XC := (.sj v24_6 (.opq false (XL.pre [.fa p60 5 q3, .ld p61 q60 tI, .bn p62 .gtr q61 (ci 0) .b, .mv p63 q62 .b, .sp p63, .G p63 true p64 (.mov q0) .v, .o ⟨(some p65), (.call (.fn 38) [q64, (.c (.str [44]))]), (some (p63, true)), []⟩ .b, .P p66 (.pick q63 q65 (cb false)) .b, .jn p63 [p0, p2, p3, p66]] l24_7) c24_8) c24_6)
def v24_3 : List Pos := [p0, p2, p3]
def c24_3 : XC := (.seq (.ops true (XL.of [.fa p51 6 q3, .ld p52 q51 .v, .mv p53 q0 .v, .P p55 (.lenl q52) tI, .al p56 (.bsl [(kI 0), (.str []), (.str []), (.int .u32 (.ofNat 0)), (.int .u64 (.ofNat 0)), .nils, (kI 0), (kI 0)] 1 [⟨0, 8, (.c (.agg [(kI 0), (.str []), (.str []), (.int .u32 (.ofNat 0)), (.int .u64 (.ofNat 0)), .nils, (kI 0), (kI 0)]))⟩]), .o ⟨(some p54), (.call (.fn 46) [q53]), none, [⟨none, .cell q51, p52⟩]⟩ .v, .o ⟨(some p57), (.e (.app 8 96 q52 q56)), none, []⟩ .v, .P p58 (.iaddr (.sl 8) q57 q55) .v, .fa p59 6 q3, .o ⟨none, (.e (.st2 (some 8) none q58 q54 q59 q57)), none, []⟩ .v])) (.sj v24_4 (.block 0 (.loop v24_5 c24_5b)) c24_4))
def v24_1 : List Pos := [p0, p2, p3]
def c24_1 : XC := (.sO [.mv p38 q0 .v, .cl p39 45 [q38] tI, .fa p40 5 q3, .st q40 q39] (.sj v24_2 (.sO [.mv p41 q0 .v, .cl p42 38 [q41, (.c (.str [61]))] .b, .fa p43 7 q3, .st q43 q42] (.sO [.fa p44 7 q3, .ld p45 q44 .b] (.cond q45 (.sj v24_3 (.sO [.fa p46 5 q3, .ld p47 q46 tI, .bn p48 .gtr q47 (ci 0) .b] (.cond q48 (.s (.oX [.mv p49 q0 .v, .cl p50 44 [q49, (.c (.str [123]))] .v])) (.s .skip))) c24_3) (.s .skip)))) c24_2))
def v24_9 : List Pos := [p2, p3]
def c24_9 : XC := (.sO [.L p37 (.cells 17 q3) .v, .ss 17 q2 q37] (.s .ret))
def v24_0 : List Pos := [p0, p2, p3]
def c24_0 : XC := (.sO [.mv p13 q0 .v, .cl p14 23 [q13] .v, .P p15 (.field 2 1 false q14) tI, .fa p16 16 q3, .st q16 q15] (.sO [.mv p17 q0 .v, .cl p18 39 [q17] tI, .fa p19 4 q3, .st q19 q18] (.sO [.mv p20 q0 .v, .cl p21 40 [q20, (ci 1)] .s, .fa p22 3 q3, .st q22 q21] (.sj v24_1 (.sO [.mv p23 q0 .v, .cl p24 38 [q23, (.c (.str [40]))] .b] (.cond q24 (.sO [.fa p25 0 q3, .st q25 (cb true)] (.sO [.mv p26 q0 .v, .cl p27 41 [q26, q3] .v] (.sj v24_9 (.sO [.mv p28 q0 .v, .al p29 (.bsl [(.str [])] 1 [⟨0, 1, (.c (.str [123]))⟩]), .cl p30 42 [q28, q29] .b] (.cond q30 (.sO [.fa p31 7 q3, .st q31 (cb true)] (.s (.oX [.mv p32 q0 .v, .cl p33 43 [q32] .v, .fa p34 9 q3, .ss 7 q34 q33]))) (.s (.oX [.mv p35 q0 .v, .cl p36 44 [q35, (.c (.str [59]))] .v])))) c24_9))) (.s .skip))) c24_1))))
def c24_e : XC := (.sO [.al p2 (.new [(.bool false), (.bool false), (.bool false), (.str []), (kI 0), (kI 0), .nils, (.bool false), .nils, (kI 0), .nils, .nils, (.str []), (kI 0), (kI 0), (kI 0), (kI 0)])] (.sO [.al p3 (.new [(.bool false), (.bool false), (.bool false), (.str []), (kI 0), (kI 0), .nils, (.bool false), .nils, (kI 0), .nils, .nils, (.str []), (kI 0), (kI 0), (kI 0), (kI 0)])] (.sj v24_0 (.sO [.mv p4 q0 .v, .cl p5 38 [q4, (.c (.str [115, 116, 97, 116, 105, 99]))] .b, .fa p6 1 q3, .st q6 q5] (.sO [.fa p7 1 q3, .ld p8 q7 .b, .P p9 (.un .not q8) .b] (.cond q9 (.s (.oX [.mv p10 q0 .v, .cl p11 38 [q10, (.c (.str [101, 120, 116, 101, 114, 110]))] .b, .fa p12 2 q3, .st q12 q11])) (.s .skip)))) c24_0)))
def x24 : XFn := ⟨[.v], false, [(.cells 17 p2)], c24_e⟩
def e24_2 (k t0 t2 t3 h) := kN k [(p0, t0), (p2, t2), (p3, t3)] h
def S24_2 (D : CallD) (m : Nat) (t0 t2 t3 : AV) (h : HP) : Res2 :=
 cal D 44 [t0, (vS ([59] : LN))] h fun t82 h21 =>
 cellsC 17 t3 h21 fun t83 =>
 stsC 17 t2 t83 h21 fun h22 =>
 cellsC 17 t2 h22 fun t2a =>
 some (.ret t2a h22, .no)
def e24_4 (k t0 t2 t3 h) := kN k [(p0, t0), (p2, t2), (p3, t3)] h
def S24_4 (D : CallD) (m : Nat) (t0 t2 t3 : AV) (h : HP) : Res2 :=
 faC 5 t3 fun t76 =>
 ldI t76 h fun t77 =>
 let t78 := ltQ (Int.ofNat 0) t77
 br t78 (
 cal D 44 [t0, (vS ([125] : LN))] h fun t80 h29 =>
 S24_2 D m t0 t2 t3 h29) (
 S24_2 D m t0 t2 t3 h)
def e24_6 (k t0 t2 t3 h) := kN k [(p0, t0), (p2, t2), (p3, t3)] h
def S24_6 (D : CallD) (m : Nat) (g5 : AV → AV → AV → HP → Res2) (t0 t2 t3 : AV) (h : HP) : Res2 :=
 faC 6 t3 fun t67 =>
 cellC t67 h fun t68 =>
 lenC t68 fun vt71 => asI .i64 vt71 fun t71 =>
 let t72 := AV.slice (HP.nxQ h) 0 1 (.exact 1)
 let h30 := HP.newQ h (.cells true [(vI (Int.ofNat 0)), (vS ([] : LN)), (vS ([] : LN)), (vW (Int.ofNat 0)), (AV.int .u64 (Int.ofNat 0)), (.nils : AV), (vI (Int.ofNat 0)), (vI (Int.ofNat 0))])
 cal D 46 [t0] h30 fun t70 h31 =>
 br (again [⟨none, .cell q67, p68⟩] (mkT [(p68, t68), (p67, t67)]) h31) (
 eff (.app 8 96 (.c t68) (.c t72)) h31 fun t73 h32 =>
 iasC 8 t73 (vI t71) fun t74 =>
 faC 6 t3 fun t75 =>
 eff (.st2 (some 8) none (.c t74) (.c t70) (.c t75) (.c t73)) h32 fun t0a h33 =>
 g5 t0 t2 t3 h33) none
def e24_7 (k t0 t2 t3 t66 h) := kN k [(p0, t0), (p2, t2), (p3, t3), (p66, (vB t66))] h
def S24_7 (D : CallD) (m : Nat) (g5 : AV → AV → AV → HP → Res2) (t0 t2 t3 : AV) (t66 : Bool) (h : HP) : Res2 :=
 br t66 (
 S24_6 D m g5 t0 t2 t3 h) (
 S24_4 D m t0 t2 t3 h)
def e24_5 (k t0 t2 t3 h) := kN k [(p0, t0), (p2, t2), (p3, t3)] h
def S24_5b (D : CallD) (m : Nat) (g5 : AV → AV → AV → HP → Res2) (t0 t2 t3 : AV) (h : HP) : Res2 :=
 faC 5 t3 fun t60 =>
 ldI t60 h fun t61 =>
 let t62 := ltQ (Int.ofNat 0) t61
 br t62 (
 cal D 38 [t0, (vS ([44] : LN))] h fun t65 h34 =>
 asB t65 fun t65a =>
 S24_7 D m g5 t0 t2 t3 t65a h34) (
 S24_7 D m g5 t0 t2 t3 false h)
def S24_5 (D : CallD) (m : Nat) : AV → AV → AV → HP → Res2 := nrec (fun _ _ _ _ => none) (fun _ g => S24_5b D m g) m
def e24_3 (k t0 t2 t3 h) := kN k [(p0, t0), (p2, t2), (p3, t3)] h
def S24_3 (D : CallD) (m : Nat) (t0 t2 t3 : AV) (h : HP) : Res2 :=
 faC 6 t3 fun t51 =>
 cellC t51 h fun t52 =>
 lenC t52 fun vt55 => asI .i64 vt55 fun t55 =>
 let t56 := AV.slice (HP.nxQ h) 0 1 (.exact 1)
 let h25 := HP.newQ h (.cells true [(vI (Int.ofNat 0)), (vS ([] : LN)), (vS ([] : LN)), (vW (Int.ofNat 0)), (AV.int .u64 (Int.ofNat 0)), (.nils : AV), (vI (Int.ofNat 0)), (vI (Int.ofNat 0))])
 cal D 46 [t0] h25 fun t54 h26 =>
 br (again [⟨none, .cell q51, p52⟩] (mkT [(p52, t52), (p51, t51)]) h26) (
 eff (.app 8 96 (.c t52) (.c t56)) h26 fun t57 h27 =>
 iasC 8 t57 (vI t55) fun t58 =>
 faC 6 t3 fun t59 =>
 eff (.st2 (some 8) none (.c t58) (.c t54) (.c t59) (.c t57)) h27 fun t0a h28 =>
 S24_5 D m t0 t2 t3 h28) none
def e24_1 (k t0 t2 t3 h) := kN k [(p0, t0), (p2, t2), (p3, t3)] h
def S24_1 (D : CallD) (m : Nat) (t0 t2 t3 : AV) (h : HP) : Res2 :=
 cal D 45 [t0] h fun t39 h19 =>
 asI .i64 t39 fun t39a =>
 faC 5 t3 fun t40 =>
 stoC t40 (vI t39a) h19 fun h20 =>
 cal D 38 [t0, (vS ([61] : LN))] h20 fun t42 h23 =>
 asB t42 fun t42a =>
 faC 7 t3 fun t43 =>
 stoC t43 (vB t42a) h23 fun h24 =>
 faC 7 t3 fun t44 =>
 ldB t44 h24 fun t45 =>
 br t45 (
 faC 5 t3 fun t46 =>
 ldI t46 h24 fun t47 =>
 let t48 := ltQ (Int.ofNat 0) t47
 br t48 (
 cal D 44 [t0, (vS ([123] : LN))] h24 fun t50 h35 =>
 S24_3 D m t0 t2 t3 h35) (
 S24_3 D m t0 t2 t3 h24)) (
 S24_2 D m t0 t2 t3 h24)
def e24_9 (k t2 t3 h) := kN k [(p2, t2), (p3, t3)] h
def S24_9 (D : CallD) (m : Nat) (t2 t3 : AV) (h : HP) : Res2 :=
 cellsC 17 t3 h fun t37 =>
 stsC 17 t2 t37 h fun h39 =>
 cellsC 17 t2 h39 fun t2a =>
 some (.ret t2a h39, .no)
def e24_0 (k t0 t2 t3 h) := kN k [(p0, t0), (p2, t2), (p3, t3)] h
def S24_0 (D : CallD) (m : Nat) (t0 t2 t3 : AV) (h : HP) : Res2 :=
 cal D 23 [t0] h fun t14 h13 =>
 fldC 2 1 false t14 fun vt15 => asI .i64 vt15 fun t15 =>
 faC 16 t3 fun t16 =>
 stoC t16 (vI t15) h13 fun h14 =>
 cal D 39 [t0] h14 fun t18 h15 =>
 asI .i64 t18 fun t18a =>
 faC 4 t3 fun t19 =>
 stoC t19 (vI t18a) h15 fun h16 =>
 cal D 40 [t0, (vI (Int.ofNat 1))] h16 fun t21 h17 =>
 asS t21 fun t21a =>
 faC 3 t3 fun t22 =>
 stoC t22 (vS t21a) h17 fun h18 =>
 cal D 38 [t0, (vS ([40] : LN))] h18 fun t24 h36 =>
 asB t24 fun t24a =>
 br t24a (
 faC 0 t3 fun t25 =>
 stoC t25 (vB true) h36 fun h37 =>
 cal D 41 [t0, t3] h37 fun t27 h38 =>
 let t29 := AV.slice (HP.nxQ h38) 0 1 (.exact 1)
 let h40 := HP.newQ h38 (.cells true [(vS ([123] : LN))])
 cal D 42 [t0, t29] h40 fun t30 h41 =>
 asB t30 fun t30a =>
 br t30a (
 faC 7 t3 fun t31 =>
 stoC t31 (vB true) h41 fun h42 =>
 cal D 43 [t0] h42 fun t33 h43 =>
 faC 9 t3 fun t34 =>
 stsC 7 t34 t33 h43 fun h44 =>
 S24_9 D m t2 t3 h44) (
 cal D 44 [t0, (vS ([59] : LN))] h41 fun t36 h45 =>
 S24_9 D m t2 t3 h45)) (
 S24_1 D m t0 t2 t3 h36)
def e24_10 (k t0 h) := kN k [(p0, t0)] h
def S24_10 (D : CallD) (m : Nat) (t0 : AV) (h : HP) : Res2 :=
 let t2 := AV.ptr (HP.nxQ h) 0
 let h11 := HP.newQ h (.cells true [(.bool false), (.bool false), (.bool false), (.str []), (kI 0), (kI 0), .nils, (.bool false), .nils, (kI 0), .nils, .nils, (.str []), (kI 0), (kI 0), (kI 0), (kI 0)])
 let t3 := AV.ptr (HP.nxQ h11) 0
 let h12 := HP.newQ h11 (.cells true [(.bool false), (.bool false), (.bool false), (.str []), (kI 0), (kI 0), .nils, (.bool false), .nils, (kI 0), .nils, .nils, (.str []), (kI 0), (kI 0), (kI 0), (kI 0)])
 cal D 38 [t0, (vS ([115, 116, 97, 116, 105, 99] : LN))] h12 fun t5 h46 =>
 asB t5 fun t5a =>
 let t6 := (AV.ptr (HP.nxQ h11) (Nat.add 0 1))
 stoC t6 (vB t5a) h46 fun h47 =>
 let t7 := (AV.ptr (HP.nxQ h11) (Nat.add 0 1))
 ldB t7 h47 fun t8 =>
 let t9 := !t8
 br t9 (
 cal D 38 [t0, (vS ([101, 120, 116, 101, 114, 110] : LN))] h47 fun t11 h48 =>
 asB t11 fun t11a =>
 let t12 := (AV.ptr (HP.nxQ h11) (Nat.add 0 2))
 stoC t12 (vB t11a) h48 fun h49 =>
 S24_0 D m t0 t2 t3 h49) (
 S24_0 D m t0 t2 t3 h47)
def S24 : SFn := fun D m args h u => nou u <| popV args fun t0 args => endA args (S24_10 D m t0 h)
theorem T24_2 (hE : FX x24 D m E) : S24_2 D m = e24_2 (E c24_2 []) := by unfold S24_2; rw [hE c24_2]; kernel_rfl
theorem T24_4 (hE : FX x24 D m E) : S24_4 D m = e24_4 (E c24_4 [.sj v24_2 c24_2]) := by unfold S24_4; rw [T24_2 hE, hE c24_4]; kernel_rfl
theorem T24_6 (hE : FX x24 D m E) (G5) : S24_6 D m (e24_5 G5) = e24_6 (E c24_6 [.lp v24_5 G5, .blk 0, .sj v24_4 c24_4, .sj v24_2 c24_2]) := by unfold S24_6; rw [hE c24_6]; kernel_rfl
theorem T24_7 (hE : FX x24 D m E) (G5) : S24_7 D m (e24_5 G5) = e24_7 (E (.opq false l24_7 c24_8) [.sj v24_6 c24_6, .lp v24_5 G5, .blk 0, .sj v24_4 c24_4, .sj v24_2 c24_2]) := by unfold S24_7; rw [T24_6 hE G5, T24_4 hE, hE (.opq false l24_7 c24_8)]; kernel_rfl
theorem T24_5b (hE : FX x24 D m E) (G5) : S24_5b D m (e24_5 G5) = e24_5 (E c24_5b [.lp v24_5 G5, .blk 0, .sj v24_4 c24_4, .sj v24_2 c24_2]) := by unfold S24_5b; rw [T24_7 hE G5, hE c24_5b]; kernel_rfl
theorem T24_5 (hE : FX x24 D m E) : S24_5 D m = e24_5 (nrec (fun _ => none) (fun _ G5 st => E c24_5b [.lp v24_5 G5, .blk 0, .sj v24_4 c24_4, .sj v24_2 c24_2] st) m) :=
  nrec_emb e24_5 (fun _ _ _ _ => none) (fun g => S24_5b D m g) (fun G5 st => E c24_5b [.lp v24_5 G5, .blk 0, .sj v24_4 c24_4, .sj v24_2 c24_2] st) rfl (fun g => T24_5b hE g) m
theorem T24_3 (hE : FX x24 D m E) : S24_3 D m = e24_3 (E c24_3 [.sj v24_2 c24_2]) := by unfold S24_3; rw [T24_5 hE, hE c24_3]; kernel_rfl
theorem T24_1 (hE : FX x24 D m E) : S24_1 D m = e24_1 (E c24_1 []) := by unfold S24_1; rw [T24_3 hE, T24_2 hE, hE c24_1]; kernel_rfl
theorem T24_9 (hE : FX x24 D m E) : S24_9 D m = e24_9 (E c24_9 [.sj v24_1 c24_1]) := by unfold S24_9; rw [hE c24_9]; kernel_rfl
theorem T24_0 (hE : FX x24 D m E) : S24_0 D m = e24_0 (E c24_0 []) := by unfold S24_0; rw [T24_9 hE, T24_1 hE, hE c24_0]; kernel_rfl
theorem T24_10 (hE : FX x24 D m E) : S24_10 D m = e24_10 (E c24_e []) := by unfold S24_10; rw [T24_0 hE, hE c24_e]; kernel_rfl
theorem X24 : XTie S24 x24 := X_of fun D m E hE args h u => by unfold S24; rw [T24_10 hE]; kernel_rfl
/- 27 -/
def c27_e : XC := (.sO [.o ⟨(some p6), .recover, none, []⟩ .v, .P p7 (.tassert 82 (.agg [(kI 0), (kI 0)]) true q6) .v, .mv p5 q7 .v, .P p8 (.ext q5 0) .v, .P p9 (.ext q5 1) .b, .al p3 (.new [(kI 0), (kI 0)]), .ss 2 q3 q8, .mv p4 q9 .b] (.sO [.mv p10 q4 .b] (.cond q10 (.s (.ops true (XL.of [.P p11 (.build [.nils] []) .v, .fa p12 0 q3, .ld p13 q12 tI, .fa p14 1 q3, .ld p15 q14 tI, .o ⟨none, (.e (.stores 1 q0 q11)), none, [⟨none, .cell q12, p13⟩, ⟨none, .cell q14, p15⟩]⟩ .v, .o ⟨none, (.e (.store q1 q13)), none, [⟨none, .cell q14, p15⟩]⟩ .v, .st q2 q15]))) (.s .skip))))
def x27 : XFn := ⟨[.v, .v, .v], true, [], c27_e⟩
def e27_0 (k : St → Res2) (t0 t1 t2 : AV) (h : HP) (u : AMode) : Res2 := k ⟨mkT [(p0, t0), (p1, t1), (p2, t2)], h, [], u⟩
def S27_0 (D : CallD) (m : Nat) (t0 t1 t2 : AV) (h : HP) (u : AMode) : Res2 :=
 recC u fun t6 u1 =>
 obQ (evP (.tassert 82 (.agg [(kI 0), (kI 0)]) true (.c t6)) .leaf) fun t7 =>
 extC t7 0 fun t8 =>
 extC t7 1 fun vt9 => asB vt9 fun t9 =>
 let t3 := AV.ptr (HP.nxQ h) 0
 let h2 := HP.newQ h (.cells true [(kI 0), (kI 0)])
 stsC 2 t3 t8 h2 fun h3 =>
 br t9 (
 let t11 := (AV.agg [(.nils : AV)])
 let t12 := (AV.ptr (HP.nxQ h) (Nat.add 0 0))
 ldI t12 h3 fun t13 =>
 let t14 := (AV.ptr (HP.nxQ h) (Nat.add 0 1))
 ldI t14 h3 fun t15 =>
 stsC 1 t0 t11 h3 fun h4 =>
 br (againE (.stores 1 q0 q11) [⟨none, .cell q12, p13⟩, ⟨none, .cell q14, p15⟩] (mkT [(p0, t0), (p15, (vI t15)), (p14, t14), (p13, (vI t13)), (p12, t12)]) h4) (
 stoC t1 (vI t13) h4 fun h5 =>
 br (againE (.store q1 q13) [⟨none, .cell q14, p15⟩] (mkT [(p1, t1), (p15, (vI t15)), (p14, t14)]) h5) (
 stoC t2 (vI t15) h5 fun h6 =>
 some (.ret (.tup []) h6, u1)) none) none) (
 some (.ret (.tup []) h3, u1))
def S27 : SFn := fun D m args h u => popV args fun t0 args => popV args fun t1 args => popV args fun t2 args => endA args (S27_0 D m t0 t1 t2 h u)
theorem T27_0 (hE : FX x27 D m E) : S27_0 D m = e27_0 (E c27_e []) := by unfold S27_0; rw [hE c27_e]; kernel_rfl
theorem X27 : XTie S27 x27 := X_of fun D m E hE args h u => by unfold S27; rw [T27_0 hE]; kernel_rfl
/- 28 -/
def c28_e : XC := (.sO [.mv p0 (.c .nilm) .v] (.sO [.al p1 (.mkmap), .P p2 (.build [(.str []), (kI 0), (kI 0)] [⟨1, 1, (ci 1)⟩]) .v, .al p3 (.bsl [(.str []), (kI 0), (kI 0)] 1 [⟨0, 3, q2⟩]), .P p4 (.build [(.bool false), (.bool false), (.bool false), (.str []), (kI 0), (kI 0), .nils, (.bool false), .nils, (kI 0), .nils, .nils, (.str []), (kI 0), (kI 0), (kI 0), (kI 0)] [⟨0, 1, (cb true)⟩, ⟨3, 1, (.c (.str [112, 117, 116, 119]))⟩, ⟨8, 1, q3⟩]) .v, .P p5 (.build [(.bool false), (.bool false), (.bool false), (.str []), (kI 0), (kI 0), .nils, (.bool false), .nils, (kI 0), .nils, .nils, (.str []), (kI 0), (kI 0), (kI 0), (kI 0), (.str [])] [⟨0, 17, q4⟩, ⟨17, 1, (.c (.str [112, 117, 116, 119]))⟩]) .v, .o ⟨none, (.e (.mset .str q1 (.c (.str [112, 117, 116, 119])) q5)), none, []⟩ .v, .P p6 (.build [(.str []), (kI 0), (kI 0)] [⟨1, 1, (ci 2)⟩]) .v, .al p7 (.bsl [(.str []), (kI 0), (kI 0)] 1 [⟨0, 3, q6⟩]), .P p8 (.build [(.bool false), (.bool false), (.bool false), (.str []), (kI 0), (kI 0), .nils, (.bool false), .nils, (kI 0), .nils, .nils, (.str []), (kI 0), (kI 0), (kI 0), (kI 0)] [⟨0, 1, (cb true)⟩, ⟨3, 1, (.c (.str [112, 117, 116, 100]))⟩, ⟨8, 1, q7⟩]) .v, .P p9 (.build [(.bool false), (.bool false), (.bool false), (.str []), (kI 0), (kI 0), .nils, (.bool false), .nils, (kI 0), .nils, .nils, (.str []), (kI 0), (kI 0), (kI 0), (kI 0), (.str [])] [⟨0, 17, q8⟩, ⟨17, 1, (.c (.str [112, 117, 116, 100]))⟩]) .v, .o ⟨none, (.e (.mset .str q1 (.c (.str [112, 117, 116, 100])) q9)), none, []⟩ .v, .P p10 (.build [(.bool false), (.bool false), (.bool false), (.str []), (kI 0), (kI 0), .nils, (.bool false), .nils, (kI 0), .nils, .nils, (.str []), (kI 0), (kI 0), (kI 0), (kI 0)] [⟨0, 1, (cb true)⟩, ⟨3, 1, (.c (.str [103, 101, 116, 119]))⟩, ⟨4, 1, (ci 1)⟩]) .v, .P p11 (.build [(.bool false), (.bool false), (.bool false), (.str []), (kI 0), (kI 0), .nils, (.bool false), .nils, (kI 0), .nils, .nils, (.str []), (kI 0), (kI 0), (kI 0), (kI 0), (.str [])] [⟨0, 17, q10⟩, ⟨17, 1, (.c (.str [103, 101, 116, 119]))⟩]) .v, .o ⟨none, (.e (.mset .str q1 (.c (.str [103, 101, 116, 119])) q11)), none, []⟩ .v, .mv p12 q1 .v, .mv p0 q12 .v] (.s .ret)))
def x28 : XFn := ⟨[], false, [(.tmp p0)], c28_e⟩
def e28_0 (k h) := kN k [] h
def S28_0 (D : CallD) (m : Nat) (h : HP) : Res2 :=
 let t1 := AV.map (HP.nxQ h)
 let h1 := HP.newQ h (.map [] 0)
 let t2 := (AV.agg [(vS ([] : LN)), (vI (Int.ofNat 1)), (vI (Int.ofNat 0))])
 let t3 := AV.slice (HP.nxQ h1) 0 1 (.exact 1)
 let h2 := HP.newQ h1 (.cells true [(vS ([] : LN)), (vI (Int.ofNat 1)), (vI (Int.ofNat 0))])
 let t4 := (AV.agg [(vB true), (vB false), (vB false), (vS ([112, 117, 116, 119] : LN)), (vI (Int.ofNat 0)), (vI (Int.ofNat 0)), (.nils : AV), (vB false), t3, (vI (Int.ofNat 0)), (.nils : AV), (.nils : AV), (vS ([] : LN)), (vI (Int.ofNat 0)), (vI (Int.ofNat 0)), (vI (Int.ofNat 0)), (vI (Int.ofNat 0))])
 let t5 := (AV.agg [(vB true), (vB false), (vB false), (vS ([112, 117, 116, 119] : LN)), (vI (Int.ofNat 0)), (vI (Int.ofNat 0)), (.nils : AV), (vB false), t3, (vI (Int.ofNat 0)), (.nils : AV), (.nils : AV), (vS ([] : LN)), (vI (Int.ofNat 0)), (vI (Int.ofNat 0)), (vI (Int.ofNat 0)), (vI (Int.ofNat 0)), (vS ([112, 117, 116, 119] : LN))])
 eff (.mset .str (.c t1) (.c (vS ([112, 117, 116, 119] : LN))) (.c t5)) h2 fun t0 h3 =>
 let t6 := (AV.agg [(vS ([] : LN)), (vI (Int.ofNat 2)), (vI (Int.ofNat 0))])
 let t7 := AV.slice (HP.nxQ h3) 0 1 (.exact 1)
 let h4 := HP.newQ h3 (.cells true [(vS ([] : LN)), (vI (Int.ofNat 2)), (vI (Int.ofNat 0))])
 let t8 := (AV.agg [(vB true), (vB false), (vB false), (vS ([112, 117, 116, 100] : LN)), (vI (Int.ofNat 0)), (vI (Int.ofNat 0)), (.nils : AV), (vB false), t7, (vI (Int.ofNat 0)), (.nils : AV), (.nils : AV), (vS ([] : LN)), (vI (Int.ofNat 0)), (vI (Int.ofNat 0)), (vI (Int.ofNat 0)), (vI (Int.ofNat 0))])
 let t9 := (AV.agg [(vB true), (vB false), (vB false), (vS ([112, 117, 116, 100] : LN)), (vI (Int.ofNat 0)), (vI (Int.ofNat 0)), (.nils : AV), (vB false), t7, (vI (Int.ofNat 0)), (.nils : AV), (.nils : AV), (vS ([] : LN)), (vI (Int.ofNat 0)), (vI (Int.ofNat 0)), (vI (Int.ofNat 0)), (vI (Int.ofNat 0)), (vS ([112, 117, 116, 100] : LN))])
 eff (.mset .str (.c t1) (.c (vS ([112, 117, 116, 100] : LN))) (.c t9)) h4 fun t0a h5 =>
 let t10 := (AV.agg [(vB true), (vB false), (vB false), (vS ([103, 101, 116, 119] : LN)), (vI (Int.ofNat 1)), (vI (Int.ofNat 0)), (.nils : AV), (vB false), (.nils : AV), (vI (Int.ofNat 0)), (.nils : AV), (.nils : AV), (vS ([] : LN)), (vI (Int.ofNat 0)), (vI (Int.ofNat 0)), (vI (Int.ofNat 0)), (vI (Int.ofNat 0))])
 let t11 := (AV.agg [(vB true), (vB false), (vB false), (vS ([103, 101, 116, 119] : LN)), (vI (Int.ofNat 1)), (vI (Int.ofNat 0)), (.nils : AV), (vB false), (.nils : AV), (vI (Int.ofNat 0)), (.nils : AV), (.nils : AV), (vS ([] : LN)), (vI (Int.ofNat 0)), (vI (Int.ofNat 0)), (vI (Int.ofNat 0)), (vI (Int.ofNat 0)), (vS ([103, 101, 116, 119] : LN))])
 eff (.mset .str (.c t1) (.c (vS ([103, 101, 116, 119] : LN))) (.c t11)) h5 fun t0aa h6 =>
 some (.ret t1 h6, .no)
def S28 : SFn := fun D m args h u => nou u <| endA args (S28_0 D m h)
theorem T28_0 (hE : FX x28 D m E) : S28_0 D m = e28_0 (E c28_e []) := by unfold S28_0; rw [hE c28_e]; kernel_rfl
theorem X28 : XTie S28 x28 := X_of fun D m E hE args h u => by unfold S28; rw [T28_0 hE]; kernel_rfl
/- 29 -/
def v29_7 : List Pos := [p0, p4, p6]
def c29_7 : XC := (.sO [.mv p276 q0 .v, .mv p277 q0 .v, .P p278 (.nilck q277) .v, .fa p279 0 q278, .ld p280 q279 .v, .P p281 (.slice (.sl 1) q280 none (some (ci 2)) none) .v, .P p282 (.nilck q276) .v, .fa p283 0 q282, .st q283 q281] (.sO [.L p284 (.cells 17 q4) .v, .ss 17 q6 q284] (.s .ret)))
def v29_6 : List Pos := [p0, p4, p6]
def c29_6 : XC := (.sj v29_7 (.sO [.fa p263 0 q4, .ld p264 q263 .b, .mv p265 q264 .b, .ge p265 (XL.of [.G p265 true p266 (.faddr 7 q4) .v, .o ⟨(some p267), (.l (.cell q266)), (some (p265, true)), []⟩ .b, .P p268 (.pick q265 q267 (cb false)) .b]) p268 .b] (.cond q268 (.s (.oX [.mv p269 q0 .v, .fa p270 9 q4, .fa p271 2 q270, .ld p272 q271 .v, .cl p273 59 [q269, q272] .v, .fa p274 9 q4, .fa p275 2 q274, .st q275 q273])) (.s .skip))) c29_7)
def v29_8 : List Pos := [p0, p4, p6, p223, p224]
def c29_8b : XC := (.sO [.bn p225 .lss q224 q223 .b] (.seq (.cond q225 .skip (.exit 6)) (.seq (.block 7 (.seq (.oX [.mv p226 q224 tI, .mv p17 q226 tI]) (.seq (.ops true (XL.of [.fa p227 6 q4, .ld p228 q227 .v, .mv p229 q17 tI, .mv p230 q0 .v, .fa p231 6 q4, .ld p232 q231 .v, .mv p233 q17 tI, .P p234 (.iaddr (.sl 8) q232 q233) .v, .L p235 (.cells 8 q234) .v, .fa p236 4 q4, .ld p237 q236 tI, .fa p238 6 q4, .ld p239 q238 .v, .mv p240 q17 tI, .P p241 (.iaddr (.sl 8) q239 q240) .v, .fa p242 7 q241, .ld p243 q242 tI, .o ⟨(some p244), (.call (.fn 58) [q230, q235, q237, q243]), none, [⟨none, .cell q227, p228⟩]⟩ .v, .P p245 (.iaddr (.sl 8) q228 q229) .v, .ss 8 q245 q244])) (.ops true (XL.of [.fa p246 5 q4, .ld p247 q246 tI, .bn p248 .eql q247 (ci 0) .b, .mv p249 q248 .b, .ge p249 (XL.of [.G p249 false p250 (.mov q17) tI, .G p249 false p251 (.faddr 5 q4) .v, .o ⟨(some p252), (.l (.cell q251)), (some (p249, false)), []⟩ tI, .G p249 false p253 (.bin .lss q250 q252) .b, .P p254 (.pick q249 (cb true) q253) .b]) p254 .b, .fa p255 6 q4, .ld p256 q255 .v, .mv p257 q17 tI, .P p258 (.iaddr (.sl 8) q256 q257) .v, .fa p259 7 q258, .ld p260 q259 tI, .cl p261 30 [q254, (ci 1), q260] .v]))))) (.s (.oX [.bn p262 .add q224 (ci 1) tI, .mv p224 q262 tI])))))
def v29_5 : List Pos := [p0, p4, p6]
def c29_5 : XC := (.sO [.fa p217 6 q4, .ld p218 q217 .v, .cl p219 57 [q218] .v, .fa p220 6 q4, .st q220 q219] (.sj v29_6 (.sO [.fa p221 6 q4, .ld p222 q221 .v, .P p223 (.lenl q222) tI, .mv p224 (ci 0) tI] (.block 6 (.loop v29_8 c29_8b))) c29_6))
def v29_9 : List Pos := [p0, p4, p6, p174, p175, p176]
def c29_9b : XC := (.sO [.bn p177 .lss q176 q175 .b] (.seq (.cond q177 .skip (.exit 4)) (.seq (.block 5 (.seq (.oX [.mv p178 q176 tI, .P p179 (.iaddr (.sl 3) q174 q176) .v, .L p180 (.cells 3 q179) .v, .al p14 (.new [(.str []), (kI 0), (kI 0)]), .mv p13 q178 tI, .ss 3 q14 q180]) (.seq (.oX [.fa p181 1 q14, .ld p182 q181 tI, .bn p183 .neq q182 (ci 0) .b, .fa p184 2 q14, .ld p185 q184 tI, .cl p186 30 [q183, (ci 14), q185] .v]) (.seq (.ops true (XL.of [.mv p188 q0 .v, .P p189 (.nilck q188) .v, .fa p190 0 q189, .ld p191 q190 .v, .P p192 (.iaddr (.sl 1) q191 (ci 2)) .v, .ld p193 q192 .v, .fa p194 0 q14, .ld p195 q194 .s, .L p196 (.look .str (.agg [(.bool false), (.bool false), (.bool false), (.str []), (kI 0), (kI 0), .nils, (.bool false), .nils, (kI 0), .nils, .nils, (.str []), (kI 0), (kI 0), (kI 0), (kI 0), (.str [])]) true q193 q195) .v, .mv p187 q196 .v, .P p197 (.ext q187 0) .v, .P p198 (.ext q187 1) .b, .al p15 (.new [(.bool false), (.bool false), (.bool false), (.str []), (kI 0), (kI 0), .nils, (.bool false), .nils, (kI 0), .nils, .nils, (.str []), (kI 0), (kI 0), (kI 0), (kI 0), (.str [])]), .ss 18 q15 q197, .mv p16 q198 .b])) (.seq (.oX [.mv p199 q16 .b, .P p200 (.un .not q199) .b, .fa p201 2 q14, .ld p202 q201 tI, .cl p203 30 [q200, (ci 13), q202] .v]) (.ops true (XL.of [.fa p204 8 q4, .ld p205 q204 .v, .mv p206 q13 tI, .mv p207 q0 .v, .fa p208 0 q14, .ld p209 q208 .s, .fa p210 1 q14, .ld p211 q210 tI, .P p212 (.build [(.bool false), (.bool false), (.bool false), (.str []), (kI 0), (kI 0), .nils, (.bool false), .nils, (kI 0), .nils, .nils, (.str []), (kI 0), (kI 0), (kI 0), (kI 0)] [⟨3, 1, q209⟩, ⟨4, 1, q211⟩]) .v, .o ⟨(some p213), (.call (.fn 56) [q207, q212]), none, [⟨none, .cell q204, p205⟩]⟩ .s, .P p214 (.iaddr (.sl 3) q205 q206) .v, .fa p215 0 q214, .st q215 q213]))))))) (.s (.oX [.bn p216 .add q176 (ci 1) tI, .mv p176 q216 tI])))))
def c29_10 : XC := (.sO [.fa p110 3 q4, .ld p111 q110 .s, .bn p112 .neq q111 (.c (.str [109, 97, 105, 110])) .b, .mv p113 q112 .b, .ge p113 (XL.of [.G p113 false p114 (.faddr 0 q4) .v, .o ⟨(some p115), (.l (.cell q114)), (some (p113, false)), []⟩ .b, .G p113 false p116 (.mov q115) .b, .ge p116 (XL.of [.G p116 true p117 (.faddr 1 q4) .v, .o ⟨(some p118), (.l (.cell q117)), (some (p116, true)), []⟩ .b, .G p116 true p119 (.un .not q118) .b, .G p113 false p120 (.pick q116 q119 (cb false)) .b]) p120 .b, .G p113 false p121 (.mov q120) .b, .ge p121 (XL.of [.G p121 true p122 (.faddr 4 q4) .v, .o ⟨(some p123), (.l (.cell q122)), (some (p121, true)), []⟩ tI, .G p121 true p124 (.bin .eql q123 (ci 1)) .b, .G p113 false p125 (.pick q121 q124 (cb false)) .b]) p125 .b, .G p113 false p126 (.mov q125) .b, .ge p126 (XL.of [.G p126 true p127 (.faddr 8 q4) .v, .o ⟨(some p128), (.l (.cell q127)), (some (p126, true)), []⟩ .v, .G p126 true p129 (.lenl q128) tI, .G p126 true p130 (.bin .eql q129 (ci 0)) .b, .G p113 false p131 (.pick q126 q130 (cb false)) .b]) p131 .b, .P p132 (.pick q113 (cb true) q131) .b]) p132 .b, .fa p133 16 q4, .ld p134 q133 tI, .cl p135 30 [q132, (ci 14), q134] .v] (.seq (.ops true (XL.of [.mv p136 q0 .v, .P p137 (.nilck q136) .v, .fa p138 0 q137, .ld p139 q138 .v, .P p140 (.iaddr (.sl 1) q139 (ci 1)) .v, .ld p141 q140 .v, .fa p142 3 q4, .ld p143 q142 .s, .L p144 (.cells 17 q4) .v, .fa p145 3 q4, .ld p146 q145 .s, .P p147 (.build [(.bool false), (.bool false), (.bool false), (.str []), (kI 0), (kI 0), .nils, (.bool false), .nils, (kI 0), .nils, .nils, (.str []), (kI 0), (kI 0), (kI 0), (kI 0), (.str [])] [⟨0, 17, q144⟩, ⟨17, 1, q146⟩]) .v, .o ⟨none, (.e (.mset .str q141 q143 q147)), none, []⟩ .v])) (.sO [.mv p148 q0 .v, .mv p149 q0 .v, .P p150 (.nilck q149) .v, .fa p151 0 q150, .ld p152 q151 .v, .al p153 (.mkmap), .al p154 (.bsl [.nilm] 1 [⟨0, 1, q153⟩]), .o ⟨(some p155), (.e (.app 1 8 q152 q154)), none, []⟩ .v, .P p156 (.nilck q148) .v, .fa p157 0 q156, .st q157 q155] (.sO [.mv p158 q0 .v, .mv p159 q0 .v, .mv p160 q0 .v, .fa p161 4 q4, .ld p162 q161 tI, .P p163 (.nilck q158) .v, .fa p164 1 q163, .st q164 q162, .P p165 (.nilck q159) .v, .fa p166 2 q165, .st q166 (ci 0), .P p167 (.nilck q160) .v, .fa p168 3 q167, .st q168 (ci 0)] (.sO [.fa p169 8 q4, .ld p170 q169 .v, .cl p171 55 [q170] .v, .fa p172 8 q4, .st q172 q171] (.sj v29_5 (.sO [.fa p173 8 q4, .ld p174 q173 .v, .P p175 (.lenl q174) tI, .mv p176 (ci 0) tI] (.block 4 (.loop v29_9 c29_9b))) c29_5))))))
def l29_4 : XL := (XL.of [.cl p109 30 [q106, (ci 14), q108] .v])
def l29_3 : XL := (XL.pre [.G p83 false p97 (.mov q96) .b, .ge p97 (XL.of [.G p97 true p98 (.faddr 2 q4) .v, .o ⟨(some p99), (.l (.cell q98)), (some (p97, true)), []⟩ .b, .G p97 true p100 (.mov q99) .b, .ge p100 (XL.of [.G p100 true p101 (.faddr 7 q4) .v, .o ⟨(some p102), (.l (.cell q101)), (some (p100, true)), []⟩ .b, .G p97 true p103 (.pick q100 q102 (cb false)) .b]) p103 .b, .G p97 true p104 (.un .not q103) .b, .G p83 false p105 (.pick q97 q104 (cb false)) .b]) p105 .b, .P p106 (.pick q83 (cb true) q105) .b, .jn p83 [p0, p4, p6, p106, p108]] l29_4)
def l29_2 : XL := (XL.pre [.G p83 false p96 (.pick q87 q95 (cb false)) .b, .jn p87 [p0, p4, p6, p83, p96, p108]] l29_3)
def v29_1 : List Pos := [p0, p4, p6]
def c29_1 : XC := (.opq true (XL.pre [.fa p81 0 q4, .ld p82 q81 .b, .mv p83 q82 .b, .sp p83, .G p83 false p84 (.faddr 4 q4) .v, .o ⟨(some p85), (.l (.cell q84)), (some (p83, false)), []⟩ tI, .G p83 false p86 (.bin .neq q85 (ci 0)) .b, .G p83 false p87 (.mov q86) .b, .sp p87, .G p87 true p88 (.faddr 5 q4) .v, .o ⟨(some p89), (.l (.cell q88)), (some (p87, true)), []⟩ tI, .G p87 true p90 (.bin .eql q89 (ci 0)) .b, .G p87 true p91 (.mov q90) .b, .sp p91, .G p91 false p92 (.faddr 4 q4) .v, .o ⟨(some p93), (.l (.cell q92)), (some (p91, false)), []⟩ tI, .fa p107 16 q4, .ld p108 q107 tI, .o ⟨(some p94), (.call (.fn 54) [q93]), (some (p91, false)), [⟨none, .cell q107, p108⟩]⟩ .b, .G p87 true p95 (.pick q91 (cb true) q94) .b, .jn p91 [p0, p4, p6, p83, p87, p95, p108]] l29_2) c29_10)
def v29_12 : List Pos := [p0, p4, p6, p61, p62, p63]
def c29_12 : XC := (.s (.oX [.bn p80 .add q63 (ci 1) tI, .mv p63 q80 tI]))
def l29_13 : XL := (XL.of [.cl p79 30 [q76, (ci 14), q78] .v])
def v29_11 : List Pos := [p0, p4, p6, p61, p62, p63]
def c29_11b : XC := (.sO [.bn p64 .lss q63 q62 .b] (.seq (.cond q64 .skip (.exit 2)) (.sj v29_12 (.block 3 (.sO [.P p65 (.iaddr (.sl 17) q61 q63) .v, .L p66 (.cells 17 q65) .v, .al p12 (.new [(.bool false), (.bool false), (.bool false), (.str []), (kI 0), (kI 0), .nils, (.bool false), .nils, (kI 0), .nils, .nils, (.str []), (kI 0), (kI 0), (kI 0), (kI 0)]), .ss 17 q12 q66] (.ops true (XL.pre [.fa p67 3 q12, .ld p68 q67 .s, .fa p69 3 q4, .ld p70 q69 .s, .bn p71 .neq q68 q70 .b, .mv p72 q71 .b, .sp p72, .o ⟨(some p73), (.l (.cells 17 q12)), (some (p72, false)), []⟩ .v, .o ⟨(some p74), (.l (.cells 17 q4)), (some (p72, false)), []⟩ .v, .fa p77 16 q4, .ld p78 q77 tI, .o ⟨(some p75), (.call (.fn 53) [q73, q74]), (some (p72, false)), [⟨none, .cell q77, p78⟩]⟩ .b, .P p76 (.pick q72 (cb true) q75) .b, .jn p72 [p0, p4, p6, p61, p62, p63, p76, p78]] l29_13)))) c29_12)))
def v29_0 : List Pos := [p0, p2, p4, p6]
def c29_0 : XC := (.sj v29_1 (.sO [.mv p61 q2 .v, .P p62 (.lenl q61) tI, .mv p63 (ci 0) tI] (.block 2 (.loop v29_11 c29_11b))) c29_1)
def v29_15 : List Pos := [p0, p2, p4, p6, p30, p31, p32]
def c29_15 : XC := (.s (.oX [.bn p60 .add q32 (ci 1) tI, .mv p32 q60 tI]))
def l29_18 : XL := (XL.of [.cl p59 30 [q56, (ci 13), q58] .v])
def l29_17 : XL := (XL.pre [.P p56 (.pick q41 (cb true) q55) .b, .jn p41 [p0, p2, p4, p6, p30, p31, p32, p56, p58]] l29_18)
def l29_16 : XL := (XL.pre [.G p47 true p54 (.un .not q53) .b, .G p41 false p55 (.pick q47 q54 (cb false)) .b, .jn p47 [p0, p2, p4, p6, p30, p31, p32, p41, p55, p58]] l29_17)
def v29_14 : List Pos := [p0, p2, p4, p6, p30, p31, p32]
def c29_14b : XC := (.sO [.bn p33 .lss q32 q31 .b] (.seq (.cond q33 .skip (.exit 0)) (.sj v29_15 (.block 1 (.sO [.P p34 (.iaddr (.sl 17) q30 q32) .v, .L p35 (.cells 17 q34) .v, .al p10 (.new [(.bool false), (.bool false), (.bool false), (.str []), (kI 0), (kI 0), .nils, (.bool false), .nils, (kI 0), .nils, .nils, (.str []), (kI 0), (kI 0), (kI 0), (kI 0)]), .ss 17 q10 q35] (.ops true (XL.pre [.fa p36 3 q10, .ld p37 q36 .s, .fa p38 3 q4, .ld p39 q38 .s, .bn p40 .neq q37 q39 .b, .mv p41 q40 .b, .sp p41, .G p41 false p42 (.faddr 0 q10) .v, .o ⟨(some p43), (.l (.cell q42)), (some (p41, false)), []⟩ .b, .G p41 false p44 (.faddr 0 q4) .v, .o ⟨(some p45), (.l (.cell q44)), (some (p41, false)), []⟩ .b, .G p41 false p46 (.eqb false q43 q45) .b, .G p41 false p47 (.mov q46) .b, .sp p47, .o ⟨(some p48), (.l (.cells 17 q10)), (some (p47, true)), []⟩ .v, .fa p57 16 q4, .ld p58 q57 tI, .o ⟨(some p49), (.call (.fn 52) [q48]), (some (p47, true)), [⟨none, .cell q57, p58⟩]⟩ .b, .G p47 true p50 (.mov q49) .b, .sp p50, .o ⟨(some p51), (.l (.cells 17 q4)), (some (p50, true)), []⟩ .v, .o ⟨(some p52), (.call (.fn 52) [q51]), (some (p50, true)), [⟨none, .cell q57, p58⟩]⟩ .b, .G p47 true p53 (.pick q50 q52 (cb false)) .b, .jn p50 [p0, p2, p4, p6, p30, p31, p32, p41, p47, p53, p58]] l29_16)))) c29_15)))
def c29_e : XC := (.sO [.al p4 (.box q1), .al p6 (.new [(.bool false), (.bool false), (.bool false), (.str []), (kI 0), (kI 0), .nils, (.bool false), .nils, (kI 0), .nils, .nils, (.str []), (kI 0), (kI 0), (kI 0), (kI 0)])] (.seq (.ops true (XL.of [.fa p20 3 q4, .ld p21 q20 .s, .al p7 (.new [(.bool false), (.bool false), (.bool false), (.str []), (kI 0), (kI 0), .nils, (.bool false), .nils, (kI 0), .nils, .nils, (.str []), (kI 0), (kI 0), (kI 0), (kI 0), (.str [])]), .o ⟨(some p19), (.call (.fn 28) []), none, [⟨none, .cell q20, p21⟩]⟩ .v, .L p22 (.look .str (.agg [(.bool false), (.bool false), (.bool false), (.str []), (kI 0), (kI 0), .nils, (.bool false), .nils, (kI 0), .nils, .nils, (.str []), (kI 0), (kI 0), (kI 0), (kI 0), (.str [])]) true q19 q21) .v, .mv p18 q22 .v, .P p23 (.ext q18 0) .v, .P p24 (.ext q18 1) .b, .ss 18 q7 q23, .mv p8 q24 .b])) (.sO [.mv p25 q8 .b, .P p26 (.un .not q25) .b, .fa p27 16 q4, .ld p28 q27 tI, .cl p29 30 [q26, (ci 13), q28] .v] (.sj v29_0 (.sO [.mv p30 q2 .v, .P p31 (.lenl q30) tI, .mv p32 (ci 0) tI] (.block 0 (.loop v29_14 c29_14b))) c29_0))))
def x29 : XFn := ⟨[.v, .v, .v], false, [(.cells 17 p6)], c29_e⟩
def e29_7 (k t0 t4 t6 h) := kN k [(p0, t0), (p4, t4), (p6, t6)] h
def S29_7 (D : CallD) (m : Nat) (t0 t4 t6 : AV) (h : HP) : Res2 :=
 nilckC t0 fun t278 =>
 faC 0 t278 fun t279 =>
 cellC t279 h fun t280 =>
 obQ (evP (.slice (.sl 1) (.c t280) none (some (.c (vI (Int.ofNat 2)))) none) .leaf) fun t281 =>
 nilckC t0 fun t282 =>
 faC 0 t282 fun t283 =>
 stoC t283 t281 h fun h40 =>
 cellsC 17 t4 h40 fun t284 =>
 stsC 17 t6 t284 h40 fun h41 =>
 cellsC 17 t6 h41 fun t6a =>
 some (.ret t6a h41, .no)
def e29_6 (k t0 t4 t6 h) := kN k [(p0, t0), (p4, t4), (p6, t6)] h
def S29_6 (D : CallD) (m : Nat) (t0 t4 t6 : AV) (h : HP) : Res2 :=
 faC 0 t4 fun t263 =>
 ldB t263 h fun t264 =>
 obB (brV t264 (
 faCV 7 t4 fun t266 =>
 ldBV t266 h fun t267 =>
 some (vB t267)) (
 some (vB false))) fun t268 =>
 br t268 (
 faC 9 t4 fun t270 =>
 faC 2 t270 fun t271 =>
 cellC t271 h fun t272 =>
 cal D 59 [t0, t272] h fun t273 h42 =>
 faC 9 t4 fun t274 =>
 faC 2 t274 fun t275 =>
 stoC t275 t273 h42 fun h43 =>
 S29_7 D m t0 t4 t6 h43) (
 S29_7 D m t0 t4 t6 h)
def e29_8 (k t0 t4 t6 t223 t224 h) := kN k [(p0, t0), (p4, t4), (p6, t6), (p223, (vI t223)), (p224, (vI t224))] h
def S29_8b (D : CallD) (m : Nat) (g8 : AV → AV → AV → Int → Int → HP → Res2) (t0 t4 t6 : AV) (t223 t224 : Int) (h : HP) : Res2 :=
 let t225 := ltQ t224 t223
 br t225 (
 faC 6 t4 fun t227 =>
 cellC t227 h fun t228 =>
 faC 6 t4 fun t231 =>
 cellC t231 h fun t232 =>
 iasC 8 t232 (vI t224) fun t234 =>
 cellsC 8 t234 h fun t235 =>
 faC 4 t4 fun t236 =>
 ldI t236 h fun t237 =>
 faC 6 t4 fun t238 =>
 cellC t238 h fun t239 =>
 iasC 8 t239 (vI t224) fun t241 =>
 faC 7 t241 fun t242 =>
 ldI t242 h fun t243 =>
 cal D 58 [t0, t235, (vI t237), (vI t243)] h fun t244 h44 =>
 br (again [⟨none, .cell q227, p228⟩] (mkT [(p228, t228), (p227, t227)]) h44) (
 iasC 8 t228 (vI t224) fun t245 =>
 stsC 8 t245 t244 h44 fun h45 =>
 faC 5 t4 fun t246 =>
 ldI t246 h45 fun t247 =>
 let t248 := eqQ t247 (Int.ofNat 0)
 obB (brV t248 (
 some (vB true)) (
 faCV 5 t4 fun t251 =>
 ldIV t251 h45 fun t252 =>
 let t253 := ltQ t224 t252
 some (vB t253))) fun t254 =>
 faC 6 t4 fun t255 =>
 cellC t255 h45 fun t256 =>
 iasC 8 t256 (vI t224) fun t258 =>
 faC 7 t258 fun t259 =>
 ldI t259 h45 fun t260 =>
 cal D 30 [(vB t254), (vI (Int.ofNat 1)), (vI t260)] h45 fun t261 h46 =>
 let t262 := wrQ .i64 (addQ t224 (Int.ofNat 1))
 g8 t0 t4 t6 t223 t262 h46) none) (
 S29_6 D m t0 t4 t6 h)
def S29_8 (D : CallD) (m : Nat) : AV → AV → AV → Int → Int → HP → Res2 := nrec (fun _ _ _ _ _ _ => none) (fun _ g => S29_8b D m g) m
def e29_5 (k t0 t4 t6 h) := kN k [(p0, t0), (p4, t4), (p6, t6)] h
def S29_5 (D : CallD) (m : Nat) (t0 t4 t6 : AV) (h : HP) : Res2 :=
 faC 6 t4 fun t217 =>
 cellC t217 h fun t218 =>
 cal D 57 [t218] h fun t219 h38 =>
 faC 6 t4 fun t220 =>
 stoC t220 t219 h38 fun h39 =>
 faC 6 t4 fun t221 =>
 cellC t221 h39 fun t222 =>
 lenC t222 fun vt223 => asI .i64 vt223 fun t223 =>
 S29_8 D m t0 t4 t6 t223 (Int.ofNat 0) h39
def e29_9 (k t0 t4 t6 t174 t175 t176 h) := kN k [(p0, t0), (p4, t4), (p6, t6), (p174, t174), (p175, (vI t175)), (p176, (vI t176))] h
def S29_9b (D : CallD) (m : Nat) (g9 : AV → AV → AV → AV → Int → Int → HP → Res2) (t0 t4 t6 t174 : AV) (t175 t176 : Int) (h : HP) : Res2 :=
 let t177 := ltQ t176 t175
 br t177 (
 iasC 3 t174 (vI t176) fun t179 =>
 cellsC 3 t179 h fun t180 =>
 let t14 := AV.ptr (HP.nxQ h) 0
 let h47 := HP.newQ h (.cells true [(.str []), (kI 0), (kI 0)])
 stsC 3 t14 t180 h47 fun h48 =>
 let t181 := (AV.ptr (HP.nxQ h) (Nat.add 0 1))
 ldI t181 h48 fun t182 =>
 let t183 := notQ (eqQ t182 (Int.ofNat 0))
 let t184 := (AV.ptr (HP.nxQ h) (Nat.add 0 2))
 ldI t184 h48 fun t185 =>
 cal D 30 [(vB t183), (vI (Int.ofNat 14)), (vI t185)] h48 fun t186 h49 =>
 nilckC t0 fun t189 =>
 faC 0 t189 fun t190 =>
 cellC t190 h49 fun t191 =>
 iasC 1 t191 (vI (Int.ofNat 2)) fun t192 =>
 cellC t192 h49 fun t193 =>
 let t194 := (AV.ptr (HP.nxQ h) (Nat.add 0 0))
 ldS t194 h49 fun t195 =>
 obQ (evL (.look .str (.agg [(.bool false), (.bool false), (.bool false), (.str []), (kI 0), (kI 0), .nils, (.bool false), .nils, (kI 0), .nils, .nils, (.str []), (kI 0), (kI 0), (kI 0), (kI 0), (.str [])]) true (.c t193) (.c (vS t195))) .leaf h49) fun t196 =>
 extC t196 0 fun t197 =>
 extC t196 1 fun vt198 => asB vt198 fun t198 =>
 let t15 := AV.ptr (HP.nxQ h49) 0
 let h50 := HP.newQ h49 (.cells true [(.bool false), (.bool false), (.bool false), (.str []), (kI 0), (kI 0), .nils, (.bool false), .nils, (kI 0), .nils, .nils, (.str []), (kI 0), (kI 0), (kI 0), (kI 0), (.str [])])
 stsC 18 t15 t197 h50 fun h51 =>
 let t200 := !t198
 let t201 := (AV.ptr (HP.nxQ h) (Nat.add 0 2))
 ldI t201 h51 fun t202 =>
 cal D 30 [(vB t200), (vI (Int.ofNat 13)), (vI t202)] h51 fun t203 h52 =>
 faC 8 t4 fun t204 =>
 cellC t204 h52 fun t205 =>
 let t208 := (AV.ptr (HP.nxQ h) (Nat.add 0 0))
 ldS t208 h52 fun t209 =>
 let t210 := (AV.ptr (HP.nxQ h) (Nat.add 0 1))
 ldI t210 h52 fun t211 =>
 let t212 := (AV.agg [(vB false), (vB false), (vB false), (vS t209), (vI t211), (vI (Int.ofNat 0)), (.nils : AV), (vB false), (.nils : AV), (vI (Int.ofNat 0)), (.nils : AV), (.nils : AV), (vS ([] : LN)), (vI (Int.ofNat 0)), (vI (Int.ofNat 0)), (vI (Int.ofNat 0)), (vI (Int.ofNat 0))])
 cal D 56 [t0, t212] h52 fun t213 h53 =>
 br (again [⟨none, .cell q204, p205⟩] (mkT [(p205, t205), (p204, t204)]) h53) (
 asS t213 fun t213a =>
 iasC 3 t205 (vI t176) fun t214 =>
 faC 0 t214 fun t215 =>
 stoC t215 (vS t213a) h53 fun h54 =>
 let t216 := wrQ .i64 (addQ t176 (Int.ofNat 1))
 g9 t0 t4 t6 t174 t175 t216 h54) none) (
 S29_5 D m t0 t4 t6 h)
def S29_9 (D : CallD) (m : Nat) : AV → AV → AV → AV → Int → Int → HP → Res2 := nrec (fun _ _ _ _ _ _ _ => none) (fun _ g => S29_9b D m g) m
def e29_4 (k t0 t4 t6 t106 t108 h) := kN k [(p0, t0), (p4, t4), (p6, t6), (p106, (vB t106)), (p108, (vI t108))] h
def S29_4 (D : CallD) (m : Nat) (t0 t4 t6 : AV) (t106 : Bool) (t108 : Int) (h : HP) : Res2 :=
 cal D 30 [(vB t106), (vI (Int.ofNat 14)), (vI t108)] h fun t109 h26 =>
 faC 3 t4 fun t110 =>
 ldS t110 h26 fun t111 =>
 let t112 := !(eqL t111 ([109, 97, 105, 110] : LN))
 obB (brV t112 (
 some (vB true)) (
 faCV 0 t4 fun t114 =>
 ldBV t114 h26 fun t115 =>
 obBV (brV t115 (
 faCV 1 t4 fun t117 =>
 ldBV t117 h26 fun t118 =>
 let t119 := !t118
 some (vB t119)) (
 some (vB false))) fun t120 =>
 obBV (brV t120 (
 faCV 4 t4 fun t122 =>
 ldIV t122 h26 fun t123 =>
 let t124 := eqQ t123 (Int.ofNat 1)
 some (vB t124)) (
 some (vB false))) fun t125 =>
 obBV (brV t125 (
 faCV 8 t4 fun t127 =>
 cellCV t127 h26 fun t128 =>
 lenCV t128 fun vt129 => asIV .i64 vt129 fun t129 =>
 let t130 := eqQ t129 (Int.ofNat 0)
 some (vB t130)) (
 some (vB false))) fun t131 =>
 some (vB t131))) fun t132 =>
 faC 16 t4 fun t133 =>
 ldI t133 h26 fun t134 =>
 cal D 30 [(vB t132), (vI (Int.ofNat 14)), (vI t134)] h26 fun t135 h27 =>
 nilckC t0 fun t137 =>
 faC 0 t137 fun t138 =>
 cellC t138 h27 fun t139 =>
 iasC 1 t139 (vI (Int.ofNat 1)) fun t140 =>
 cellC t140 h27 fun t141 =>
 faC 3 t4 fun t142 =>
 ldS t142 h27 fun t143 =>
 cellsC 17 t4 h27 fun t144 =>
 faC 3 t4 fun t145 =>
 ldS t145 h27 fun t146 =>
 obQ (evP (.build [(.bool false), (.bool false), (.bool false), (.str []), (kI 0), (kI 0), .nils, (.bool false), .nils, (kI 0), .nils, .nils, (.str []), (kI 0), (kI 0), (kI 0), (kI 0), (.str [])] [⟨0, 17, (.c t144)⟩, ⟨17, 1, (.c (vS t146))⟩]) .leaf) fun t147 =>
 eff (.mset .str (.c t141) (.c (vS t143)) (.c t147)) h27 fun t0a h28 =>
 nilckC t0 fun t150 =>
 faC 0 t150 fun t151 =>
 cellC t151 h28 fun t152 =>
 let t153 := AV.map (HP.nxQ h28)
 let h29 := HP.newQ h28 (.map [] 0)
 let t154 := AV.slice (HP.nxQ h29) 0 1 (.exact 1)
 let h30 := HP.newQ h29 (.cells true [t153])
 eff (.app 1 8 (.c t152) (.c t154)) h30 fun t155 h31 =>
 nilckC t0 fun t156 =>
 faC 0 t156 fun t157 =>
 stoC t157 t155 h31 fun h32 =>
 faC 4 t4 fun t161 =>
 ldI t161 h32 fun t162 =>
 nilckC t0 fun t163 =>
 faC 1 t163 fun t164 =>
 stoC t164 (vI t162) h32 fun h33 =>
 nilckC t0 fun t165 =>
 faC 2 t165 fun t166 =>
 stoC t166 (vI (Int.ofNat 0)) h33 fun h34 =>
 nilckC t0 fun t167 =>
 faC 3 t167 fun t168 =>
 stoC t168 (vI (Int.ofNat 0)) h34 fun h35 =>
 faC 8 t4 fun t169 =>
 cellC t169 h35 fun t170 =>
 cal D 55 [t170] h35 fun t171 h36 =>
 faC 8 t4 fun t172 =>
 stoC t172 t171 h36 fun h37 =>
 faC 8 t4 fun t173 =>
 cellC t173 h37 fun t174 =>
 lenC t174 fun vt175 => asI .i64 vt175 fun t175 =>
 S29_9 D m t0 t4 t6 t174 t175 (Int.ofNat 0) h37
def e29_3 (k t0 t4 t6 t96 t108 h) := kN k [(p0, t0), (p4, t4), (p6, t6), (p83, .bool false), (p96, (vB t96)), (p108, (vI t108))] h
def S29_3 (D : CallD) (m : Nat) (t0 t4 t6 : AV) (t96 : Bool) (t108 : Int) (h : HP) : Res2 :=
 obB (brV t96 (
 faCV 2 t4 fun t98 =>
 ldBV t98 h fun t99 =>
 obBV (brV t99 (
 faCV 7 t4 fun t101 =>
 ldBV t101 h fun t102 =>
 some (vB t102)) (
 some (vB false))) fun t103 =>
 let t104 := !t103
 some (vB t104)) (
 some (vB false))) fun t105 =>
 S29_4 D m t0 t4 t6 t105 t108 h
def e29_2 (k t0 t4 t6 t87 t95 t108 h) := kN k [(p0, t0), (p4, t4), (p6, t6), (p83, .bool false), (p87, (vB t87)), (p95, (vB t95)), (p108, (vI t108))] h
def S29_2 (D : CallD) (m : Nat) (t0 t4 t6 : AV) (t87 t95 : Bool) (t108 : Int) (h : HP) : Res2 :=
 obB (brV t87 (some (vB t95)) (some (vB false))) fun t96 =>
 S29_3 D m t0 t4 t6 t96 t108 h
def e29_1 (k t0 t4 t6 h) := kN k [(p0, t0), (p4, t4), (p6, t6)] h
def S29_1 (D : CallD) (m : Nat) (t0 t4 t6 : AV) (h : HP) : Res2 :=
 faC 0 t4 fun t81 =>
 ldB t81 h fun t82 =>
 br t82 (
 faC 16 t4 fun t107 =>
 ldI t107 h fun t108 =>
 S29_4 D m t0 t4 t6 true t108 h) (
 faC 4 t4 fun t84 =>
 ldI t84 h fun t85 =>
 let t86 := notQ (eqQ t85 (Int.ofNat 0))
 br t86 (
 faC 5 t4 fun t88 =>
 ldI t88 h fun t89 =>
 let t90 := eqQ t89 (Int.ofNat 0)
 br t90 (
 faC 16 t4 fun t107 =>
 ldI t107 h fun t108 =>
 S29_2 D m t0 t4 t6 true true t108 h) (
 faC 4 t4 fun t92 =>
 ldI t92 h fun t93 =>
 faC 16 t4 fun t107 =>
 ldI t107 h fun t108 =>
 cal D 54 [(vI t93)] h fun t94 h55 =>
 br (again [⟨none, .cell q107, p108⟩] (mkT [(p108, (vI t108)), (p107, t107)]) h55) (
 asB t94 fun t94a =>
 S29_2 D m t0 t4 t6 true t94a t108 h55) none)) (
 faC 16 t4 fun t107 =>
 ldI t107 h fun t108 =>
 S29_3 D m t0 t4 t6 false t108 h))
def e29_12 (k t0 t4 t6 t61 t62 t63 h) := kN k [(p0, t0), (p4, t4), (p6, t6), (p61, t61), (p62, (vI t62)), (p63, (vI t63))] h
def S29_12 (D : CallD) (m : Nat) (g11 : AV → AV → AV → AV → Int → Int → HP → Res2) (t0 t4 t6 t61 : AV) (t62 t63 : Int) (h : HP) : Res2 :=
 let t80 := wrQ .i64 (addQ t63 (Int.ofNat 1))
 g11 t0 t4 t6 t61 t62 t80 h
def e29_13 (k t0 t4 t6 t61 t62 t63 t76 t78 h) := kN k [(p0, t0), (p4, t4), (p6, t6), (p61, t61), (p62, (vI t62)), (p63, (vI t63)), (p76, (vB t76)), (p78, (vI t78))] h
def S29_13 (D : CallD) (m : Nat) (g11 : AV → AV → AV → AV → Int → Int → HP → Res2) (t0 t4 t6 t61 : AV) (t62 t63 : Int) (t76 : Bool) (t78 : Int) (h : HP) : Res2 :=
 cal D 30 [(vB t76), (vI (Int.ofNat 14)), (vI t78)] h fun t79 h58 =>
 S29_12 D m g11 t0 t4 t6 t61 t62 t63 h58
def e29_11 (k t0 t4 t6 t61 t62 t63 h) := kN k [(p0, t0), (p4, t4), (p6, t6), (p61, t61), (p62, (vI t62)), (p63, (vI t63))] h
def S29_11b (D : CallD) (m : Nat) (g11 : AV → AV → AV → AV → Int → Int → HP → Res2) (t0 t4 t6 t61 : AV) (t62 t63 : Int) (h : HP) : Res2 :=
 let t64 := ltQ t63 t62
 br t64 (
 iasC 17 t61 (vI t63) fun t65 =>
 cellsC 17 t65 h fun t66 =>
 let t12 := AV.ptr (HP.nxQ h) 0
 let h56 := HP.newQ h (.cells true [(.bool false), (.bool false), (.bool false), (.str []), (kI 0), (kI 0), .nils, (.bool false), .nils, (kI 0), .nils, .nils, (.str []), (kI 0), (kI 0), (kI 0), (kI 0)])
 stsC 17 t12 t66 h56 fun h57 =>
 let t67 := (AV.ptr (HP.nxQ h) (Nat.add 0 3))
 ldS t67 h57 fun t68 =>
 faC 3 t4 fun t69 =>
 ldS t69 h57 fun t70 =>
 let t71 := !(eqL t68 t70)
 br t71 (
 faC 16 t4 fun t77 =>
 ldI t77 h57 fun t78 =>
 S29_13 D m g11 t0 t4 t6 t61 t62 t63 true t78 h57) (
 cellsC 17 t12 h57 fun t73 =>
 cellsC 17 t4 h57 fun t74 =>
 faC 16 t4 fun t77 =>
 ldI t77 h57 fun t78 =>
 cal D 53 [t73, t74] h57 fun t75 h59 =>
 br (again [⟨none, .cell q77, p78⟩] (mkT [(p78, (vI t78)), (p77, t77)]) h59) (
 asB t75 fun t75a =>
 S29_13 D m g11 t0 t4 t6 t61 t62 t63 t75a t78 h59) none)) (
 S29_1 D m t0 t4 t6 h)
def S29_11 (D : CallD) (m : Nat) : AV → AV → AV → AV → Int → Int → HP → Res2 := nrec (fun _ _ _ _ _ _ _ => none) (fun _ g => S29_11b D m g) m
def e29_0 (k t0 t2 t4 t6 h) := kN k [(p0, t0), (p2, t2), (p4, t4), (p6, t6)] h
def S29_0 (D : CallD) (m : Nat) (t0 t2 t4 t6 : AV) (h : HP) : Res2 :=
 lenC t2 fun vt62 => asI .i64 vt62 fun t62 =>
 S29_11 D m t0 t4 t6 t2 t62 (Int.ofNat 0) h
def e29_15 (k t0 t2 t4 t6 t30 t31 t32 h) := kN k [(p0, t0), (p2, t2), (p4, t4), (p6, t6), (p30, t30), (p31, (vI t31)), (p32, (vI t32))] h
def S29_15 (D : CallD) (m : Nat) (g14 : AV → AV → AV → AV → AV → Int → Int → HP → Res2) (t0 t2 t4 t6 t30 : AV) (t31 t32 : Int) (h : HP) : Res2 :=
 let t60 := wrQ .i64 (addQ t32 (Int.ofNat 1))
 g14 t0 t2 t4 t6 t30 t31 t60 h
def e29_18 (k t0 t2 t4 t6 t30 t31 t32 t56 t58 h) := kN k [(p0, t0), (p2, t2), (p4, t4), (p6, t6), (p30, t30), (p31, (vI t31)), (p32, (vI t32)), (p56, (vB t56)), (p58, (vI t58))] h
def S29_18 (D : CallD) (m : Nat) (g14 : AV → AV → AV → AV → AV → Int → Int → HP → Res2) (t0 t2 t4 t6 t30 : AV) (t31 t32 : Int) (t56 : Bool) (t58 : Int) (h : HP) : Res2 :=
 cal D 30 [(vB t56), (vI (Int.ofNat 13)), (vI t58)] h fun t59 h62 =>
 S29_15 D m g14 t0 t2 t4 t6 t30 t31 t32 h62
def e29_17 (k t0 t2 t4 t6 t30 t31 t32 t41 t55 t58 h) := kN k [(p0, t0), (p2, t2), (p4, t4), (p6, t6), (p30, t30), (p31, (vI t31)), (p32, (vI t32)), (p41, (vB t41)), (p55, (vB t55)), (p58, (vI t58))] h
def S29_17 (D : CallD) (m : Nat) (g14 : AV → AV → AV → AV → AV → Int → Int → HP → Res2) (t0 t2 t4 t6 t30 : AV) (t31 t32 : Int) (t41 t55 : Bool) (t58 : Int) (h : HP) : Res2 :=
 obB (brV t41 (some (vB true)) (some (vB t55))) fun t56 =>
 S29_18 D m g14 t0 t2 t4 t6 t30 t31 t32 t56 t58 h
def e29_16 (k t0 t2 t4 t6 t30 t31 t32 t53 t58 h) := kN k [(p0, t0), (p2, t2), (p4, t4), (p6, t6), (p30, t30), (p31, (vI t31)), (p32, (vI t32)), (p41, .bool false), (p47, .bool true), (p53, (vB t53)), (p58, (vI t58))] h
def S29_16 (D : CallD) (m : Nat) (g14 : AV → AV → AV → AV → AV → Int → Int → HP → Res2) (t0 t2 t4 t6 t30 : AV) (t31 t32 : Int) (t53 : Bool) (t58 : Int) (h : HP) : Res2 :=
 let t54 := !t53
 S29_17 D m g14 t0 t2 t4 t6 t30 t31 t32 false t54 t58 h
def e29_14 (k t0 t2 t4 t6 t30 t31 t32 h) := kN k [(p0, t0), (p2, t2), (p4, t4), (p6, t6), (p30, t30), (p31, (vI t31)), (p32, (vI t32))] h
def S29_14b (D : CallD) (m : Nat) (g14 : AV → AV → AV → AV → AV → Int → Int → HP → Res2) (t0 t2 t4 t6 t30 : AV) (t31 t32 : Int) (h : HP) : Res2 :=
 let t33 := ltQ t32 t31
 br t33 (
 iasC 17 t30 (vI t32) fun t34 =>
 cellsC 17 t34 h fun t35 =>
 let t10 := AV.ptr (HP.nxQ h) 0
 let h60 := HP.newQ h (.cells true [(.bool false), (.bool false), (.bool false), (.str []), (kI 0), (kI 0), .nils, (.bool false), .nils, (kI 0), .nils, .nils, (.str []), (kI 0), (kI 0), (kI 0), (kI 0)])
 stsC 17 t10 t35 h60 fun h61 =>
 let t36 := (AV.ptr (HP.nxQ h) (Nat.add 0 3))
 ldS t36 h61 fun t37 =>
 faC 3 t4 fun t38 =>
 ldS t38 h61 fun t39 =>
 let t40 := !(eqL t37 t39)
 br t40 (
 faC 16 t4 fun t57 =>
 ldI t57 h61 fun t58 =>
 S29_18 D m g14 t0 t2 t4 t6 t30 t31 t32 true t58 h61) (
 let t42 := (AV.ptr (HP.nxQ h) (Nat.add 0 0))
 ldB t42 h61 fun t43 =>
 faC 0 t4 fun t44 =>
 ldB t44 h61 fun t45 =>
 let t46 := ((t43 == t45) != false)
 br t46 (
 cellsC 17 t10 h61 fun t48 =>
 faC 16 t4 fun t57 =>
 ldI t57 h61 fun t58 =>
 cal D 52 [t48] h61 fun t49 h63 =>
 br (again [⟨none, .cell q57, p58⟩] (mkT [(p58, (vI t58)), (p57, t57)]) h63) (
 asB t49 fun t49a =>
 br t49a (
 cellsC 17 t4 h63 fun t51 =>
 cal D 52 [t51] h63 fun t52 h64 =>
 br (again [⟨none, .cell q57, p58⟩] (mkT [(p58, (vI t58)), (p57, t57)]) h64) (
 asB t52 fun t52a =>
 S29_16 D m g14 t0 t2 t4 t6 t30 t31 t32 t52a t58 h64) none) (
 S29_16 D m g14 t0 t2 t4 t6 t30 t31 t32 false t58 h63)) none) (
 faC 16 t4 fun t57 =>
 ldI t57 h61 fun t58 =>
 S29_17 D m g14 t0 t2 t4 t6 t30 t31 t32 false false t58 h61))) (
 S29_0 D m t0 t2 t4 t6 h)
def S29_14 (D : CallD) (m : Nat) : AV → AV → AV → AV → AV → Int → Int → HP → Res2 := nrec (fun _ _ _ _ _ _ _ _ => none) (fun _ g => S29_14b D m g) m
def e29_19 (k t0 t1 t2 h) := kN k [(p0, t0), (p1, t1), (p2, t2)] h
def S29_19 (D : CallD) (m : Nat) (t0 t1 t2 : AV) (h : HP) : Res2 :=
 let t4 := AV.ptr (HP.nxQ h) 0
 let h20 := HP.newQ h (.cells true (AV.cells t1))
 let t6 := AV.ptr (HP.nxQ h20) 0
 let h21 := HP.newQ h20 (.cells true [(.bool false), (.bool false), (.bool false), (.str []), (kI 0), (kI 0), .nils, (.bool false), .nils, (kI 0), .nils, .nils, (.str []), (kI 0), (kI 0), (kI 0), (kI 0)])
 let t20 := (AV.ptr (HP.nxQ h) (Nat.add 0 3))
 ldS t20 h21 fun t21 =>
 let t7 := AV.ptr (HP.nxQ h21) 0
 let h22 := HP.newQ h21 (.cells true [(.bool false), (.bool false), (.bool false), (.str []), (kI 0), (kI 0), .nils, (.bool false), .nils, (kI 0), .nils, .nils, (.str []), (kI 0), (kI 0), (kI 0), (kI 0), (.str [])])
 cal D 28 [] h22 fun t19 h23 =>
 br (again [⟨none, .cell q20, p21⟩] (mkT [(p21, (vS t21)), (p20, t20)]) h23) (
 obQ (evL (.look .str (.agg [(.bool false), (.bool false), (.bool false), (.str []), (kI 0), (kI 0), .nils, (.bool false), .nils, (kI 0), .nils, .nils, (.str []), (kI 0), (kI 0), (kI 0), (kI 0), (.str [])]) true (.c t19) (.c (vS t21))) .leaf h23) fun t22 =>
 extC t22 0 fun t23 =>
 extC t22 1 fun vt24 => asB vt24 fun t24 =>
 stsC 18 t7 t23 h23 fun h24 =>
 let t26 := !t24
 let t27 := (AV.ptr (HP.nxQ h) (Nat.add 0 16))
 ldI t27 h24 fun t28 =>
 cal D 30 [(vB t26), (vI (Int.ofNat 13)), (vI t28)] h24 fun t29 h25 =>
 lenC t2 fun vt31 => asI .i64 vt31 fun t31 =>
 S29_14 D m t0 t2 t4 t6 t2 t31 (Int.ofNat 0) h25) none
def S29 : SFn := fun D m args h u => nou u <| popV args fun t0 args => popV args fun t1 args => popV args fun t2 args => endA args (S29_19 D m t0 t1 t2 h)
theorem T29_7 (hE : FX x29 D m E) : S29_7 D m = e29_7 (E c29_7 []) := by unfold S29_7; rw [hE c29_7]; kernel_rfl
theorem T29_6 (hE : FX x29 D m E) : S29_6 D m = e29_6 (E c29_6 []) := by unfold S29_6; rw [T29_7 hE, hE c29_6]; kernel_rfl
theorem T29_8b (hE : FX x29 D m E) (G8) : S29_8b D m (e29_8 G8) = e29_8 (E c29_8b [.lp v29_8 G8, .blk 6, .sj v29_6 c29_6]) := by unfold S29_8b; rw [T29_6 hE, hE c29_8b]; kernel_rfl
theorem T29_8 (hE : FX x29 D m E) : S29_8 D m = e29_8 (nrec (fun _ => none) (fun _ G8 st => E c29_8b [.lp v29_8 G8, .blk 6, .sj v29_6 c29_6] st) m) :=
  nrec_emb e29_8 (fun _ _ _ _ _ _ => none) (fun g => S29_8b D m g) (fun G8 st => E c29_8b [.lp v29_8 G8, .blk 6, .sj v29_6 c29_6] st) rfl (fun g => T29_8b hE g) m
theorem T29_5 (hE : FX x29 D m E) : S29_5 D m = e29_5 (E c29_5 []) := by unfold S29_5; rw [T29_8 hE, hE c29_5]; kernel_rfl
theorem T29_9b (hE : FX x29 D m E) (G9) : S29_9b D m (e29_9 G9) = e29_9 (E c29_9b [.lp v29_9 G9, .blk 4, .sj v29_5 c29_5]) := by unfold S29_9b; rw [T29_5 hE, hE c29_9b]; kernel_rfl
theorem T29_9 (hE : FX x29 D m E) : S29_9 D m = e29_9 (nrec (fun _ => none) (fun _ G9 st => E c29_9b [.lp v29_9 G9, .blk 4, .sj v29_5 c29_5] st) m) :=
  nrec_emb e29_9 (fun _ _ _ _ _ _ _ => none) (fun g => S29_9b D m g) (fun G9 st => E c29_9b [.lp v29_9 G9, .blk 4, .sj v29_5 c29_5] st) rfl (fun g => T29_9b hE g) m
theorem T29_4 (hE : FX x29 D m E) : S29_4 D m = e29_4 (E (.opq true l29_4 c29_10) []) := by unfold S29_4; rw [T29_9 hE, hE (.opq true l29_4 c29_10)]; kernel_rfl
theorem T29_3 (hE : FX x29 D m E) : S29_3 D m = e29_3 (E (.opq true l29_3 c29_10) []) := by unfold S29_3; rw [T29_4 hE, hE (.opq true l29_3 c29_10)]; kernel_rfl
theorem T29_2 (hE : FX x29 D m E) : S29_2 D m = e29_2 (E (.opq true l29_2 c29_10) []) := by unfold S29_2; rw [T29_3 hE, hE (.opq true l29_2 c29_10)]; kernel_rfl
theorem T29_1 (hE : FX x29 D m E) : S29_1 D m = e29_1 (E c29_1 []) := by unfold S29_1; rw [T29_4 hE, T29_2 hE, T29_3 hE, hE c29_1]; kernel_rfl
theorem T29_12 (hE : FX x29 D m E) (G11) : S29_12 D m (e29_11 G11) = e29_12 (E c29_12 [.lp v29_11 G11, .blk 2, .sj v29_1 c29_1]) := by unfold S29_12; rw [hE c29_12]; kernel_rfl
theorem T29_13 (hE : FX x29 D m E) (G11) : S29_13 D m (e29_11 G11) = e29_13 (E (.ops true l29_13) [.blk 3, .sj v29_12 c29_12, .lp v29_11 G11, .blk 2, .sj v29_1 c29_1]) := by unfold S29_13; rw [T29_12 hE G11, hE (.ops true l29_13)]; kernel_rfl
theorem T29_11b (hE : FX x29 D m E) (G11) : S29_11b D m (e29_11 G11) = e29_11 (E c29_11b [.lp v29_11 G11, .blk 2, .sj v29_1 c29_1]) := by unfold S29_11b; rw [T29_13 hE G11, T29_1 hE, hE c29_11b]; kernel_rfl
theorem T29_11 (hE : FX x29 D m E) : S29_11 D m = e29_11 (nrec (fun _ => none) (fun _ G11 st => E c29_11b [.lp v29_11 G11, .blk 2, .sj v29_1 c29_1] st) m) :=
  nrec_emb e29_11 (fun _ _ _ _ _ _ _ => none) (fun g => S29_11b D m g) (fun G11 st => E c29_11b [.lp v29_11 G11, .blk 2, .sj v29_1 c29_1] st) rfl (fun g => T29_11b hE g) m
theorem T29_0 (hE : FX x29 D m E) : S29_0 D m = e29_0 (E c29_0 []) := by unfold S29_0; rw [T29_11 hE, hE c29_0]; kernel_rfl
theorem T29_15 (hE : FX x29 D m E) (G14) : S29_15 D m (e29_14 G14) = e29_15 (E c29_15 [.lp v29_14 G14, .blk 0, .sj v29_0 c29_0]) := by unfold S29_15; rw [hE c29_15]; kernel_rfl
theorem T29_18 (hE : FX x29 D m E) (G14) : S29_18 D m (e29_14 G14) = e29_18 (E (.ops true l29_18) [.blk 1, .sj v29_15 c29_15, .lp v29_14 G14, .blk 0, .sj v29_0 c29_0]) := by unfold S29_18; rw [T29_15 hE G14, hE (.ops true l29_18)]; kernel_rfl
theorem T29_17 (hE : FX x29 D m E) (G14) : S29_17 D m (e29_14 G14) = e29_17 (E (.ops true l29_17) [.blk 1, .sj v29_15 c29_15, .lp v29_14 G14, .blk 0, .sj v29_0 c29_0]) := by unfold S29_17; rw [T29_18 hE G14, hE (.ops true l29_17)]; kernel_rfl
theorem T29_16 (hE : FX x29 D m E) (G14) : S29_16 D m (e29_14 G14) = e29_16 (E (.ops true l29_16) [.blk 1, .sj v29_15 c29_15, .lp v29_14 G14, .blk 0, .sj v29_0 c29_0]) := by unfold S29_16; rw [T29_17 hE G14, hE (.ops true l29_16)]; kernel_rfl
theorem T29_14b (hE : FX x29 D m E) (G14) : S29_14b D m (e29_14 G14) = e29_14 (E c29_14b [.lp v29_14 G14, .blk 0, .sj v29_0 c29_0]) := by unfold S29_14b; rw [T29_18 hE G14, T29_16 hE G14, T29_17 hE G14, T29_0 hE, hE c29_14b]; kernel_rfl
theorem T29_14 (hE : FX x29 D m E) : S29_14 D m = e29_14 (nrec (fun _ => none) (fun _ G14 st => E c29_14b [.lp v29_14 G14, .blk 0, .sj v29_0 c29_0] st) m) :=
  nrec_emb e29_14 (fun _ _ _ _ _ _ _ _ => none) (fun g => S29_14b D m g) (fun G14 st => E c29_14b [.lp v29_14 G14, .blk 0, .sj v29_0 c29_0] st) rfl (fun g => T29_14b hE g) m
theorem T29_19 (hE : FX x29 D m E) : S29_19 D m = e29_19 (E c29_e []) := by unfold S29_19; rw [T29_14 hE, hE c29_e]; kernel_rfl
theorem X29 : XTie S29 x29 := X_of fun D m E hE args h u => by unfold S29; rw [T29_19 hE]; kernel_rfl
/- 30 -/
def c30_e : XC := (.sO [.mv p6 q0 .b, .P p7 (.un .not q6) .b] (.cond q7 (.s (.oX [.mv p8 q2 tI, .mv p9 q1 tI, .P p10 (.build [(kI 0), (kI 0)] [⟨0, 1, q8⟩, ⟨1, 1, q9⟩]) .v, .P p11 (.mkif 82 q10) .v, .o ⟨none, (.panic q11), none, []⟩ .v])) (.s .skip)))
def x30 : XFn := ⟨[.b, tI, tI], false, [], c30_e⟩
def e30_0 (k t0 t1 t2 h) := kN k [(p0, (vB t0)), (p1, (vI t1)), (p2, (vI t2))] h
def S30_0 (D : CallD) (m : Nat) (t0 : Bool) (t1 t2 : Int) (h : HP) : Res2 :=
 let t7 := !t0
 br t7 (
 let t10 := (AV.agg [(vI t2), (vI t1)])
 let t11 := (AV.iface 82 t10)
 some (.pan [(.iface 82 t10, false)] h, .no)) (
 some (.ret (.tup []) h, .no))
def S30 : SFn := fun D m args h u => nou u <| popB args fun t0 args => popI .i64 args fun t1 args => popI .i64 args fun t2 args => endA args (S30_0 D m t0 t1 t2 h)
theorem T30_0 (hE : FX x30 D m E) : S30_0 D m = e30_0 (E c30_e []) := by unfold S30_0; rw [hE c30_e]; kernel_rfl
theorem X30 : XTie S30 x30 := X_of fun D m E hE args h u => by unfold S30; rw [T30_0 hE]; kernel_rfl
/- 35 -/
def c35_e : XC := (.sO [.o ⟨(some p6), .recover, none, []⟩ .v, .P p7 (.tassert 98 (.agg [(kI 0), (kI 0)]) true q6) .v, .mv p5 q7 .v, .P p8 (.ext q5 0) .v, .P p9 (.ext q5 1) .b, .al p3 (.new [(kI 0), (kI 0)]), .ss 2 q3 q8, .mv p4 q9 .b] (.sO [.mv p10 q4 .b] (.cond q10 (.s (.ops true (XL.of [.fa p11 0 q3, .ld p12 q11 tI, .fa p13 1 q3, .ld p14 q13 tI, .o ⟨none, (.e (.store q0 (.c .nils))), none, [⟨none, .cell q11, p12⟩, ⟨none, .cell q13, p14⟩]⟩ .v, .o ⟨none, (.e (.store q1 q12)), none, [⟨none, .cell q13, p14⟩]⟩ .v, .st q2 q14]))) (.s .skip))))
def x35 : XFn := ⟨[.v, .v, .v], true, [], c35_e⟩
def e35_0 (k : St → Res2) (t0 t1 t2 : AV) (h : HP) (u : AMode) : Res2 := k ⟨mkT [(p0, t0), (p1, t1), (p2, t2)], h, [], u⟩
def S35_0 (D : CallD) (m : Nat) (t0 t1 t2 : AV) (h : HP) (u : AMode) : Res2 :=
 recC u fun t6 u1 =>
 obQ (evP (.tassert 98 (.agg [(kI 0), (kI 0)]) true (.c t6)) .leaf) fun t7 =>
 extC t7 0 fun t8 =>
 extC t7 1 fun vt9 => asB vt9 fun t9 =>
 let t3 := AV.ptr (HP.nxQ h) 0
 let h2 := HP.newQ h (.cells true [(kI 0), (kI 0)])
 stsC 2 t3 t8 h2 fun h3 =>
 br t9 (
 let t11 := (AV.ptr (HP.nxQ h) (Nat.add 0 0))
 ldI t11 h3 fun t12 =>
 let t13 := (AV.ptr (HP.nxQ h) (Nat.add 0 1))
 ldI t13 h3 fun t14 =>
 stoC t0 (.nils : AV) h3 fun h4 =>
 br (againE (.store q0 (.c .nils)) [⟨none, .cell q11, p12⟩, ⟨none, .cell q13, p14⟩] (mkT [(p0, t0), (p14, (vI t14)), (p13, t13), (p12, (vI t12)), (p11, t11)]) h4) (
 stoC t1 (vI t12) h4 fun h5 =>
 br (againE (.store q1 q12) [⟨none, .cell q13, p14⟩] (mkT [(p1, t1), (p14, (vI t14)), (p13, t13)]) h5) (
 stoC t2 (vI t14) h5 fun h6 =>
 some (.ret (.tup []) h6, u1)) none) none) (
 some (.ret (.tup []) h3, u1))
def S35 : SFn := fun D m args h u => popV args fun t0 args => popV args fun t1 args => popV args fun t2 args => endA args (S35_0 D m t0 t1 t2 h u)
theorem T35_0 (hE : FX x35 D m E) : S35_0 D m = e35_0 (E c35_e []) := by unfold S35_0; rw [hE c35_e]; kernel_rfl
theorem X35 : XTie S35 x35 := X_of fun D m E hE args h u => by unfold S35; rw [T35_0 hE]; kernel_rfl
/- 36 -/
def v36_0 : List Pos := [p1]
def c36_0 : XC := (.sO [.mv p44 q1 tI, .mv p4 q44 tI] (.s .ret))
def v36_2 : List Pos := [p0, p1, p6]
def c36_2 : XC := (.s (.oX [.mv p40 q1 tI, .mv p41 q6 tI, .bn p42 .add q41 (ci 4) tI, .bn p43 .add q40 q42 tI, .mv p1 q43 tI]))
def v36_1 : List Pos := [p0, p1]
def c36_1b : XC := (.seq (.seq (.oX [.mv p7 q1 tI, .mv p8 q0 .s, .P p9 (.lens q8) tI, .bn p10 .lss q7 q9 .b]) (.cond q10 .skip (.exit 0))) (.block 1 (.sO [.mv p11 q0 .s, .mv p12 q1 tI, .P p13 (.slice .str q11 (some q12) none none) .s, .mv p5 q13 .s] (.block 2 (.sO [.mv p16 q5 .s, .P p17 (.idxs q16 (ci 0)) tC, .cl p18 61 [(.c (.str [32, 9, 10, 13])), q17] tI, .bn p19 .geq q18 (ci 0) .b, .mv p15 q19 .b] (.cond q15 (.s (.oX [.mv p20 q1 tI, .bn p21 .add q20 (ci 1) tI, .mv p1 q21 tI])) (.sO [.mv p23 q5 .s, .cl p24 62 [q23, (.c (.str [47, 47]))] .b, .mv p22 q24 .b] (.cond q22 (.s (.oX [.mv p25 q1 tI, .mv p26 q5 .s, .cl p27 63 [q26, (.c (.fn 64 [] []))] tI, .bn p28 .add q25 q27 tI, .mv p1 q28 tI])) (.sO [.mv p30 q5 .s, .cl p31 62 [q30, (.c (.str [47, 42]))] .b, .mv p29 q31 .b] (.cond q29 (.sO [.mv p32 q5 .s, .P p33 (.slice .str q32 (some (ci 2)) none none) .s, .cl p34 65 [q33, (.c (.str [42, 47]))] tI, .mv p6 q34 tI] (.sj v36_2 (.sO [.mv p35 q6 tI, .bn p36 .lss q35 (ci 0) .b] (.cond q36 (.s (.oX [.mv p37 q1 tI, .P p38 (.build [(kI 0), (kI 0)] [⟨0, 1, q37⟩, ⟨1, 1, (ci 10)⟩]) .v, .P p39 (.mkif 98 q38) .v, .o ⟨none, (.panic q39), none, []⟩ .v])) (.s .skip))) c36_2)) (.sO [.mv p14 q1 tI, .mv p4 q14 tI] (.s .ret))))))))))))
def c36_e : XC := (.sO [.mv p4 (ci 0) tI] (.sj v36_0 (.block 0 (.loop v36_1 c36_1b)) c36_0))
def x36 : XFn := ⟨[.s, tI], false, [(.tmp p4)], c36_e⟩
def e36_0 (k t1 h) := kN k [(p1, (vI t1))] h
def S36_0 (D : CallD) (m : Nat) (t1 : Int) (h : HP) : Res2 :=
 some (.ret (vI t1) h, .no)
def e36_2 (k t0 t1 t6 h) := kN k [(p0, (vS t0)), (p1, (vI t1)), (p6, (vI t6))] h
def S36_2 (D : CallD) (m : Nat) (g1 : LN → Int → HP → Res2) (t0 : LN) (t1 t6 : Int) (h : HP) : Res2 :=
 let t42 := wrQ .i64 (addQ t6 (Int.ofNat 4))
 let t43 := wrQ .i64 (addQ t1 t42)
 g1 t0 t43 h
def e36_1 (k t0 t1 h) := kN k [(p0, (vS t0)), (p1, (vI t1))] h
def S36_1b (D : CallD) (m : Nat) (g1 : LN → Int → HP → Res2) (t0 : LN) (t1 : Int) (h : HP) : Res2 :=
 let t9 := Int.ofNat (lenL t0)
 let t10 := ltQ t1 t9
 br t10 (
 slC (vS t0) (some (vI t1)) none fun vt13 => asS vt13 fun t13 =>
 ixC (vS t13) (vI (Int.ofNat 0)) fun vt17 => asI .u8 vt17 fun t17 =>
 cal D 61 [(vS ([32, 9, 10, 13] : LN)), (vC t17)] h fun t18 h4 =>
 asI .i64 t18 fun t18a =>
 let t19 := leQ (Int.ofNat 0) t18a
 br t19 (
 let t21 := wrQ .i64 (addQ t1 (Int.ofNat 1))
 g1 t0 t21 h4) (
 cal D 62 [(vS t13), (vS ([47, 47] : LN))] h4 fun t24 h5 =>
 asB t24 fun t24a =>
 br t24a (
 cal D 63 [(vS t13), ((.fn 64 [] []) : AV)] h5 fun t27 h6 =>
 asI .i64 t27 fun t27a =>
 let t28 := wrQ .i64 (addQ t1 t27a)
 g1 t0 t28 h6) (
 cal D 62 [(vS t13), (vS ([47, 42] : LN))] h5 fun t31 h7 =>
 asB t31 fun t31a =>
 br t31a (
 slC (vS t13) (some (vI (Int.ofNat 2))) none fun vt33 => asS vt33 fun t33 =>
 cal D 65 [(vS t33), (vS ([42, 47] : LN))] h7 fun t34 h8 =>
 asI .i64 t34 fun t34a =>
 let t36 := ltQ t34a (Int.ofNat 0)
 br t36 (
 let t38 := (AV.agg [(vI t1), (vI (Int.ofNat 10))])
 let t39 := (AV.iface 98 t38)
 some (.pan [(.iface 98 t38, false)] h8, .no)) (
 S36_2 D m g1 t0 t1 t34a h8)) (
 some (.ret (vI t1) h7, .no))))) (
 S36_0 D m t1 h)
def S36_1 (D : CallD) (m : Nat) : LN → Int → HP → Res2 := nrec (fun _ _ _ => none) (fun _ g => S36_1b D m g) m
def e36_3 (k t0 t1 h) := kN k [(p0, (vS t0)), (p1, (vI t1))] h
def S36_3 (D : CallD) (m : Nat) (t0 : LN) (t1 : Int) (h : HP) : Res2 :=
 S36_1 D m t0 t1 h
def S36 : SFn := fun D m args h u => nou u <| popS args fun t0 args => popI .i64 args fun t1 args => endA args (S36_3 D m t0 t1 h)
theorem T36_0 (hE : FX x36 D m E) : S36_0 D m = e36_0 (E c36_0 []) := by unfold S36_0; rw [hE c36_0]; kernel_rfl
theorem T36_2 (hE : FX x36 D m E) (G1) : S36_2 D m (e36_1 G1) = e36_2 (E c36_2 [.blk 2, .blk 1, .lp v36_1 G1, .blk 0, .sj v36_0 c36_0]) := by unfold S36_2; rw [hE c36_2]; kernel_rfl
theorem T36_1b (hE : FX x36 D m E) (G1) : S36_1b D m (e36_1 G1) = e36_1 (E c36_1b [.lp v36_1 G1, .blk 0, .sj v36_0 c36_0]) := by unfold S36_1b; rw [T36_2 hE G1, T36_0 hE, hE c36_1b]; kernel_rfl
theorem T36_1 (hE : FX x36 D m E) : S36_1 D m = e36_1 (nrec (fun _ => none) (fun _ G1 st => E c36_1b [.lp v36_1 G1, .blk 0, .sj v36_0 c36_0] st) m) :=
  nrec_emb e36_1 (fun _ _ _ => none) (fun g => S36_1b D m g) (fun G1 st => E c36_1b [.lp v36_1 G1, .blk 0, .sj v36_0 c36_0] st) rfl (fun g => T36_1b hE g) m
theorem T36_3 (hE : FX x36 D m E) : S36_3 D m = e36_3 (E c36_e []) := by unfold S36_3; rw [T36_1 hE, hE c36_e]; kernel_rfl
theorem X36 : XTie S36 x36 := X_of fun D m E hE args h u => by unfold S36; rw [T36_3 hE]; kernel_rfl
/- 37 -/
def v37_1 : List Pos := [p1, p4, p5, p6, p7]
def c37_1 : XC := (.sO [.mv p55 q6 tI, .mv p56 q5 .s, .mv p57 q7 tI, .P p58 (.slice .str q56 none (some q57) none) .s, .mv p59 q1 tI, .P p60 (.build [(kI 0), (.str []), (kI 0)] [⟨0, 1, q55⟩, ⟨1, 1, q58⟩, ⟨2, 1, q59⟩]) .v, .ss 3 q4 q60] (.s .ret))
def v37_0 : List Pos := [p1, p4, p5, p6, p7]
def c37_0 : XC := (.sj v37_1 (.sO [.mv p50 q6 tI, .bn p51 .eql q50 (ci 0) .b] (.cond q51 (.s (.oX [.mv p52 q1 tI, .P p53 (.build [(kI 0), (kI 0)] [⟨0, 1, q52⟩, ⟨1, 1, (ci 10)⟩]) .v, .P p54 (.mkif 98 q53) .v, .o ⟨none, (.panic q54), none, []⟩ .v])) (.s .skip))) c37_1)
def c37_3 : XC := (.cond q49 (.s (.oX [.mv p7 (ci 2) tI])) (.s .skip))
def l37_2 : XL := (XL.of [.mv p45 q44 .b, .ge p45 (XL.of [.G p45 true p46 (.mov q5) .s, .G p45 true p47 (.idxs q46 (ci 1)) tC, .G p45 true p48 (.bin .neq q47 (.c (.int .u8 (.ofNat 32)))) .b, .P p49 (.pick q45 q48 (cb false)) .b]) p49 .b])
def c37_e : XC := (.sO [.al p4 (.new [(kI 0), (.str []), (kI 0)])] (.sO [.mv p9 q0 .s, .mv p10 q1 tI, .P p11 (.slice .str q9 (some q10) none none) .s, .mv p5 q11 .s] (.sO [.mv p6 (ci 0) tI, .mv p7 (ci 0) tI] (.sj v37_0 (.sO [.mv p12 q5 .s, .P p13 (.idxs q12 (ci 0)) tC, .mv p8 q13 tC] (.block 0 (.sO [.mv p15 q8 tC, .cl p16 66 [q15] .b, .mv p14 q16 .b] (.cond q14 (.sO [.mv p17 q5 .s, .cl p18 63 [q17, (.c (.fn 67 [] []))] tI, .mv p7 q18 tI] (.sO [.mv p6 (ci 1) tI] (.sO [.mv p19 q5 .s, .mv p20 q7 tI, .P p21 (.slice .str q19 none (some q20) none) .s, .cl p22 69 [q21] .b] (.cond q22 (.s (.oX [.mv p6 (ci 5) tI])) (.sO [.mv p23 q7 tI, .bn p24 .gtr q23 (ci 40) .b] (.cond q24 (.s (.oX [.mv p6 (ci 0) tI])) (.s .skip))))))) (.sO [.mv p26 q8 tC, .cl p27 68 [q26] .b, .mv p25 q27 .b] (.cond q25 (.s (.oX [.mv p29 q5 .s, .cl p30 70 [q29] .v, .mv p28 q30 .v, .P p31 (.ext q28 0) tI, .P p32 (.ext q28 1) tI, .mv p6 q31 tI, .mv p7 q32 tI])) (.sO [.mv p34 q8 tC, .cl p35 61 [(.c (.str [43, 45, 42, 47, 37, 38, 124, 94, 126, 33, 60, 62, 61, 40, 41, 123, 125, 91, 93, 59, 44])), q34] tI, .bn p36 .geq q35 (ci 0) .b, .mv p33 q36 .b] (.cond q33 (.sO [.mv p6 (ci 4) tI, .mv p7 (ci 1) tI] (.opq false (XL.pre [.mv p37 q5 .s, .P p38 (.lens q37) tI, .bn p39 .gtr q38 (ci 1) .b, .mv p40 q39 .b, .sp p40, .G p40 true p41 (.mov q5) .s, .G p40 true p42 (.slice .str q41 none (some (ci 2)) none) .s, .o ⟨(some p43), (.call (.fn 71) [(.c (.str [60, 60, 32, 62, 62, 32, 60, 61, 32, 62, 61, 32, 61, 61, 32, 33, 61, 32, 38, 38, 32, 124, 124])), q42]), (some (p40, true)), []⟩ .b, .P p44 (.pick q40 q43 (cb false)) .b, .jn p40 [p1, p4, p5, p6, p7, p44]] l37_2) c37_3)) (.s .skip))))))))) c37_0))))
def x37 : XFn := ⟨[.s, tI], false, [(.cells 3 p4)], c37_e⟩
def e37_1 (k t1 t4 t5 t6 t7 h) := kN k [(p1, (vI t1)), (p4, t4), (p5, (vS t5)), (p6, (vI t6)), (p7, (vI t7))] h
def S37_1 (D : CallD) (m : Nat) (t1 : Int) (t4 : AV) (t5 : LN) (t6 t7 : Int) (h : HP) : Res2 :=
 slC (vS t5) none (some (vI t7)) fun vt58 => asS vt58 fun t58 =>
 let t60 := (AV.agg [(vI t6), (vS t58), (vI t1)])
 stsC 3 t4 t60 h fun h6 =>
 cellsC 3 t4 h6 fun t4a =>
 some (.ret t4a h6, .no)
def e37_0 (k t1 t4 t5 t6 t7 h) := kN k [(p1, (vI t1)), (p4, t4), (p5, (vS t5)), (p6, (vI t6)), (p7, (vI t7))] h
def S37_0 (D : CallD) (m : Nat) (t1 : Int) (t4 : AV) (t5 : LN) (t6 t7 : Int) (h : HP) : Res2 :=
 let t51 := eqQ t6 (Int.ofNat 0)
 br t51 (
 let t53 := (AV.agg [(vI t1), (vI (Int.ofNat 10))])
 let t54 := (AV.iface 98 t53)
 some (.pan [(.iface 98 t53, false)] h, .no)) (
 S37_1 D m t1 t4 t5 t6 t7 h)
def e37_2 (k t1 t4 t5 t6 t7 t44 h) := kN k [(p1, (vI t1)), (p4, t4), (p5, (vS t5)), (p6, (vI t6)), (p7, (vI t7)), (p44, (vB t44))] h
def S37_2 (D : CallD) (m : Nat) (t1 : Int) (t4 : AV) (t5 : LN) (t6 t7 : Int) (t44 : Bool) (h : HP) : Res2 :=
 obB (brV t44 (
 ixCV (vS t5) (vI (Int.ofNat 1)) fun vt47 => asIV .u8 vt47 fun t47 =>
 let t48 := notQ (eqQ t47 (Int.ofNat 32))
 some (vB t48)) (
 some (vB false))) fun t49 =>
 br t49 (
 S37_0 D m t1 t4 t5 t6 (Int.ofNat 2) h) (
 S37_0 D m t1 t4 t5 t6 t7 h)
def e37_4 (k t0 t1 h) := kN k [(p0, (vS t0)), (p1, (vI t1))] h
def S37_4 (D : CallD) (m : Nat) (t0 : LN) (t1 : Int) (h : HP) : Res2 :=
 let t4 := AV.ptr (HP.nxQ h) 0
 let h5 := HP.newQ h (.cells true [(kI 0), (.str []), (kI 0)])
 slC (vS t0) (some (vI t1)) none fun vt11 => asS vt11 fun t11 =>
 ixC (vS t11) (vI (Int.ofNat 0)) fun vt13 => asI .u8 vt13 fun t13 =>
 cal D 66 [(vC t13)] h5 fun t16 h7 =>
 asB t16 fun t16a =>
 br t16a (
 cal D 63 [(vS t11), ((.fn 67 [] []) : AV)] h7 fun t18 h8 =>
 asI .i64 t18 fun t18a =>
 slC (vS t11) none (some (vI t18a)) fun vt21 => asS vt21 fun t21 =>
 cal D 69 [(vS t21)] h8 fun t22 h9 =>
 asB t22 fun t22a =>
 br t22a (
 S37_0 D m t1 t4 t11 (Int.ofNat 5) t18a h9) (
 let t24 := ltQ (Int.ofNat 40) t18a
 br t24 (
 S37_0 D m t1 t4 t11 (Int.ofNat 0) t18a h9) (
 S37_0 D m t1 t4 t11 (Int.ofNat 1) t18a h9))) (
 cal D 68 [(vC t13)] h7 fun t27 h10 =>
 asB t27 fun t27a =>
 br t27a (
 cal D 70 [(vS t11)] h10 fun t30 h11 =>
 extC t30 0 fun vt31 => asI .i64 vt31 fun t31 =>
 extC t30 1 fun vt32 => asI .i64 vt32 fun t32 =>
 S37_0 D m t1 t4 t11 t31 t32 h11) (
 cal D 61 [(vS ([43, 45, 42, 47, 37, 38, 124, 94, 126, 33, 60, 62, 61, 40, 41, 123, 125, 91, 93, 59, 44] : LN)), (vC t13)] h10 fun t35 h12 =>
 asI .i64 t35 fun t35a =>
 let t36 := leQ (Int.ofNat 0) t35a
 br t36 (
 let t38 := Int.ofNat (lenL t11)
 let t39 := ltQ (Int.ofNat 1) t38
 br t39 (
 slC (vS t11) none (some (vI (Int.ofNat 2))) fun vt42 => asS vt42 fun t42 =>
 cal D 71 [(vS ([60, 60, 32, 62, 62, 32, 60, 61, 32, 62, 61, 32, 61, 61, 32, 33, 61, 32, 38, 38, 32, 124, 124] : LN)), (vS t42)] h12 fun t43 h13 =>
 asB t43 fun t43a =>
 S37_2 D m t1 t4 t11 (Int.ofNat 4) (Int.ofNat 1) t43a h13) (
 S37_2 D m t1 t4 t11 (Int.ofNat 4) (Int.ofNat 1) false h12)) (
 S37_0 D m t1 t4 t11 (Int.ofNat 0) (Int.ofNat 0) h12)))
def S37 : SFn := fun D m args h u => nou u <| popS args fun t0 args => popI .i64 args fun t1 args => endA args (S37_4 D m t0 t1 h)
theorem T37_1 (hE : FX x37 D m E) : S37_1 D m = e37_1 (E c37_1 []) := by unfold S37_1; rw [hE c37_1]; kernel_rfl
theorem T37_0 (hE : FX x37 D m E) : S37_0 D m = e37_0 (E c37_0 []) := by unfold S37_0; rw [T37_1 hE, hE c37_0]; kernel_rfl
theorem T37_2 (hE : FX x37 D m E) : S37_2 D m = e37_2 (E (.opq false l37_2 c37_3) [.blk 0, .sj v37_0 c37_0]) := by unfold S37_2; rw [T37_0 hE, hE (.opq false l37_2 c37_3)]; kernel_rfl
theorem T37_4 (hE : FX x37 D m E) : S37_4 D m = e37_4 (E c37_e []) := by unfold S37_4; rw [T37_0 hE, T37_2 hE, hE c37_e]; kernel_rfl
theorem X37 : XTie S37 x37 := X_of fun D m E hE args h u => by unfold S37; rw [T37_4 hE]; kernel_rfl
/- 38 -/
def c38_e : XC := (.sO [.mv p4 (cb false) .b] (.seq (.seq (.oX [.mv p5 q0 .v, .mv p6 q1 .s, .al p7 (.bsl [(.str [])] 1 [⟨0, 1, q6⟩]), .cl p8 42 [q5, q7] .b]) (.cond q8 (.seq (.oX [.mv p9 q0 .v, .P p10 (.nilck q9) .v, .fa p11 1 q10, .ld p12 q11 tI, .bn p13 .add q12 (ci 1) tI, .P p14 (.nilck q9) .v, .fa p15 1 q14, .st q15 q13]) (.seq (.oX [.mv p4 (cb true) .b]) .ret)) .skip)) (.sO [.mv p4 (cb false) .b] (.s .ret))))
def x38 : XFn := ⟨[.v, .s], false, [(.tmp p4)], c38_e⟩
def e38_0 (k t0 t1 h) := kN k [(p0, t0), (p1, (vS t1))] h
def S38_0 (D : CallD) (m : Nat) (t0 : AV) (t1 : LN) (h : HP) : Res2 :=
 let t7 := AV.slice (HP.nxQ h) 0 1 (.exact 1)
 let h1 := HP.newQ h (.cells true [(vS t1)])
 cal D 42 [t0, t7] h1 fun t8 h2 =>
 asB t8 fun t8a =>
 br t8a (
 nilckC t0 fun t10 =>
 faC 1 t10 fun t11 =>
 ldI t11 h2 fun t12 =>
 let t13 := wrQ .i64 (addQ t12 (Int.ofNat 1))
 nilckC t0 fun t14 =>
 faC 1 t14 fun t15 =>
 stoC t15 (vI t13) h2 fun h3 =>
 some (.ret (vB true) h3, .no)) (
 some (.ret (vB false) h2, .no))
def S38 : SFn := fun D m args h u => nou u <| popV args fun t0 args => popS args fun t1 args => endA args (S38_0 D m t0 t1 h)
theorem T38_0 (hE : FX x38 D m E) : S38_0 D m = e38_0 (E c38_e []) := by unfold S38_0; rw [hE c38_e]; kernel_rfl
theorem X38 : XTie S38 x38 := X_of fun D m E hE args h u => by unfold S38; rw [T38_0 hE]; kernel_rfl
/- 39 -/
def c39_e : XC := (.sO [.mv p2 (ci 0) tI] (.seq (.block 0 (.seq (.oX [.mv p4 q0 .v, .cl p5 38 [q4, (.c (.str [105, 110, 116]))] .b, .mv p3 q5 .b]) (.cond q3 (.seq (.seq (.oX [.mv p6 q0 .v, .cl p7 38 [q6, (.c (.str [42]))] .b]) (.cond q7 (.seq (.oX [.mv p2 (ci 3) tI]) .ret) .skip)) (.seq (.oX [.mv p2 (ci 1) tI]) .ret)) (.seq (.oX [.mv p9 q0 .v, .cl p10 38 [q9, (.c (.str [100, 111, 117, 98, 108, 101]))] .b, .mv p8 q10 .b]) (.cond q8 (.seq (.seq (.oX [.mv p11 q0 .v, .cl p12 38 [q11, (.c (.str [42]))] .b]) (.cond q12 (.seq (.oX [.mv p2 (ci 4) tI]) .ret) .skip)) (.seq (.oX [.mv p2 (ci 2) tI]) .ret)) .skip))))) (.sO [.mv p13 q0 .v, .cl p14 44 [q13, (.c (.str [118, 111, 105, 100]))] .v] (.sO [.mv p2 (ci 0) tI] (.s .ret)))))
def x39 : XFn := ⟨[.v], false, [(.tmp p2)], c39_e⟩
def e39_0 (k t0 h) := kN k [(p0, t0)] h
def S39_0 (D : CallD) (m : Nat) (t0 : AV) (h : HP) : Res2 :=
 cal D 38 [t0, (vS ([105, 110, 116] : LN))] h fun t5 h1 =>
 asB t5 fun t5a =>
 br t5a (
 cal D 38 [t0, (vS ([42] : LN))] h1 fun t7 h2 =>
 asB t7 fun t7a =>
 br t7a (
 some (.ret (vI (Int.ofNat 3)) h2, .no)) (
 some (.ret (vI (Int.ofNat 1)) h2, .no))) (
 cal D 38 [t0, (vS ([100, 111, 117, 98, 108, 101] : LN))] h1 fun t10 h3 =>
 asB t10 fun t10a =>
 br t10a (
 cal D 38 [t0, (vS ([42] : LN))] h3 fun t12 h4 =>
 asB t12 fun t12a =>
 br t12a (
 some (.ret (vI (Int.ofNat 4)) h4, .no)) (
 some (.ret (vI (Int.ofNat 2)) h4, .no))) (
 cal D 44 [t0, (vS ([118, 111, 105, 100] : LN))] h3 fun t14 h5 =>
 some (.ret (vI (Int.ofNat 0)) h5, .no)))
def S39 : SFn := fun D m args h u => nou u <| popV args fun t0 args => endA args (S39_0 D m t0 h)
theorem T39_0 (hE : FX x39 D m E) : S39_0 D m = e39_0 (E c39_e []) := by unfold S39_0; rw [hE c39_e]; kernel_rfl
theorem X39 : XTie S39 x39 := X_of fun D m E hE args h u => by unfold S39; rw [T39_0 hE]; kernel_rfl
/- 40 -/
def v40_0 : List Pos := [p0, p5]
def c40_0 : XC := (.sO [.mv p14 q0 .v, .P p15 (.nilck q14) .v, .fa p16 1 q15, .ld p17 q16 tI, .bn p18 .add q17 (ci 1) tI, .P p19 (.nilck q14) .v, .fa p20 1 q19, .st q20 q18] (.sO [.fa p21 1 q5, .ld p22 q21 .s, .mv p4 q22 .s] (.s .ret)))
def c40_e : XC := (.sO [.mv p4 (.c (.str [])) .s] (.sO [.mv p6 q0 .v, .cl p7 23 [q6] .v, .al p5 (.new [(kI 0), (.str []), (kI 0)]), .ss 3 q5 q7] (.sj v40_0 (.sO [.fa p8 0 q5, .ld p9 q8 tI, .mv p10 q1 tI, .bn p11 .neq q9 q10 .b] (.cond q11 (.s (.oX [.mv p12 q0 .v, .cl p13 72 [q12, (ci 11)] .v])) (.s .skip))) c40_0)))
def x40 : XFn := ⟨[.v, tI], false, [(.tmp p4)], c40_e⟩
def e40_0 (k t0 t5 h) := kN k [(p0, t0), (p5, t5)] h
def S40_0 (D : CallD) (m : Nat) (t0 t5 : AV) (h : HP) : Res2 :=
 nilckC t0 fun t15 =>
 faC 1 t15 fun t16 =>
 ldI t16 h fun t17 =>
 let t18 := wrQ .i64 (addQ t17 (Int.ofNat 1))
 nilckC t0 fun t19 =>
 faC 1 t19 fun t20 =>
 stoC t20 (vI t18) h fun h5 =>
 faC 1 t5 fun t21 =>
 ldS t21 h5 fun t22 =>
 some (.ret (vS t22) h5, .no)
def e40_1 (k t0 t1 h) := kN k [(p0, t0), (p1, (vI t1))] h
def S40_1 (D : CallD) (m : Nat) (t0 : AV) (t1 : Int) (h : HP) : Res2 :=
 cal D 23 [t0] h fun t7 h2 =>
 let t5 := AV.ptr (HP.nxQ h2) 0
 let h3 := HP.newQ h2 (.cells true [(kI 0), (.str []), (kI 0)])
 stsC 3 t5 t7 h3 fun h4 =>
 let t8 := (AV.ptr (HP.nxQ h2) (Nat.add 0 0))
 ldI t8 h4 fun t9 =>
 let t11 := notQ (eqQ t9 t1)
 br t11 (
 cal D 72 [t0, (vI (Int.ofNat 11))] h4 fun t13 h6 =>
 S40_0 D m t0 t5 h6) (
 S40_0 D m t0 t5 h4)
def S40 : SFn := fun D m args h u => nou u <| popV args fun t0 args => popI .i64 args fun t1 args => endA args (S40_1 D m t0 t1 h)
theorem T40_0 (hE : FX x40 D m E) : S40_0 D m = e40_0 (E c40_0 []) := by unfold S40_0; rw [hE c40_0]; kernel_rfl
theorem T40_1 (hE : FX x40 D m E) : S40_1 D m = e40_1 (E c40_e []) := by unfold S40_1; rw [T40_0 hE, hE c40_e]; kernel_rfl
theorem X40 : XTie S40 x40 := X_of fun D m E hE args h u => by unfold S40; rw [T40_1 hE]; kernel_rfl
/- 41 -/
def v41_1 : List Pos := [p0]
def c41_1 : XC := (.s (.oX [.mv p64 q0 .v, .cl p65 44 [q64, (.c (.str [41]))] .v]))
def v41_3 : List Pos := [p0, p1]
def c41_3 : XC := (.s (.oX [.mv p34 q0 .v, .cl p35 38 [q34, (.c (.str [44]))] .b, .mv p4 q35 .b]))
def v41_4 : List Pos := [p0, p1]
def c41_4 : XC := (.sO [.mv p44 q0 .v, .cl p45 23 [q44] .v, .P p46 (.field 2 1 false q45) tI, .P p47 (.build [(.str []), (kI 0), (kI 0)] [⟨2, 1, q46⟩]) .v, .al p5 (.new [(.str []), (kI 0), (kI 0)]), .ss 3 q5 q47] (.sO [.mv p48 q0 .v, .cl p49 39 [q48] tI, .fa p50 1 q5, .st q50 q49] (.sO [.mv p51 q0 .v, .cl p52 40 [q51, (ci 1)] .s, .fa p53 0 q5, .st q53 q52] (.s (.ops true (XL.of [.mv p54 q1 .v, .mv p55 q1 .v, .P p56 (.nilck q55) .v, .fa p57 8 q56, .ld p58 q57 .v, .L p59 (.cells 3 q5) .v, .al p60 (.bsl [(.str []), (kI 0), (kI 0)] 1 [⟨0, 3, q59⟩]), .o ⟨(some p61), (.e (.app 3 32 q58 q60)), none, []⟩ .v, .P p62 (.nilck q54) .v, .fa p63 8 q62, .st q63 q61]))))))
def v41_2 : List Pos := [p0, p1, p4]
def c41_2b : XC := (.seq (.seq (.oX [.mv p33 q4 .b]) (.cond q33 .skip (.exit 0))) (.sj v41_3 (.block 1 (.sj v41_4 (.sO [.mv p36 q1 .v, .P p37 (.nilck q36) .v, .fa p38 8 q37, .ld p39 q38 .v, .P p40 (.lenl q39) tI, .bn p41 .eql q40 (ci 8) .b] (.cond q41 (.s (.oX [.mv p42 q0 .v, .cl p43 72 [q42, (ci 5)] .v])) (.s .skip))) c41_4)) c41_3))
def v41_0 : List Pos := [p0, p1]
def c41_0 : XC := (.seq (.seq (.oX [.mv p31 q0 .v, .cl p32 38 [q31, (.c (.str [41]))] .b]) (.cond q32 .ret .skip)) (.sj v41_1 (.sO [.mv p4 (cb true) .b] (.block 0 (.loop v41_2 c41_2b))) c41_1))
def c41_e : XC := (.sj v41_0 (.seq (.ops true (XL.of [.mv p6 q0 .v, .al p7 (.bsl [(.str [])] 1 [⟨0, 1, (.c (.str [118, 111, 105, 100]))⟩]), .cl p8 42 [q6, q7] .b, .mv p9 q8 .b, .ge p9 (XL.of [.G p9 true p10 (.mov q0) .v, .G p9 true p11 (.nilck q10) .v, .G p9 true p12 (.faddr 0 q11) .v, .o ⟨(some p13), (.l (.cell q12)), (some (p9, true)), []⟩ .v, .G p9 true p14 (.mov q0) .v, .G p9 true p15 (.nilck q14) .v, .G p9 true p16 (.faddr 1 q15) .v, .o ⟨(some p17), (.l (.cell q16)), (some (p9, true)), []⟩ tI, .G p9 true p18 (.bin .add q17 (ci 1)) tI, .G p9 true p19 (.iaddr (.sl 3) q13 q18) .v, .G p9 true p20 (.faddr 1 q19) .v, .o ⟨(some p21), (.l (.cell q20)), (some (p9, true)), []⟩ .s, .G p9 true p22 (.bin .eql q21 (.c (.str [41]))) .b, .P p23 (.pick q9 q22 (cb false)) .b]) p23 .b])) (.cond q23 (.s (.oX [.mv p24 q0 .v, .P p25 (.nilck q24) .v, .fa p26 1 q25, .ld p27 q26 tI, .bn p28 .add q27 (ci 1) tI, .P p29 (.nilck q24) .v, .fa p30 1 q29, .st q30 q28])) (.s .skip))) c41_0)
def x41 : XFn := ⟨[.v, .v], false, [], c41_e⟩
def e41_1 (k t0 h) := kN k [(p0, t0)] h
def S41_1 (D : CallD) (m : Nat) (t0 : AV) (h : HP) : Res2 :=
 cal D 44 [t0, (vS ([41] : LN))] h fun t65 h7 =>
 some (.ret (.tup []) h7, .no)
def e41_3 (k t0 t1 h) := kN k [(p0, t0), (p1, t1)] h
def S41_3 (D : CallD) (m : Nat) (g2 : AV → AV → Bool → HP → Res2) (t0 t1 : AV) (h : HP) : Res2 :=
 cal D 38 [t0, (vS ([44] : LN))] h fun t35 h8 =>
 asB t35 fun t35a =>
 g2 t0 t1 t35a h8
def e41_4 (k t0 t1 h) := kN k [(p0, t0), (p1, t1)] h
def S41_4 (D : CallD) (m : Nat) (g2 : AV → AV → Bool → HP → Res2) (t0 t1 : AV) (h : HP) : Res2 :=
 cal D 23 [t0] h fun t45 h9 =>
 fldC 2 1 false t45 fun vt46 => asI .i64 vt46 fun t46 =>
 let t47 := (AV.agg [(vS ([] : LN)), (vI (Int.ofNat 0)), (vI t46)])
 let t5 := AV.ptr (HP.nxQ h9) 0
 let h10 := HP.newQ h9 (.cells true [(.str []), (kI 0), (kI 0)])
 stsC 3 t5 t47 h10 fun h11 =>
 cal D 39 [t0] h11 fun t49 h12 =>
 asI .i64 t49 fun t49a =>
 let t50 := (AV.ptr (HP.nxQ h9) (Nat.add 0 1))
 stoC t50 (vI t49a) h12 fun h13 =>
 cal D 40 [t0, (vI (Int.ofNat 1))] h13 fun t52 h14 =>
 asS t52 fun t52a =>
 let t53 := (AV.ptr (HP.nxQ h9) (Nat.add 0 0))
 stoC t53 (vS t52a) h14 fun h15 =>
 nilckC t1 fun t56 =>
 faC 8 t56 fun t57 =>
 cellC t57 h15 fun t58 =>
 cellsC 3 t5 h15 fun t59 =>
 obQ (evA (.bsl [(.str []), (kI 0), (kI 0)] 1 [⟨0, 3, (.c t59)⟩]) .leaf) fun r16 =>
 let t60 := vkV r16.2 (HP.nxQ h15)
 let h17 := HP.newQ h15 r16.1
 eff (.app 3 32 (.c t58) (.c t60)) h17 fun t61 h18 =>
 nilckC t1 fun t62 =>
 faC 8 t62 fun t63 =>
 stoC t63 t61 h18 fun h19 =>
 S41_3 D m g2 t0 t1 h19
def e41_2 (k t0 t1 t4 h) := kN k [(p0, t0), (p1, t1), (p4, (vB t4))] h
def S41_2b (D : CallD) (m : Nat) (g2 : AV → AV → Bool → HP → Res2) (t0 t1 : AV) (t4 : Bool) (h : HP) : Res2 :=
 br t4 (
 nilckC t1 fun t37 =>
 faC 8 t37 fun t38 =>
 cellC t38 h fun t39 =>
 lenC t39 fun vt40 => asI .i64 vt40 fun t40 =>
 let t41 := eqQ t40 (Int.ofNat 8)
 br t41 (
 cal D 72 [t0, (vI (Int.ofNat 5))] h fun t43 h20 =>
 S41_4 D m g2 t0 t1 h20) (
 S41_4 D m g2 t0 t1 h)) (
 S41_1 D m t0 h)
def S41_2 (D : CallD) (m : Nat) : AV → AV → Bool → HP → Res2 := nrec (fun _ _ _ _ => none) (fun _ g => S41_2b D m g) m
def e41_0 (k t0 t1 h) := kN k [(p0, t0), (p1, t1)] h
def S41_0 (D : CallD) (m : Nat) (t0 t1 : AV) (h : HP) : Res2 :=
 cal D 38 [t0, (vS ([41] : LN))] h fun t32 h6 =>
 asB t32 fun t32a =>
 br t32a (
 some (.ret (.tup []) h6, .no)) (
 S41_2 D m t0 t1 true h6)
def e41_5 (k t0 t1 h) := kN k [(p0, t0), (p1, t1)] h
def S41_5 (D : CallD) (m : Nat) (t0 t1 : AV) (h : HP) : Res2 :=
 let t7 := AV.slice (HP.nxQ h) 0 1 (.exact 1)
 let h21 := HP.newQ h (.cells true [(vS ([118, 111, 105, 100] : LN))])
 cal D 42 [t0, t7] h21 fun t8 h22 =>
 asB t8 fun t8a =>
 obB (brV t8a (
 nilckCV t0 fun t11 =>
 faCV 0 t11 fun t12 =>
 cellCV t12 h22 fun t13 =>
 nilckCV t0 fun t15 =>
 faCV 1 t15 fun t16 =>
 ldIV t16 h22 fun t17 =>
 let t18 := wrQ .i64 (addQ t17 (Int.ofNat 1))
 iasCV 3 t13 (vI t18) fun t19 =>
 faCV 1 t19 fun t20 =>
 ldSV t20 h22 fun t21 =>
 let t22 := eqL t21 ([41] : LN)
 some (vB t22)) (
 some (vB false))) fun t23 =>
 br t23 (
 nilckC t0 fun t25 =>
 faC 1 t25 fun t26 =>
 ldI t26 h22 fun t27 =>
 let t28 := wrQ .i64 (addQ t27 (Int.ofNat 1))
 nilckC t0 fun t29 =>
 faC 1 t29 fun t30 =>
 stoC t30 (vI t28) h22 fun h23 =>
 S41_0 D m t0 t1 h23) (
 S41_0 D m t0 t1 h22)
def S41 : SFn := fun D m args h u => nou u <| popV args fun t0 args => popV args fun t1 args => endA args (S41_5 D m t0 t1 h)
theorem T41_1 (hE : FX x41 D m E) : S41_1 D m = e41_1 (E c41_1 []) := by unfold S41_1; rw [hE c41_1]; kernel_rfl
theorem T41_3 (hE : FX x41 D m E) (G2) : S41_3 D m (e41_2 G2) = e41_3 (E c41_3 [.lp v41_2 G2, .blk 0, .sj v41_1 c41_1]) := by unfold S41_3; rw [hE c41_3]; kernel_rfl
theorem T41_4 (hE : FX x41 D m E) (G2) : S41_4 D m (e41_2 G2) = e41_4 (E c41_4 [.blk 1, .sj v41_3 c41_3, .lp v41_2 G2, .blk 0, .sj v41_1 c41_1]) := by unfold S41_4; rw [T41_3 hE G2, hE c41_4]; kernel_rfl
theorem T41_2b (hE : FX x41 D m E) (G2) : S41_2b D m (e41_2 G2) = e41_2 (E c41_2b [.lp v41_2 G2, .blk 0, .sj v41_1 c41_1]) := by unfold S41_2b; rw [T41_4 hE G2, T41_1 hE, hE c41_2b]; kernel_rfl
theorem T41_2 (hE : FX x41 D m E) : S41_2 D m = e41_2 (nrec (fun _ => none) (fun _ G2 st => E c41_2b [.lp v41_2 G2, .blk 0, .sj v41_1 c41_1] st) m) :=
  nrec_emb e41_2 (fun _ _ _ _ => none) (fun g => S41_2b D m g) (fun G2 st => E c41_2b [.lp v41_2 G2, .blk 0, .sj v41_1 c41_1] st) rfl (fun g => T41_2b hE g) m
theorem T41_0 (hE : FX x41 D m E) : S41_0 D m = e41_0 (E c41_0 []) := by unfold S41_0; rw [T41_2 hE, hE c41_0]; kernel_rfl
theorem T41_5 (hE : FX x41 D m E) : S41_5 D m = e41_5 (E c41_e []) := by unfold S41_5; rw [T41_0 hE, hE c41_e]; kernel_rfl
theorem X41 : XTie S41 x41 := X_of fun D m E hE args h u => by unfold S41; rw [T41_5 hE]; kernel_rfl
/- 42 -/
def v42_0 : List Pos := []
def c42_0 : XC := (.sO [.mv p4 (cb false) .b] (.s .ret))
def v42_1 : List Pos := [p5, p10, p11, p12]
def c42_1b : XC := (.sO [.bn p13 .lss q12 q11 .b] (.seq (.cond q13 .skip (.exit 0)) (.seq (.block 1 (.seq (.oX [.P p14 (.iaddr (.sl 1) q10 q12) .v, .ld p15 q14 .s, .mv p7 q15 .s]) (.seq (.oX [.fa p16 0 q5, .ld p17 q16 tI, .bn p18 .eql q17 (ci 4) .b, .mv p19 q18 .b, .ge p19 (XL.of [.G p19 false p20 (.faddr 0 q5) .v, .o ⟨(some p21), (.l (.cell q20)), (some (p19, false)), []⟩ tI, .G p19 false p22 (.bin .eql q21 (ci 5)) .b, .P p23 (.pick q19 (cb true) q22) .b]) p23 .b, .mv p24 q23 .b, .ge p24 (XL.of [.G p24 true p25 (.faddr 1 q5) .v, .o ⟨(some p26), (.l (.cell q25)), (some (p24, true)), []⟩ .s, .G p24 true p27 (.mov q7) .s, .G p24 true p28 (.bin .eql q26 q27) .b, .P p29 (.pick q24 q28 (cb false)) .b]) p29 .b]) (.cond q29 (.seq (.oX [.mv p4 (cb true) .b]) .ret) .skip)))) (.s (.oX [.bn p30 .add q12 (ci 1) tI, .mv p12 q30 tI])))))
def c42_e : XC := (.sO [.mv p4 (cb false) .b] (.sO [.mv p8 q0 .v, .cl p9 23 [q8] .v, .al p5 (.new [(kI 0), (.str []), (kI 0)]), .ss 3 q5 q9] (.sj v42_0 (.sO [.mv p10 q1 .v, .P p11 (.lenl q10) tI, .mv p12 (ci 0) tI] (.block 0 (.loop v42_1 c42_1b))) c42_0)))
def x42 : XFn := ⟨[.v, .v], false, [(.tmp p4)], c42_e⟩
def e42_0 (k h) := kN k [] h
def S42_0 (D : CallD) (m : Nat) (h : HP) : Res2 :=
 some (.ret (vB false) h, .no)
def e42_1 (k t5 t10 t11 t12 h) := kN k [(p5, t5), (p10, t10), (p11, (vI t11)), (p12, (vI t12))] h
def S42_1b (D : CallD) (m : Nat) (g1 : AV → AV → Int → Int → HP → Res2) (t5 t10 : AV) (t11 t12 : Int) (h : HP) : Res2 :=
 let t13 := ltQ t12 t11
 br t13 (
 iasC 1 t10 (vI t12) fun t14 =>
 ldS t14 h fun t15 =>
 faC 0 t5 fun t16 =>
 ldI t16 h fun t17 =>
 let t18 := eqQ t17 (Int.ofNat 4)
 obB (brV t18 (
 some (vB true)) (
 faCV 0 t5 fun t20 =>
 ldIV t20 h fun t21 =>
 let t22 := eqQ t21 (Int.ofNat 5)
 some (vB t22))) fun t23 =>
 obB (brV t23 (
 faCV 1 t5 fun t25 =>
 ldSV t25 h fun t26 =>
 let t28 := eqL t26 t15
 some (vB t28)) (
 some (vB false))) fun t29 =>
 br t29 (
 some (.ret (vB true) h, .no)) (
 let t30 := wrQ .i64 (addQ t12 (Int.ofNat 1))
 g1 t5 t10 t11 t30 h)) (
 S42_0 D m h)
def S42_1 (D : CallD) (m : Nat) : AV → AV → Int → Int → HP → Res2 := nrec (fun _ _ _ _ _ => none) (fun _ g => S42_1b D m g) m
def e42_2 (k t0 t1 h) := kN k [(p0, t0), (p1, t1)] h
def S42_2 (D : CallD) (m : Nat) (t0 t1 : AV) (h : HP) : Res2 :=
 cal D 23 [t0] h fun t9 h3 =>
 let t5 := AV.ptr (HP.nxQ h3) 0
 let h4 := HP.newQ h3 (.cells true [(kI 0), (.str []), (kI 0)])
 stsC 3 t5 t9 h4 fun h5 =>
 lenC t1 fun vt11 => asI .i64 vt11 fun t11 =>
 S42_1 D m t5 t1 t11 (Int.ofNat 0) h5
def S42 : SFn := fun D m args h u => nou u <| popV args fun t0 args => popV args fun t1 args => endA args (S42_2 D m t0 t1 h)
theorem T42_0 (hE : FX x42 D m E) : S42_0 D m = e42_0 (E c42_0 []) := by unfold S42_0; rw [hE c42_0]; kernel_rfl
theorem T42_1b (hE : FX x42 D m E) (G1) : S42_1b D m (e42_1 G1) = e42_1 (E c42_1b [.lp v42_1 G1, .blk 0, .sj v42_0 c42_0]) := by unfold S42_1b; rw [T42_0 hE, hE c42_1b]; kernel_rfl
theorem T42_1 (hE : FX x42 D m E) : S42_1 D m = e42_1 (nrec (fun _ => none) (fun _ G1 st => E c42_1b [.lp v42_1 G1, .blk 0, .sj v42_0 c42_0] st) m) :=
  nrec_emb e42_1 (fun _ _ _ _ _ => none) (fun g => S42_1b D m g) (fun G1 st => E c42_1b [.lp v42_1 G1, .blk 0, .sj v42_0 c42_0] st) rfl (fun g => T42_1b hE g) m
theorem T42_2 (hE : FX x42 D m E) : S42_2 D m = e42_2 (E c42_e []) := by unfold S42_2; rw [T42_1 hE, hE c42_e]; kernel_rfl
theorem X42 : XTie S42 x42 := X_of fun D m E hE args h u => by unfold S42; rw [T42_2 hE]; kernel_rfl
/- 43 -/
def v43_0 : List Pos := [p2, p3]
def c43_0 : XC := (.sO [.L p20 (.cells 7 q3) .v, .ss 7 q2 q20] (.s .ret))
def v43_1 : List Pos := [p0, p2, p3]
def c43_1b : XC := (.seq (.seq (.oX [.mv p10 q0 .v, .cl p11 38 [q10, (.c (.str [125]))] .b, .P p12 (.un .not q11) .b]) (.cond q12 .skip (.exit 0))) (.block 1 (.s (.ops true (XL.of [.fa p13 2 q3, .ld p14 q13 .v, .mv p15 q0 .v, .o ⟨(some p16), (.call (.fn 73) [q15]), none, [⟨none, .cell q13, p14⟩]⟩ .v, .al p17 (.bsl [(kI 0), .nils, .nils, (.str []), (kI 0), (kI 0), (kI 0)] 1 [⟨0, 7, q16⟩]), .o ⟨(some p18), (.e (.app 7 96 q14 q17)), none, []⟩ .v, .fa p19 2 q3, .st q19 q18])))))
def c43_e : XC := (.sO [.al p2 (.new [(kI 0), .nils, .nils, (.str []), (kI 0), (kI 0), (kI 0)])] (.sO [.mv p4 q0 .v, .cl p5 23 [q4] .v, .P p6 (.field 2 1 false q5) tI, .P p7 (.build [(kI 0), .nils, .nils, (.str []), (kI 0), (kI 0), (kI 0)] [⟨0, 1, (ci 1)⟩, ⟨6, 1, q6⟩]) .v, .al p3 (.new [(kI 0), .nils, .nils, (.str []), (kI 0), (kI 0), (kI 0)]), .ss 7 q3 q7] (.sO [.mv p8 q0 .v, .cl p9 44 [q8, (.c (.str [123]))] .v] (.sj v43_0 (.block 0 (.loop v43_1 c43_1b)) c43_0))))
def x43 : XFn := ⟨[.v], false, [(.cells 7 p2)], c43_e⟩
def e43_0 (k t2 t3 h) := kN k [(p2, t2), (p3, t3)] h
def S43_0 (D : CallD) (m : Nat) (t2 t3 : AV) (h : HP) : Res2 :=
 cellsC 7 t3 h fun t20 =>
 stsC 7 t2 t20 h fun h8 =>
 cellsC 7 t2 h8 fun t2a =>
 some (.ret t2a h8, .no)
def e43_1 (k t0 t2 t3 h) := kN k [(p0, t0), (p2, t2), (p3, t3)] h
def S43_1b (D : CallD) (m : Nat) (g1 : AV → AV → AV → HP → Res2) (t0 t2 t3 : AV) (h : HP) : Res2 :=
 cal D 38 [t0, (vS ([125] : LN))] h fun t11 h9 =>
 asB t11 fun t11a =>
 let t12 := !t11a
 br t12 (
 faC 2 t3 fun t13 =>
 cellC t13 h9 fun t14 =>
 cal D 73 [t0] h9 fun t16 h10 =>
 br (again [⟨none, .cell q13, p14⟩] (mkT [(p14, t14), (p13, t13)]) h10) (
 obQ (evA (.bsl [(kI 0), .nils, .nils, (.str []), (kI 0), (kI 0), (kI 0)] 1 [⟨0, 7, (.c t16)⟩]) .leaf) fun r11 =>
 let t17 := vkV r11.2 (HP.nxQ h10)
 let h12 := HP.newQ h10 r11.1
 eff (.app 7 96 (.c t14) (.c t17)) h12 fun t18 h13 =>
 faC 2 t3 fun t19 =>
 stoC t19 t18 h13 fun h14 =>
 g1 t0 t2 t3 h14) none) (
 S43_0 D m t2 t3 h9)
def S43_1 (D : CallD) (m : Nat) : AV → AV → AV → HP → Res2 := nrec (fun _ _ _ _ => none) (fun _ g => S43_1b D m g) m
def e43_2 (k t0 h) := kN k [(p0, t0)] h
def S43_2 (D : CallD) (m : Nat) (t0 : AV) (h : HP) : Res2 :=
 let t2 := AV.ptr (HP.nxQ h) 0
 let h3 := HP.newQ h (.cells true [(kI 0), .nils, .nils, (.str []), (kI 0), (kI 0), (kI 0)])
 cal D 23 [t0] h3 fun t5 h4 =>
 fldC 2 1 false t5 fun vt6 => asI .i64 vt6 fun t6 =>
 let t7 := (AV.agg [(vI (Int.ofNat 1)), (.nils : AV), (.nils : AV), (vS ([] : LN)), (vI (Int.ofNat 0)), (vI (Int.ofNat 0)), (vI t6)])
 let t3 := AV.ptr (HP.nxQ h4) 0
 let h5 := HP.newQ h4 (.cells true [(kI 0), .nils, .nils, (.str []), (kI 0), (kI 0), (kI 0)])
 stsC 7 t3 t7 h5 fun h6 =>
 cal D 44 [t0, (vS ([123] : LN))] h6 fun t9 h7 =>
 S43_1 D m t0 t2 t3 h7
def S43 : SFn := fun D m args h u => nou u <| popV args fun t0 args => endA args (S43_2 D m t0 h)
theorem T43_0 (hE : FX x43 D m E) : S43_0 D m = e43_0 (E c43_0 []) := by unfold S43_0; rw [hE c43_0]; kernel_rfl
theorem T43_1b (hE : FX x43 D m E) (G1) : S43_1b D m (e43_1 G1) = e43_1 (E c43_1b [.lp v43_1 G1, .blk 0, .sj v43_0 c43_0]) := by unfold S43_1b; rw [T43_0 hE, hE c43_1b]; kernel_rfl
theorem T43_1 (hE : FX x43 D m E) : S43_1 D m = e43_1 (nrec (fun _ => none) (fun _ G1 st => E c43_1b [.lp v43_1 G1, .blk 0, .sj v43_0 c43_0] st) m) :=
  nrec_emb e43_1 (fun _ _ _ _ => none) (fun g => S43_1b D m g) (fun G1 st => E c43_1b [.lp v43_1 G1, .blk 0, .sj v43_0 c43_0] st) rfl (fun g => T43_1b hE g) m
theorem T43_2 (hE : FX x43 D m E) : S43_2 D m = e43_2 (E c43_e []) := by unfold S43_2; rw [T43_1 hE, hE c43_e]; kernel_rfl
theorem X43 : XTie S43 x43 := X_of fun D m E hE args h u => by unfold S43; rw [T43_2 hE]; kernel_rfl
/- 44 -/
def c44_e : XC := (.sO [.mv p4 q0 .v, .mv p5 q1 .s, .cl p6 38 [q4, q5] .b, .P p7 (.un .not q6) .b] (.cond q7 (.s (.oX [.mv p8 q0 .v, .cl p9 72 [q8, (ci 11)] .v])) (.s .skip)))
def x44 : XFn := ⟨[.v, .s], false, [], c44_e⟩
def e44_0 (k t0 t1 h) := kN k [(p0, t0), (p1, (vS t1))] h
def S44_0 (D : CallD) (m : Nat) (t0 : AV) (t1 : LN) (h : HP) : Res2 :=
 cal D 38 [t0, (vS t1)] h fun t6 h1 =>
 asB t6 fun t6a =>
 let t7 := !t6a
 br t7 (
 cal D 72 [t0, (vI (Int.ofNat 11))] h1 fun t9 h2 =>
 some (.ret (.tup []) h2, .no)) (
 some (.ret (.tup []) h1, .no))
def S44 : SFn := fun D m args h u => nou u <| popV args fun t0 args => popS args fun t1 args => endA args (S44_0 D m t0 t1 h)
theorem T44_0 (hE : FX x44 D m E) : S44_0 D m = e44_0 (E c44_e []) := by unfold S44_0; rw [hE c44_e]; kernel_rfl
theorem X44 : XTie S44 x44 := X_of fun D m E hE args h u => by unfold S44; rw [T44_0 hE]; kernel_rfl
/- 45 -/
def v45_0 : List Pos := [p0, p4]
def c45_0 : XC := (.sO [.mv p27 q0 .v, .cl p28 44 [q27, (.c (.str [93]))] .v] (.sO [.mv p29 q4 tI, .mv p2 q29 tI] (.s .ret)))
def c45_e : XC := (.sO [.mv p2 (ci 0) tI] (.seq (.seq (.oX [.mv p6 q0 .v, .cl p7 38 [q6, (.c (.str [91]))] .b, .P p8 (.un .not q7) .b]) (.cond q8 (.seq (.oX [.mv p2 (ci 0) tI]) .ret) .skip)) (.sO [.mv p9 q0 .v, .cl p10 23 [q9] .v, .P p11 (.field 2 1 false q10) tI, .mv p3 q11 tI] (.sO [.mv p13 q0 .v, .cl p14 40 [q13, (ci 2)] .s, .cl p15 74 [q14] .v, .mv p12 q15 .v, .P p16 (.ext q12 0) tI, .P p17 (.ext q12 1) .v, .mv p4 q16 tI, .mv p5 q17 .v] (.sj v45_0 (.sO [.mv p18 q4 tI, .bn p19 .lss q18 (ci 1) .b, .mv p20 q19 .b, .ge p20 (XL.of [.G p20 false p21 (.mov q4) tI, .G p20 false p22 (.bin .gtr q21 (ci 1000)) .b, .P p23 (.pick q20 (cb true) q22) .b]) p23 .b] (.cond q23 (.s (.oX [.mv p24 q3 tI, .P p25 (.build [(kI 0), (kI 0)] [⟨0, 1, q24⟩, ⟨1, 1, (ci 1)⟩]) .v, .P p26 (.mkif 65 q25) .v, .o ⟨none, (.panic q26), none, []⟩ .v])) (.s .skip))) c45_0)))))
def x45 : XFn := ⟨[.v], false, [(.tmp p2)], c45_e⟩
def e45_0 (k t0 t4 h) := kN k [(p0, t0), (p4, (vI t4))] h
def S45_0 (D : CallD) (m : Nat) (t0 : AV) (t4 : Int) (h : HP) : Res2 :=
 cal D 44 [t0, (vS ([93] : LN))] h fun t28 h6 =>
 some (.ret (vI t4) h6, .no)
def e45_1 (k t0 h) := kN k [(p0, t0)] h
def S45_1 (D : CallD) (m : Nat) (t0 : AV) (h : HP) : Res2 :=
 cal D 38 [t0, (vS ([91] : LN))] h fun t7 h2 =>
 asB t7 fun t7a =>
 let t8 := !t7a
 br t8 (
 some (.ret (vI (Int.ofNat 0)) h2, .no)) (
 cal D 23 [t0] h2 fun t10 h3 =>
 fldC 2 1 false t10 fun vt11 => asI .i64 vt11 fun t11 =>
 cal D 40 [t0, (vI (Int.ofNat 2))] h3 fun t14 h4 =>
 asS t14 fun t14a =>
 cal D 74 [(vS t14a)] h4 fun t15 h5 =>
 extC t15 0 fun vt16 => asI .i64 vt16 fun t16 =>
 extC t15 1 fun t17 =>
 let t19 := ltQ t16 (Int.ofNat 1)
 obB (brV t19 (
 some (vB true)) (
 let t22 := ltQ (Int.ofNat 1000) t16
 some (vB t22))) fun t23 =>
 br t23 (
 let t25 := (AV.agg [(vI t11), (vI (Int.ofNat 1))])
 let t26 := (AV.iface 65 t25)
 some (.pan [(.iface 65 t25, false)] h5, .no)) (
 S45_0 D m t0 t16 h5))
def S45 : SFn := fun D m args h u => nou u <| popV args fun t0 args => endA args (S45_1 D m t0 h)
theorem T45_0 (hE : FX x45 D m E) : S45_0 D m = e45_0 (E c45_0 []) := by unfold S45_0; rw [hE c45_0]; kernel_rfl
theorem T45_1 (hE : FX x45 D m E) : S45_1 D m = e45_1 (E c45_e []) := by unfold S45_1; rw [T45_0 hE, hE c45_e]; kernel_rfl
theorem X45 : XTie S45 x45 := X_of fun D m E hE args h u => by unfold S45; rw [T45_1 hE]; kernel_rfl
/- 46 -/
def c46_e : XC := (.sO [.al p1 (.box q0), .al p2 (.new [(kI 0), (.str []), (.str []), (.int .u32 (.ofNat 0)), (.int .u64 (.ofNat 0)), .nils, (kI 0), (kI 0)])] (.sO [.ld p4 q1 .v, .cl p5 75 [q4] .v] (.sO [.P p6 (.mkfn 76 [] [q1]) .v, .o ⟨none, (.defer (.val q6) []), none, []⟩ .v] (.sO [.ld p7 q1 .v, .cl p8 77 [q7, (ci 0)] .v, .al p3 (.new [(kI 0), (.str []), (.str []), (.int .u32 (.ofNat 0)), (.int .u64 (.ofNat 0)), .nils, (kI 0), (kI 0)]), .ss 8 q3 q8] (.seq (.seq (.oX [.ld p9 q1 .v, .cl p10 38 [q9, (.c (.str [61]))] .b]) (.cond q10 (.seq (.ops true (XL.of [.L p11 (.cells 8 q3) .v, .ld p12 q1 .v, .fa p15 7 q3, .ld p16 q15 tI, .o ⟨(some p13), (.call (.fn 46) [q12]), none, [⟨none, .cells 8 q3, p11⟩, ⟨none, .cell q15, p16⟩]⟩ .v, .al p14 (.bsl [(kI 0), (.str []), (.str []), (.int .u32 (.ofNat 0)), (.int .u64 (.ofNat 0)), .nils, (kI 0), (kI 0), (kI 0), (.str []), (.str []), (.int .u32 (.ofNat 0)), (.int .u64 (.ofNat 0)), .nils, (kI 0), (kI 0)] 2 [⟨0, 8, q11⟩, ⟨8, 8, q13⟩]), .P p17 (.build [(kI 0), (.str []), (.str []), (.int .u32 (.ofNat 0)), (.int .u64 (.ofNat 0)), .nils, (kI 0), (kI 0)] [⟨0, 1, (ci 6)⟩, ⟨5, 1, q14⟩, ⟨7, 1, q16⟩]) .v, .ss 8 q2 q17])) .ret) .skip)) (.sO [.L p18 (.cells 8 q3) .v, .ss 8 q2 q18] (.s .ret)))))))
def x46 : XFn := ⟨[.v], false, [(.cells 8 p2)], c46_e⟩
def e46_0 (k t0 h) := kN k [(p0, t0)] h
def S46_0 (D : CallD) (m : Nat) (t0 : AV) (h : HP) : Res2 :=
 let t1 := AV.ptr (HP.nxQ h) 0
 let h1 := HP.newQ h (.cells true (AV.cells t0))
 let t2 := AV.ptr (HP.nxQ h1) 0
 let h2 := HP.newQ h1 (.cells true [(kI 0), (.str []), (.str []), (.int .u32 (.ofNat 0)), (.int .u64 (.ofNat 0)), .nils, (kI 0), (kI 0)])
 cellC t1 h2 fun t4 =>
 calC D 75 [t4] h2 (fun t5 h3 =>
 let t6 := (AV.fn 76 [] [t1])
 let d4 : List ADef := ⟨76, [t1]⟩ :: []
 cellC t1 h3 fun t7 =>
 calC D 77 [t7, (vI (Int.ofNat 0))] h3 (fun t8 h5 =>
 let t3 := AV.ptr (HP.nxQ h5) 0
 let h6 := HP.newQ h5 (.cells true [(kI 0), (.str []), (.str []), (.int .u32 (.ofNat 0)), (.int .u64 (.ofNat 0)), .nils, (kI 0), (kI 0)])
 stsC 8 t3 t8 h6 fun h7 =>
 cellC t1 h7 fun t9 =>
 calC D 38 [t9, (vS ([61] : LN))] h7 (fun t10 h8 =>
 asB t10 fun t10a =>
 br t10a (
 cellsC 8 t3 h8 fun t11 =>
 cellC t1 h8 fun t12 =>
 let t15 := (AV.ptr (HP.nxQ h5) (Nat.add 0 7))
 ldI t15 h8 fun t16 =>
 calC D 46 [t12] h8 (fun t13 h9 =>
 br (again [⟨none, .cells 8 q3, p11⟩, ⟨none, .cell q15, p16⟩] (mkT [(p16, (vI t16)), (p15, t15), (p11, t11), (p3, t3)]) h9) (
 obQ (evA (.bsl [(kI 0), (.str []), (.str []), (.int .u32 (.ofNat 0)), (.int .u64 (.ofNat 0)), .nils, (kI 0), (kI 0), (kI 0), (.str []), (.str []), (.int .u32 (.ofNat 0)), (.int .u64 (.ofNat 0)), .nils, (kI 0), (kI 0)] 2 [⟨0, 8, (.c t11)⟩, ⟨8, 8, (.c t13)⟩]) .leaf) fun r10 =>
 let t14 := vkV r10.2 (HP.nxQ h9)
 let h11 := HP.newQ h9 r10.1
 obQ (evP (.build [(kI 0), (.str []), (.str []), (.int .u32 (.ofNat 0)), (.int .u64 (.ofNat 0)), .nils, (kI 0), (kI 0)] [⟨0, 1, (.c (vI (Int.ofNat 6)))⟩, ⟨5, 1, (.c t14)⟩, ⟨7, 1, (.c (vI t16))⟩]) .leaf) fun t17 =>
 stsC 8 t2 t17 h11 fun h12 =>
 XFn.endOf x46 D (.ret ⟨(mkT [(p2, t2)]), h12, d4, .no⟩)) none) (fun ch9 gh9 => XFn.endOf x46 D (.panic ch9 ⟨(mkT [(p2, t2)]), gh9, d4, .no⟩))) (
 cellsC 8 t3 h8 fun t18 =>
 stsC 8 t2 t18 h8 fun h13 =>
 XFn.endOf x46 D (.ret ⟨(mkT [(p2, t2)]), h13, d4, .no⟩))) (fun ch8 gh8 => XFn.endOf x46 D (.panic ch8 ⟨(mkT [(p2, t2)]), gh8, d4, .no⟩))) (fun ch5 gh5 => XFn.endOf x46 D (.panic ch5 ⟨(mkT [(p2, t2)]), gh5, d4, .no⟩))) (fun ch3 gh3 => XFn.endOf x46 D (.panic ch3 ⟨(mkT [(p2, t2)]), gh3, [], .no⟩))
def S46 : SFn := fun D m args h u => nou u <| popV args fun t0 args => endA args (S46_0 D m t0 h)
theorem T46_0 (hE : FX x46 D m E) : S46_0 D m = e46_0 (E c46_e []) := by unfold S46_0; rw [hE c46_e]; kernel_rfl
theorem X46 : XTie S46 x46 := X_of fun D m E hE args h u => by unfold S46; rw [T46_0 hE]; kernel_rfl
/- 54 -/
def c54_e : XC := (.sO [.mv p2 (cb false) .b] (.sO [.mv p3 q0 tI, .bn p4 .eql q3 (ci 1) .b, .mv p5 q4 .b, .ge p5 (XL.of [.G p5 false p6 (.mov q0) tI, .G p5 false p7 (.bin .eql q6 (ci 2)) .b, .P p8 (.pick q5 (cb true) q7) .b]) p8 .b, .mv p2 q8 .b] (.s .ret)))
def x54 : XFn := ⟨[tI], false, [(.tmp p2)], c54_e⟩
def e54_0 (k t0 h) := kN k [(p0, (vI t0))] h
def S54_0 (D : CallD) (m : Nat) (t0 : Int) (h : HP) : Res2 :=
 let t4 := eqQ t0 (Int.ofNat 1)
 obB (brV t4 (
 some (vB true)) (
 let t7 := eqQ t0 (Int.ofNat 2)
 some (vB t7))) fun t8 =>
 some (.ret (vB t8) h, .no)
def S54 : SFn := fun D m args h u => nou u <| popI .i64 args fun t0 args => endA args (S54_0 D m t0 h)
theorem T54_0 (hE : FX x54 D m E) : S54_0 D m = e54_0 (E c54_e []) := by unfold S54_0; rw [hE c54_e]; kernel_rfl
theorem X54 : XTie S54 x54 := X_of fun D m E hE args h u => by unfold S54; rw [T54_0 hE]; kernel_rfl
/- 55 -/
def c55_e : XC := (.sO [.mv p2 (.c .nils) .v] (.seq (.seq (.oX [.mv p3 q0 .v, .P p4 (.eqn .sl false q3 (.c .nils)) .b]) (.cond q4 (.seq (.oX [.mv p2 (.c .nils) .v]) .ret) .skip)) (.sO [.al p5 (.bsl [] 0 []), .mv p6 q0 .v, .o ⟨(some p7), (.e (.app 3 32 q5 q6)), none, []⟩ .v, .mv p2 q7 .v] (.s .ret))))
def x55 : XFn := ⟨[.v], false, [(.tmp p2)], c55_e⟩
def e55_0 (k t0 h) := kN k [(p0, t0)] h
def S55_0 (D : CallD) (m : Nat) (t0 : AV) (h : HP) : Res2 :=
 obB (evP (.eqn .sl false (.c t0) (.c (.nils : AV))) .leaf) fun t4 =>
 br t4 (
 some (.ret (.nils : AV) h, .no)) (
 let t5 := AV.slice (HP.nxQ h) 0 0 (.exact 0)
 let h1 := HP.newQ h (.cells true [])
 eff (.app 3 32 (.c t5) (.c t0)) h1 fun t7 h2 =>
 some (.ret t7 h2, .no))
def S55 : SFn := fun D m args h u => nou u <| popV args fun t0 args => endA args (S55_0 D m t0 h)
theorem T55_0 (hE : FX x55 D m E) : S55_0 D m = e55_0 (E c55_e []) := by unfold S55_0; rw [hE c55_e]; kernel_rfl
theorem X55 : XTie S55 x55 := X_of fun D m E hE args h u => by unfold S55; rw [T55_0 hE]; kernel_rfl
/- 56 -/
def c56_e : XC := (.sO [.al p3 (.box q1), .mv p4 (.c (.str [])) .s] (.sO [.mv p6 q0 .v, .P p7 (.nilck q6) .v, .fa p8 2 q7, .ld p9 q8 tI, .cl p10 79 [q9] .s, .bn p11 .add (.c (.str [36])) q10 .s, .mv p5 q11 .s] (.sO [.mv p12 q0 .v, .P p13 (.nilck q12) .v, .fa p14 2 q13, .ld p15 q14 tI, .bn p16 .add q15 (ci 1) tI, .P p17 (.nilck q12) .v, .fa p18 2 q17, .st q18 q16] (.seq (.ops true (XL.of [.mv p19 q0 .v, .P p20 (.nilck q19) .v, .fa p21 0 q20, .ld p22 q21 .v, .mv p23 q0 .v, .P p24 (.nilck q23) .v, .fa p25 0 q24, .ld p26 q25 .v, .P p27 (.lenl q26) tI, .bn p28 .sub q27 (ci 1) tI, .P p29 (.iaddr (.sl 1) q22 q28) .v, .ld p30 q29 .v, .fa p31 3 q3, .ld p32 q31 .s, .L p33 (.cells 17 q3) .v, .mv p34 q5 .s, .P p35 (.build [(.bool false), (.bool false), (.bool false), (.str []), (kI 0), (kI 0), .nils, (.bool false), .nils, (kI 0), .nils, .nils, (.str []), (kI 0), (kI 0), (kI 0), (kI 0), (.str [])] [⟨0, 17, q33⟩, ⟨17, 1, q34⟩]) .v, .o ⟨none, (.e (.mset .str q30 q32 q35)), none, []⟩ .v])) (.sO [.mv p36 q5 .s, .mv p4 q36 .s] (.s .ret))))))
def x56 : XFn := ⟨[.v, .v], false, [(.tmp p4)], c56_e⟩
def e56_0 (k t0 t1 h) := kN k [(p0, t0), (p1, t1)] h
def S56_0 (D : CallD) (m : Nat) (t0 t1 : AV) (h : HP) : Res2 :=
 let t3 := AV.ptr (HP.nxQ h) 0
 let h1 := HP.newQ h (.cells true (AV.cells t1))
 nilckC t0 fun t7 =>
 faC 2 t7 fun t8 =>
 ldI t8 h1 fun t9 =>
 cal D 79 [(vI t9)] h1 fun t10 h2 =>
 asS t10 fun t10a =>
 obS (strBin .add ([36] : LN) t10a) fun t11 =>
 nilckC t0 fun t13 =>
 faC 2 t13 fun t14 =>
 ldI t14 h2 fun t15 =>
 let t16 := wrQ .i64 (addQ t15 (Int.ofNat 1))
 nilckC t0 fun t17 =>
 faC 2 t17 fun t18 =>
 stoC t18 (vI t16) h2 fun h3 =>
 nilckC t0 fun t20 =>
 faC 0 t20 fun t21 =>
 cellC t21 h3 fun t22 =>
 nilckC t0 fun t24 =>
 faC 0 t24 fun t25 =>
 cellC t25 h3 fun t26 =>
 lenC t26 fun vt27 => asI .i64 vt27 fun t27 =>
 let t28 := wrQ .i64 (t27 - (Int.ofNat 1))
 iasC 1 t22 (vI t28) fun t29 =>
 cellC t29 h3 fun t30 =>
 let t31 := (AV.ptr (HP.nxQ h) (Nat.add 0 3))
 ldS t31 h3 fun t32 =>
 cellsC 17 t3 h3 fun t33 =>
 obQ (evP (.build [(.bool false), (.bool false), (.bool false), (.str []), (kI 0), (kI 0), .nils, (.bool false), .nils, (kI 0), .nils, .nils, (.str []), (kI 0), (kI 0), (kI 0), (kI 0), (.str [])] [⟨0, 17, (.c t33)⟩, ⟨17, 1, (.c (vS t11))⟩]) .leaf) fun t35 =>
 eff (.mset .str (.c t30) (.c (vS t32)) (.c t35)) h3 fun t0a h4 =>
 some (.ret (vS t11) h4, .no)
def S56 : SFn := fun D m args h u => nou u <| popV args fun t0 args => popV args fun t1 args => endA args (S56_0 D m t0 t1 h)
theorem T56_0 (hE : FX x56 D m E) : S56_0 D m = e56_0 (E c56_e []) := by unfold S56_0; rw [hE c56_e]; kernel_rfl
theorem X56 : XTie S56 x56 := X_of fun D m E hE args h u => by unfold S56; rw [T56_0 hE]; kernel_rfl
/- 57 -/
def c57_e : XC := (.sO [.mv p2 (.c .nils) .v] (.seq (.seq (.oX [.mv p3 q0 .v, .P p4 (.eqn .sl false q3 (.c .nils)) .b]) (.cond q4 (.seq (.oX [.mv p2 (.c .nils) .v]) .ret) .skip)) (.sO [.al p5 (.bsl [] 0 []), .mv p6 q0 .v, .o ⟨(some p7), (.e (.app 8 96 q5 q6)), none, []⟩ .v, .mv p2 q7 .v] (.s .ret))))
def x57 : XFn := ⟨[.v], false, [(.tmp p2)], c57_e⟩
def e57_0 (k t0 h) := kN k [(p0, t0)] h
def S57_0 (D : CallD) (m : Nat) (t0 : AV) (h : HP) : Res2 :=
 obB (evP (.eqn .sl false (.c t0) (.c (.nils : AV))) .leaf) fun t4 =>
 br t4 (
 some (.ret (.nils : AV) h, .no)) (
 let t5 := AV.slice (HP.nxQ h) 0 0 (.exact 0)
 let h1 := HP.newQ h (.cells true [])
 eff (.app 8 96 (.c t5) (.c t0)) h1 fun t7 h2 =>
 some (.ret t7 h2, .no))
def S57 : SFn := fun D m args h u => nou u <| popV args fun t0 args => endA args (S57_0 D m t0 h)
theorem T57_0 (hE : FX x57 D m E) : S57_0 D m = e57_0 (E c57_e []) := by unfold S57_0; rw [hE c57_e]; kernel_rfl
theorem X57 : XTie S57 x57 := X_of fun D m E hE args h u => by unfold S57; rw [T57_0 hE]; kernel_rfl
/- 58 -/
def c58_e : XC := (.sO [.al p5 (.box q1), .al p8 (.new [(kI 0), (.str []), (.str []), (.int .u32 (.ofNat 0)), (.int .u64 (.ofNat 0)), .nils, (kI 0), (kI 0)])] (.sO [.mv p10 q0 .v, .L p11 (.cells 8 q5) .v, .cl p12 83 [q10, q11] .v, .ss 8 q5 q12] (.sO [.L p14 (.cells 8 q5) .v, .mv p15 q2 tI, .cl p16 84 [q14, q15] .v, .mv p13 q16 .v, .P p17 (.ext q13 0) .v, .P p18 (.ext q13 1) .b, .ss 8 q5 q17, .mv p9 q18 .b] (.sO [.mv p19 q9 .b, .mv p20 q3 tI, .cl p21 30 [q19, (ci 14), q20] .v] (.sO [.L p22 (.cells 8 q5) .v, .ss 8 q8 q22] (.s .ret))))))
def x58 : XFn := ⟨[.v, .v, tI, tI], false, [(.cells 8 p8)], c58_e⟩
def e58_0 (k t0 t1 t2 t3 h) := kN k [(p0, t0), (p1, t1), (p2, (vI t2)), (p3, (vI t3))] h
def S58_0 (D : CallD) (m : Nat) (t0 t1 : AV) (t2 t3 : Int) (h : HP) : Res2 :=
 let t5 := AV.ptr (HP.nxQ h) 0
 let h1 := HP.newQ h (.cells true (AV.cells t1))
 let t8 := AV.ptr (HP.nxQ h1) 0
 let h2 := HP.newQ h1 (.cells true [(kI 0), (.str []), (.str []), (.int .u32 (.ofNat 0)), (.int .u64 (.ofNat 0)), .nils, (kI 0), (kI 0)])
 cellsC 8 t5 h2 fun t11 =>
 cal D 83 [t0, t11] h2 fun t12 h3 =>
 stsC 8 t5 t12 h3 fun h4 =>
 cellsC 8 t5 h4 fun t14 =>
 cal D 84 [t14, (vI t2)] h4 fun t16 h5 =>
 extC t16 0 fun t17 =>
 extC t16 1 fun vt18 => asB vt18 fun t18 =>
 stsC 8 t5 t17 h5 fun h6 =>
 cal D 30 [(vB t18), (vI (Int.ofNat 14)), (vI t3)] h6 fun t21 h7 =>
 cellsC 8 t5 h7 fun t22 =>
 stsC 8 t8 t22 h7 fun h8 =>
 cellsC 8 t8 h8 fun t8a =>
 some (.ret t8a h8, .no)
def S58 : SFn := fun D m args h u => nou u <| popV args fun t0 args => popV args fun t1 args => popI .i64 args fun t2 args => popI .i64 args fun t3 args => endA args (S58_0 D m t0 t1 t2 t3 h)
theorem T58_0 (hE : FX x58 D m E) : S58_0 D m = e58_0 (E c58_e []) := by unfold S58_0; rw [hE c58_e]; kernel_rfl
theorem X58 : XTie S58 x58 := X_of fun D m E hE args h u => by unfold S58; rw [T58_0 hE]; kernel_rfl
/- 59 -/
def v59_0 : List Pos := [p1]
def c59_0 : XC := (.sO [.mv p23 q1 .v, .mv p4 q23 .v] (.s .ret))
def v59_1 : List Pos := [p0, p1, p9, p10]
def c59_1b : XC := (.sO [.bn p11 .lss q10 q9 .b] (.seq (.cond q11 .skip (.exit 0)) (.seq (.block 1 (.seq (.oX [.mv p12 q10 tI, .mv p5 q12 tI]) (.oX [.mv p13 q1 .v, .mv p14 q5 tI, .mv p15 q0 .v, .mv p16 q1 .v, .mv p17 q5 tI, .P p18 (.iaddr (.sl 7) q16 q17) .v, .L p19 (.cells 7 q18) .v, .cl p20 86 [q15, q19] .v, .P p21 (.iaddr (.sl 7) q13 q14) .v, .ss 7 q21 q20]))) (.s (.oX [.bn p22 .add q10 (ci 1) tI, .mv p10 q22 tI])))))
def c59_e : XC := (.sO [.mv p4 (.c .nils) .v] (.sO [.mv p6 q1 .v, .cl p7 85 [q6] .v, .mv p1 q7 .v] (.sj v59_0 (.sO [.mv p8 q1 .v, .P p9 (.lenl q8) tI, .mv p10 (ci 0) tI] (.block 0 (.loop v59_1 c59_1b))) c59_0)))
def x59 : XFn := ⟨[.v, .v], false, [(.tmp p4)], c59_e⟩
def e59_0 (k t1 h) := kN k [(p1, t1)] h
def S59_0 (D : CallD) (m : Nat) (t1 : AV) (h : HP) : Res2 :=
 some (.ret t1 h, .no)
def e59_1 (k t0 t1 t9 t10 h) := kN k [(p0, t0), (p1, t1), (p9, (vI t9)), (p10, (vI t10))] h
def S59_1b (D : CallD) (m : Nat) (g1 : AV → AV → Int → Int → HP → Res2) (t0 t1 : AV) (t9 t10 : Int) (h : HP) : Res2 :=
 let t11 := ltQ t10 t9
 br t11 (
 iasC 7 t1 (vI t10) fun t18 =>
 cellsC 7 t18 h fun t19 =>
 cal D 86 [t0, t19] h fun t20 h4 =>
 iasC 7 t1 (vI t10) fun t21 =>
 stsC 7 t21 t20 h4 fun h5 =>
 let t22 := wrQ .i64 (addQ t10 (Int.ofNat 1))
 g1 t0 t1 t9 t22 h5) (
 S59_0 D m t1 h)
def S59_1 (D : CallD) (m : Nat) : AV → AV → Int → Int → HP → Res2 := nrec (fun _ _ _ _ _ => none) (fun _ g => S59_1b D m g) m
def e59_2 (k t0 t1 h) := kN k [(p0, t0), (p1, t1)] h
def S59_2 (D : CallD) (m : Nat) (t0 t1 : AV) (h : HP) : Res2 :=
 cal D 85 [t1] h fun t7 h3 =>
 lenC t7 fun vt9 => asI .i64 vt9 fun t9 =>
 S59_1 D m t0 t7 t9 (Int.ofNat 0) h3
def S59 : SFn := fun D m args h u => nou u <| popV args fun t0 args => popV args fun t1 args => endA args (S59_2 D m t0 t1 h)
theorem T59_0 (hE : FX x59 D m E) : S59_0 D m = e59_0 (E c59_0 []) := by unfold S59_0; rw [hE c59_0]; kernel_rfl
theorem T59_1b (hE : FX x59 D m E) (G1) : S59_1b D m (e59_1 G1) = e59_1 (E c59_1b [.lp v59_1 G1, .blk 0, .sj v59_0 c59_0]) := by unfold S59_1b; rw [T59_0 hE, hE c59_1b]; kernel_rfl
theorem T59_1 (hE : FX x59 D m E) : S59_1 D m = e59_1 (nrec (fun _ => none) (fun _ G1 st => E c59_1b [.lp v59_1 G1, .blk 0, .sj v59_0 c59_0] st) m) :=
  nrec_emb e59_1 (fun _ _ _ _ _ => none) (fun g => S59_1b D m g) (fun G1 st => E c59_1b [.lp v59_1 G1, .blk 0, .sj v59_0 c59_0] st) rfl (fun g => T59_1b hE g) m
theorem T59_2 (hE : FX x59 D m E) : S59_2 D m = e59_2 (E c59_e []) := by unfold S59_2; rw [T59_1 hE, hE c59_e]; kernel_rfl
theorem X59 : XTie S59 x59 := X_of fun D m E hE args h u => by unfold S59; rw [T59_2 hE]; kernel_rfl
/- 61 -/
def c61_e : XC := (.sO [.mv p4 (ci 0) tI] (.sO [.mv p5 q0 .s, .mv p6 q1 tC, .cl p7 87 [q5, q6] tI, .mv p4 q7 tI] (.s .ret)))
def x61 : XFn := ⟨[.s, tC], false, [(.tmp p4)], c61_e⟩
def e61_0 (k t0 t1 h) := kN k [(p0, (vS t0)), (p1, (vC t1))] h
def S61_0 (D : CallD) (m : Nat) (t0 : LN) (t1 : Int) (h : HP) : Res2 :=
 cal D 87 [(vS t0), (vC t1)] h fun t7 h1 =>
 asI .i64 t7 fun t7a =>
 some (.ret (vI t7a) h1, .no)
def S61 : SFn := fun D m args h u => nou u <| popS args fun t0 args => popI .u8 args fun t1 args => endA args (S61_0 D m t0 t1 h)
theorem T61_0 (hE : FX x61 D m E) : S61_0 D m = e61_0 (E c61_e []) := by unfold S61_0; rw [hE c61_e]; kernel_rfl
theorem X61 : XTie S61 x61 := X_of fun D m E hE args h u => by unfold S61; rw [T61_0 hE]; kernel_rfl
/- 62 -/
def c62_e : XC := (.sO [.mv p4 (cb false) .b] (.sO [.mv p5 q0 .s, .mv p6 q1 .s, .cl p7 88 [q5, q6] .b, .mv p4 q7 .b] (.s .ret)))
def x62 : XFn := ⟨[.s, .s], false, [(.tmp p4)], c62_e⟩
def e62_0 (k t0 t1 h) := kN k [(p0, (vS t0)), (p1, (vS t1))] h
def S62_0 (D : CallD) (m : Nat) (t0 t1 : LN) (h : HP) : Res2 :=
 cal D 88 [(vS t0), (vS t1)] h fun t7 h1 =>
 asB t7 fun t7a =>
 some (.ret (vB t7a) h1, .no)
def S62 : SFn := fun D m args h u => nou u <| popS args fun t0 args => popS args fun t1 args => endA args (S62_0 D m t0 t1 h)
theorem T62_0 (hE : FX x62 D m E) : S62_0 D m = e62_0 (E c62_e []) := by unfold S62_0; rw [hE c62_e]; kernel_rfl
theorem X62 : XTie S62 x62 := X_of fun D m E hE args h u => by unfold S62; rw [T62_0 hE]; kernel_rfl
/- 63 -/
def v63_0 : List Pos := [p5]
def c63_0 : XC := (.sO [.mv p19 q5 tI, .mv p4 q19 tI] (.s .ret))
def v63_2 : List Pos := [p0, p1, p5]
def c63_2 : XC := (.block 1 (.s (.oX [.mv p17 q5 tI, .bn p18 .add q17 (ci 1) tI, .mv p5 q18 tI])))
def c63_4 : XC := (.cond q16 (.s .skip) (.s (.exit 0)))
def l63_3 : XL := (XL.of [])
def v63_1 : List Pos := [p0, p1, p5]
def c63_1b : XC := (.sj v63_2 (.opq false (XL.pre [.mv p6 q5 tI, .mv p7 q0 .s, .P p8 (.lens q7) tI, .bn p9 .lss q6 q8 .b, .mv p10 q9 .b, .sp p10, .G p10 true p11 (.mov q1) .v, .G p10 true p12 (.mov q0) .s, .G p10 true p13 (.mov q5) tI, .G p10 true p14 (.idxs q12 q13) tC, .o ⟨(some p15), (.call (.val q11) [q14]), (some (p10, true)), []⟩ .b, .P p16 (.pick q10 q15 (cb false)) .b, .jn p10 [p0, p1, p5, p16]] l63_3) c63_4) c63_2)
def c63_e : XC := (.sO [.mv p4 (ci 0) tI] (.sO [.mv p5 (ci 0) tI] (.sj v63_0 (.block 0 (.loop v63_1 c63_1b)) c63_0)))
def x63 : XFn := ⟨[.s, .v], false, [(.tmp p4)], c63_e⟩
def e63_0 (k t5 h) := kN k [(p5, (vI t5))] h
def S63_0 (D : CallD) (m : Nat) (t5 : Int) (h : HP) : Res2 :=
 some (.ret (vI t5) h, .no)
def e63_2 (k t0 t1 t5 h) := kN k [(p0, (vS t0)), (p1, t1), (p5, (vI t5))] h
def S63_2 (D : CallD) (m : Nat) (g1 : LN → AV → Int → HP → Res2) (t0 : LN) (t1 : AV) (t5 : Int) (h : HP) : Res2 :=
 let t18 := wrQ .i64 (addQ t5 (Int.ofNat 1))
 g1 t0 t1 t18 h
def e63_3 (k t0 t1 t5 t16 h) := kN k [(p0, (vS t0)), (p1, t1), (p5, (vI t5)), (p16, (vB t16))] h
def S63_3 (D : CallD) (m : Nat) (g1 : LN → AV → Int → HP → Res2) (t0 : LN) (t1 : AV) (t5 : Int) (t16 : Bool) (h : HP) : Res2 :=
 br t16 (
 S63_2 D m g1 t0 t1 t5 h) (
 S63_0 D m t5 h)
def e63_1 (k t0 t1 t5 h) := kN k [(p0, (vS t0)), (p1, t1), (p5, (vI t5))] h
def S63_1b (D : CallD) (m : Nat) (g1 : LN → AV → Int → HP → Res2) (t0 : LN) (t1 : AV) (t5 : Int) (h : HP) : Res2 :=
 let t8 := Int.ofNat (lenL t0)
 let t9 := ltQ t5 t8
 br t9 (
 ixC (vS t0) (vI t5) fun vt14 => asI .u8 vt14 fun t14 =>
 obQ (target .leaf (.val (.c t1)) [(.c (vC t14))]) fun qh6 =>
 calC D qh6.1 qh6.2 h (fun t15 h6 =>
 asB t15 fun t15a =>
 S63_3 D m g1 t0 t1 t5 t15a h6) (panN)) (
 S63_3 D m g1 t0 t1 t5 false h)
def S63_1 (D : CallD) (m : Nat) : LN → AV → Int → HP → Res2 := nrec (fun _ _ _ _ => none) (fun _ g => S63_1b D m g) m
def e63_5 (k t0 t1 h) := kN k [(p0, (vS t0)), (p1, t1)] h
def S63_5 (D : CallD) (m : Nat) (t0 : LN) (t1 : AV) (h : HP) : Res2 :=
 S63_1 D m t0 t1 (Int.ofNat 0) h
def S63 : SFn := fun D m args h u => nou u <| popS args fun t0 args => popV args fun t1 args => endA args (S63_5 D m t0 t1 h)
theorem T63_0 (hE : FX x63 D m E) : S63_0 D m = e63_0 (E c63_0 []) := by unfold S63_0; rw [hE c63_0]; kernel_rfl
theorem T63_2 (hE : FX x63 D m E) (G1) : S63_2 D m (e63_1 G1) = e63_2 (E c63_2 [.lp v63_1 G1, .blk 0, .sj v63_0 c63_0]) := by unfold S63_2; rw [hE c63_2]; kernel_rfl
theorem T63_3 (hE : FX x63 D m E) (G1) : S63_3 D m (e63_1 G1) = e63_3 (E (.opq false l63_3 c63_4) [.sj v63_2 c63_2, .lp v63_1 G1, .blk 0, .sj v63_0 c63_0]) := by unfold S63_3; rw [T63_2 hE G1, T63_0 hE, hE (.opq false l63_3 c63_4)]; kernel_rfl
theorem T63_1b (hE : FX x63 D m E) (G1) : S63_1b D m (e63_1 G1) = e63_1 (E c63_1b [.lp v63_1 G1, .blk 0, .sj v63_0 c63_0]) := by unfold S63_1b; rw [T63_3 hE G1, hE c63_1b]; kernel_rfl
theorem T63_1 (hE : FX x63 D m E) : S63_1 D m = e63_1 (nrec (fun _ => none) (fun _ G1 st => E c63_1b [.lp v63_1 G1, .blk 0, .sj v63_0 c63_0] st) m) :=
  nrec_emb e63_1 (fun _ _ _ _ => none) (fun g => S63_1b D m g) (fun G1 st => E c63_1b [.lp v63_1 G1, .blk 0, .sj v63_0 c63_0] st) rfl (fun g => T63_1b hE g) m
theorem T63_5 (hE : FX x63 D m E) : S63_5 D m = e63_5 (E c63_e []) := by unfold S63_5; rw [T63_1 hE, hE c63_e]; kernel_rfl
theorem X63 : XTie S63 x63 := X_of fun D m E hE args h u => by unfold S63; rw [T63_5 hE]; kernel_rfl
/- 66 -/
def c66_e : XC := (.sO [.mv p2 (cb false) .b] (.sO [.mv p3 q0 tC, .bn p4 .eql q3 (.c (.int .u8 (.ofNat 95))) .b, .mv p5 q4 .b, .ge p5 (XL.of [.G p5 false p6 (.mov q0) tC, .G p5 false p7 (.bin .or q6 (.c (.int .u8 (.ofNat 32)))) tC, .G p5 false p8 (.bin .geq q7 (.c (.int .u8 (.ofNat 97)))) .b, .G p5 false p9 (.mov q8) .b, .ge p9 (XL.of [.G p9 true p10 (.mov q0) tC, .G p9 true p11 (.bin .or q10 (.c (.int .u8 (.ofNat 32)))) tC, .G p9 true p12 (.bin .leq q11 (.c (.int .u8 (.ofNat 122)))) .b, .G p5 false p13 (.pick q9 q12 (cb false)) .b]) p13 .b, .P p14 (.pick q5 (cb true) q13) .b]) p14 .b, .mv p2 q14 .b] (.s .ret)))
def x66 : XFn := ⟨[tC], false, [(.tmp p2)], c66_e⟩
def e66_0 (k t0 h) := kN k [(p0, (vC t0))] h
def S66_0 (D : CallD) (m : Nat) (t0 : Int) (h : HP) : Res2 :=
 let t4 := eqQ t0 (Int.ofNat 95)
 obB (brV t4 (
 some (vB true)) (
 obIV .u8 (intBin .or .u8 t0 (Int.ofNat 32)) fun t7 =>
 let t8 := leQ (Int.ofNat 97) t7
 obBV (brV t8 (
 obIV .u8 (intBin .or .u8 t0 (Int.ofNat 32)) fun t11 =>
 let t12 := leQ t11 (Int.ofNat 122)
 some (vB t12)) (
 some (vB false))) fun t13 =>
 some (vB t13))) fun t14 =>
 some (.ret (vB t14) h, .no)
def S66 : SFn := fun D m args h u => nou u <| popI .u8 args fun t0 args => endA args (S66_0 D m t0 h)
theorem T66_0 (hE : FX x66 D m E) : S66_0 D m = e66_0 (E c66_e []) := by unfold S66_0; rw [hE c66_e]; kernel_rfl
theorem X66 : XTie S66 x66 := X_of fun D m E hE args h u => by unfold S66; rw [T66_0 hE]; kernel_rfl
/- 67 -/
def c67_1 : XC := (.s .ret)
def l67_0 : XL := (XL.of [.mv p2 q8 .b])
def c67_e : XC := (.sO [.mv p2 (cb false) .b] (.opq false (XL.pre [.mv p3 q0 tC, .cl p4 66 [q3] .b, .mv p5 q4 .b, .sp p5, .G p5 false p6 (.mov q0) tC, .o ⟨(some p7), (.call (.fn 68) [q6]), (some (p5, false)), []⟩ .b, .P p8 (.pick q5 (cb true) q7) .b, .jn p5 [p8]] l67_0) c67_1))
def x67 : XFn := ⟨[tC], false, [(.tmp p2)], c67_e⟩
def e67_0 (k t8 h) := kN k [(p8, (vB t8))] h
def S67_0 (D : CallD) (m : Nat) (t8 : Bool) (h : HP) : Res2 :=
 some (.ret (vB t8) h, .no)
def e67_2 (k t0 h) := kN k [(p0, (vC t0))] h
def S67_2 (D : CallD) (m : Nat) (t0 : Int) (h : HP) : Res2 :=
 cal D 66 [(vC t0)] h fun t4 h3 =>
 asB t4 fun t4a =>
 br t4a (
 S67_0 D m true h3) (
 cal D 68 [(vC t0)] h3 fun t7 h4 =>
 asB t7 fun t7a =>
 S67_0 D m t7a h4)
def S67 : SFn := fun D m args h u => nou u <| popI .u8 args fun t0 args => endA args (S67_2 D m t0 h)
theorem T67_0 (hE : FX x67 D m E) : S67_0 D m = e67_0 (E (.opq false l67_0 c67_1) []) := by unfold S67_0; rw [hE (.opq false l67_0 c67_1)]; kernel_rfl
theorem T67_2 (hE : FX x67 D m E) : S67_2 D m = e67_2 (E c67_e []) := by unfold S67_2; rw [T67_0 hE, hE c67_e]; kernel_rfl
theorem X67 : XTie S67 x67 := X_of fun D m E hE args h u => by unfold S67; rw [T67_2 hE]; kernel_rfl
/- 68 -/
def c68_e : XC := (.sO [.mv p2 (cb false) .b] (.sO [.mv p3 q0 tC, .bn p4 .geq q3 (.c (.int .u8 (.ofNat 48))) .b, .mv p5 q4 .b, .ge p5 (XL.of [.G p5 true p6 (.mov q0) tC, .G p5 true p7 (.bin .leq q6 (.c (.int .u8 (.ofNat 57)))) .b, .P p8 (.pick q5 q7 (cb false)) .b]) p8 .b, .mv p2 q8 .b] (.s .ret)))
def x68 : XFn := ⟨[tC], false, [(.tmp p2)], c68_e⟩
def e68_0 (k t0 h) := kN k [(p0, (vC t0))] h
def S68_0 (D : CallD) (m : Nat) (t0 : Int) (h : HP) : Res2 :=
 let t4 := leQ (Int.ofNat 48) t0
 obB (brV t4 (
 let t7 := leQ t0 (Int.ofNat 57)
 some (vB t7)) (
 some (vB false))) fun t8 =>
 some (.ret (vB t8) h, .no)
def S68 : SFn := fun D m args h u => nou u <| popI .u8 args fun t0 args => endA args (S68_0 D m t0 h)
theorem T68_0 (hE : FX x68 D m E) : S68_0 D m = e68_0 (E c68_e []) := by unfold S68_0; rw [hE c68_e]; kernel_rfl
theorem X68 : XTie S68 x68 := X_of fun D m E hE args h u => by unfold S68; rw [T68_0 hE]; kernel_rfl
/- 69 -/
def v69_0 : List Pos := []
def c69_0 : XC := (.sO [.mv p2 (cb false) .b] (.s .ret))
def v69_1 : List Pos := [p4]
def c69_1 : XC := (.cond q4 (.sO [.mv p2 (cb true) .b] (.s .ret)) (.s .skip))
def c69_e : XC := (.sO [.mv p2 (cb false) .b] (.sj v69_0 (.sO [.mv p3 q0 .s] (.block 0 (.sj v69_1 (.sO [.bn p5 .eql q3 (.c (.str [105, 110, 116])) .b, .mv p4 q5 .b] (.cond q4 (.s .skip) (.sO [.bn p6 .eql q3 (.c (.str [100, 111, 117, 98, 108, 101])) .b, .mv p4 q6 .b] (.cond q4 (.s .skip) (.sO [.bn p7 .eql q3 (.c (.str [118, 111, 105, 100])) .b, .mv p4 q7 .b] (.cond q4 (.s .skip) (.sO [.bn p8 .eql q3 (.c (.str [115, 116, 97, 116, 105, 99])) .b, .mv p4 q8 .b] (.cond q4 (.s .skip) (.sO [.bn p9 .eql q3 (.c (.str [101, 120, 116, 101, 114, 110])) .b, .mv p4 q9 .b] (.cond q4 (.s .skip) (.sO [.bn p10 .eql q3 (.c (.str [105, 102])) .b, .mv p4 q10 .b] (.cond q4 (.s .skip) (.sO [.bn p11 .eql q3 (.c (.str [101, 108, 115, 101])) .b, .mv p4 q11 .b] (.cond q4 (.s .skip) (.sO [.bn p12 .eql q3 (.c (.str [119, 104, 105, 108, 101])) .b, .mv p4 q12 .b] (.cond q4 (.s .skip) (.sO [.bn p13 .eql q3 (.c (.str [114, 101, 116, 117, 114, 110])) .b, .mv p4 q13 .b] (.cond q4 (.s .skip) (.sO [.bn p14 .eql q3 (.c (.str [98, 114, 101, 97, 107])) .b, .mv p4 q14 .b] (.cond q4 (.s .skip) (.s (.oX [.bn p15 .eql q3 (.c (.str [99, 111, 110, 116, 105, 110, 117, 101])) .b, .mv p4 q15 .b])))))))))))))))))))))) c69_1))) c69_0))
def x69 : XFn := ⟨[.s], false, [(.tmp p2)], c69_e⟩
def e69_0 (k h) := kN k [] h
def S69_0 (D : CallD) (m : Nat) (h : HP) : Res2 :=
 some (.ret (vB false) h, .no)
def e69_1 (k t4 h) := kN k [(p4, (vB t4))] h
def S69_1 (D : CallD) (m : Nat) (t4 : Bool) (h : HP) : Res2 :=
 br t4 (
 some (.ret (vB true) h, .no)) (
 S69_0 D m h)
def e69_2 (k t0 h) := kN k [(p0, (vS t0))] h
def S69_2 (D : CallD) (m : Nat) (t0 : LN) (h : HP) : Res2 :=
 let t5 := eqL t0 ([105, 110, 116] : LN)
 br t5 (
 S69_1 D m t5 h) (
 let t6 := eqL t0 ([100, 111, 117, 98, 108, 101] : LN)
 br t6 (
 S69_1 D m t6 h) (
 let t7 := eqL t0 ([118, 111, 105, 100] : LN)
 br t7 (
 S69_1 D m t7 h) (
 let t8 := eqL t0 ([115, 116, 97, 116, 105, 99] : LN)
 br t8 (
 S69_1 D m t8 h) (
 let t9 := eqL t0 ([101, 120, 116, 101, 114, 110] : LN)
 br t9 (
 S69_1 D m t9 h) (
 let t10 := eqL t0 ([105, 102] : LN)
 br t10 (
 S69_1 D m t10 h) (
 let t11 := eqL t0 ([101, 108, 115, 101] : LN)
 br t11 (
 S69_1 D m t11 h) (
 let t12 := eqL t0 ([119, 104, 105, 108, 101] : LN)
 br t12 (
 S69_1 D m t12 h) (
 let t13 := eqL t0 ([114, 101, 116, 117, 114, 110] : LN)
 br t13 (
 S69_1 D m t13 h) (
 let t14 := eqL t0 ([98, 114, 101, 97, 107] : LN)
 br t14 (
 S69_1 D m t14 h) (
 let t15 := eqL t0 ([99, 111, 110, 116, 105, 110, 117, 101] : LN)
 S69_1 D m t15 h))))))))))
def S69 : SFn := fun D m args h u => nou u <| popS args fun t0 args => endA args (S69_2 D m t0 h)
theorem T69_0 (hE : FX x69 D m E) : S69_0 D m = e69_0 (E c69_0 []) := by unfold S69_0; rw [hE c69_0]; kernel_rfl
theorem T69_1 (hE : FX x69 D m E) : S69_1 D m = e69_1 (E c69_1 [.blk 0, .sj v69_0 c69_0]) := by unfold S69_1; rw [T69_0 hE, hE c69_1]; kernel_rfl
theorem T69_2 (hE : FX x69 D m E) : S69_2 D m = e69_2 (E c69_e []) := by unfold S69_2; rw [T69_1 hE, hE c69_e]; kernel_rfl
theorem X69 : XTie S69 x69 := X_of fun D m E hE args h u => by unfold S69; rw [T69_2 hE]; kernel_rfl
/- 70 -/
def v70_1 : List Pos := [p0, p4, p5]
def c70_1 : XC := (.seq (.seq (.oX [.mv p82 q5 tI, .bn p83 .eql q82 (ci 3) .b]) (.cond q83 (.seq (.seq (.oX [.mv p85 q0 .s, .mv p86 q4 tI, .P p87 (.slice .str q85 none (some q86) none) .s, .cl p88 90 [q87] .v, .mv p84 q88 .v, .P p89 (.ext q84 0) (.i .u64), .P p90 (.ext q84 1) tI, .mv p6 q89 (.i .u64), .mv p7 q90 tI]) (.seq (.oX [.mv p91 q7 tI, .bn p92 .neq q91 (ci 0) .b]) (.cond q92 (.seq (.oX [.mv p2 (ci 0) tI, .mv p3 (ci 0) tI]) .ret) .skip))) (.seq (.oX [.mv p93 q5 tI, .mv p94 q4 tI, .mv p2 q93 tI, .mv p3 q94 tI]) .ret)) .skip)) (.seq (.seq (.oX [.mv p96 q0 .s, .mv p97 q4 tI, .P p98 (.slice .str q96 none (some q97) none) .s, .cl p99 91 [q98, (ci 10), (ci 32)] .v, .mv p95 q99 .v, .P p100 (.ext q95 0) (.i .u64), .P p101 (.ext q95 1) .v, .mv p8 q100 (.i .u64), .mv p9 q101 .v]) (.seq (.oX [.mv p102 q9 .v, .P p103 (.eqn .ifc true q102 (.c .nili)) .b, .mv p104 q103 .b, .ge p104 (XL.of [.G p104 false p105 (.mov q4) tI, .G p104 false p106 (.bin .gtr q105 (ci 10)) .b, .P p107 (.pick q104 (cb true) q106) .b]) p107 .b]) (.cond q107 (.seq (.oX [.mv p2 (ci 0) tI, .mv p3 (ci 0) tI]) .ret) .skip))) (.sO [.mv p108 q5 tI, .mv p109 q4 tI, .mv p2 q108 tI, .mv p3 q109 tI] (.s .ret))))
def c70_3 : XC := (.cond q81 (.sO [.mv p2 (ci 0) tI, .mv p3 (ci 0) tI] (.s .ret)) (.s .skip))
def l70_2 : XL := (XL.of [])
def v70_0 : List Pos := [p0, p4, p5]
def c70_0 : XC := (.sj v70_1 (.opq false (XL.pre [.mv p66 q4 tI, .mv p67 q0 .s, .P p68 (.lens q67) tI, .bn p69 .lss q66 q68 .b, .mv p70 q69 .b, .sp p70, .G p70 true p71 (.mov q0) .s, .G p70 true p72 (.mov q4) tI, .G p70 true p73 (.idxs q71 q72) tC, .o ⟨(some p74), (.call (.fn 66) [q73]), (some (p70, true)), []⟩ .b, .G p70 true p75 (.mov q74) .b, .ge p75 (XL.of [.G p75 false p76 (.mov q0) .s, .G p75 false p77 (.mov q4) tI, .G p75 false p78 (.idxs q76 q77) tC, .G p75 false p79 (.bin .eql q78 (.c (.int .u8 (.ofNat 46)))) .b, .G p70 true p80 (.pick q75 (cb true) q79) .b]) p80 .b, .P p81 (.pick q70 q80 (cb false)) .b, .jn p70 [p0, p4, p5, p81]] l70_2) c70_3) c70_1)
def v70_4 : List Pos := [p0, p4, p5]
def c70_4 : XC := (.s (.oX [.mv p60 q4 tI, .mv p61 q0 .s, .mv p62 q4 tI, .P p63 (.slice .str q61 (some q62) none none) .s, .cl p64 63 [q63, (.c (.fn 68 [] []))] tI, .bn p65 .add q60 q64 tI, .mv p4 q65 tI]))
def c70_e : XC := (.sO [.mv p2 (ci 0) tI, .mv p3 (ci 0) tI] (.sO [.mv p10 q0 .s, .cl p11 63 [q10, (.c (.fn 68 [] []))] tI, .mv p4 q11 tI] (.sO [.mv p5 (ci 2) tI] (.sj v70_0 (.sO [.mv p12 q4 tI, .mv p13 q0 .s, .P p14 (.lens q13) tI, .bn p15 .lss q12 q14 .b, .mv p16 q15 .b, .ge p16 (XL.of [.G p16 true p17 (.mov q0) .s, .G p16 true p18 (.mov q4) tI, .G p16 true p19 (.idxs q17 q18) tC, .G p16 true p20 (.bin .eql q19 (.c (.int .u8 (.ofNat 46)))) .b, .P p21 (.pick q16 q20 (cb false)) .b]) p21 .b] (.cond q21 (.sO [.mv p5 (ci 3) tI] (.sO [.mv p22 q4 tI, .mv p23 q0 .s, .mv p24 q4 tI, .bn p25 .add q24 (ci 1) tI, .P p26 (.slice .str q23 (some q25) none none) .s, .cl p27 63 [q26, (.c (.fn 68 [] []))] tI, .bn p28 .add (ci 1) q27 tI, .bn p29 .add q22 q28 tI, .mv p4 q29 tI] (.sO [.mv p30 q4 tI, .mv p31 q0 .s, .P p32 (.lens q31) tI, .bn p33 .lss q30 q32 .b, .mv p34 q33 .b, .ge p34 (XL.of [.G p34 true p35 (.mov q0) .s, .G p34 true p36 (.mov q4) tI, .G p34 true p37 (.idxs q35 q36) tC, .G p34 true p38 (.bin .eql q37 (.c (.int .u8 (.ofNat 101)))) .b, .P p39 (.pick q34 q38 (cb false)) .b]) p39 .b] (.cond q39 (.sO [.mv p40 q4 tI, .bn p41 .add q40 (ci 1) tI, .mv p4 q41 tI] (.sj v70_4 (.sO [.mv p42 q4 tI, .mv p43 q0 .s, .P p44 (.lens q43) tI, .bn p45 .lss q42 q44 .b, .mv p46 q45 .b, .ge p46 (XL.of [.G p46 true p47 (.mov q0) .s, .G p46 true p48 (.mov q4) tI, .G p46 true p49 (.idxs q47 q48) tC, .G p46 true p50 (.bin .eql q49 (.c (.int .u8 (.ofNat 43)))) .b, .G p46 true p51 (.mov q50) .b, .ge p51 (XL.of [.G p51 false p52 (.mov q0) .s, .G p51 false p53 (.mov q4) tI, .G p51 false p54 (.idxs q52 q53) tC, .G p51 false p55 (.bin .eql q54 (.c (.int .u8 (.ofNat 45)))) .b, .G p46 true p56 (.pick q51 (cb true) q55) .b]) p56 .b, .P p57 (.pick q46 q56 (cb false)) .b]) p57 .b] (.cond q57 (.s (.oX [.mv p58 q4 tI, .bn p59 .add q58 (ci 1) tI, .mv p4 q59 tI])) (.s .skip))) c70_4)) (.s .skip))))) (.s .skip))) c70_0))))
def x70 : XFn := ⟨[.s], false, [(.tmp p2), (.tmp p3)], c70_e⟩
def e70_1 (k t0 t4 t5 h) := kN k [(p0, (vS t0)), (p4, (vI t4)), (p5, (vI t5))] h
def S70_1 (D : CallD) (m : Nat) (t0 : LN) (t4 t5 : Int) (h : HP) : Res2 :=
 let t83 := eqQ t5 (Int.ofNat 3)
 br t83 (
 slC (vS t0) none (some (vI t4)) fun vt87 => asS vt87 fun t87 =>
 cal D 90 [(vS t87)] h fun t88 h7 =>
 extC t88 0 fun vt89 => asI .u64 vt89 fun t89 =>
 extC t88 1 fun vt90 => asI .i64 vt90 fun t90 =>
 let t92 := notQ (eqQ t90 (Int.ofNat 0))
 br t92 (
 some (.ret (.tup [(vI (Int.ofNat 0)), (vI (Int.ofNat 0))]) h7, .no)) (
 some (.ret (.tup [(vI t5), (vI t4)]) h7, .no))) (
 slC (vS t0) none (some (vI t4)) fun vt98 => asS vt98 fun t98 =>
 cal D 91 [(vS t98), (vI (Int.ofNat 10)), (vI (Int.ofNat 32))] h fun t99 h8 =>
 extC t99 0 fun vt100 => asI .u64 vt100 fun t100 =>
 extC t99 1 fun t101 =>
 obB (evP (.eqn .ifc true (.c t101) (.c (.nili : AV))) .leaf) fun t103 =>
 obB (brV t103 (
 some (vB true)) (
 let t106 := ltQ (Int.ofNat 10) t4
 some (vB t106))) fun t107 =>
 br t107 (
 some (.ret (.tup [(vI (Int.ofNat 0)), (vI (Int.ofNat 0))]) h8, .no)) (
 some (.ret (.tup [(vI t5), (vI t4)]) h8, .no)))
def e70_2 (k t0 t4 t5 t81 h) := kN k [(p0, (vS t0)), (p4, (vI t4)), (p5, (vI t5)), (p81, (vB t81))] h
def S70_2 (D : CallD) (m : Nat) (t0 : LN) (t4 t5 : Int) (t81 : Bool) (h : HP) : Res2 :=
 br t81 (
 some (.ret (.tup [(vI (Int.ofNat 0)), (vI (Int.ofNat 0))]) h, .no)) (
 S70_1 D m t0 t4 t5 h)
def e70_0 (k t0 t4 t5 h) := kN k [(p0, (vS t0)), (p4, (vI t4)), (p5, (vI t5))] h
def S70_0 (D : CallD) (m : Nat) (t0 : LN) (t4 t5 : Int) (h : HP) : Res2 :=
 let t68 := Int.ofNat (lenL t0)
 let t69 := ltQ t4 t68
 br t69 (
 ixC (vS t0) (vI t4) fun vt73 => asI .u8 vt73 fun t73 =>
 cal D 66 [(vC t73)] h fun t74 h9 =>
 asB t74 fun t74a =>
 obB (brV t74a (
 some (vB true)) (
 ixCV (vS t0) (vI t4) fun vt78 => asIV .u8 vt78 fun t78 =>
 let t79 := eqQ t78 (Int.ofNat 46)
 some (vB t79))) fun t80 =>
 S70_2 D m t0 t4 t5 t80 h9) (
 S70_2 D m t0 t4 t5 false h)
def e70_4 (k t0 t4 t5 h) := kN k [(p0, (vS t0)), (p4, (vI t4)), (p5, (vI t5))] h
def S70_4 (D : CallD) (m : Nat) (t0 : LN) (t4 t5 : Int) (h : HP) : Res2 :=
 slC (vS t0) (some (vI t4)) none fun vt63 => asS vt63 fun t63 =>
 cal D 63 [(vS t63), ((.fn 68 [] []) : AV)] h fun t64 h11 =>
 asI .i64 t64 fun t64a =>
 let t65 := wrQ .i64 (addQ t4 t64a)
 S70_0 D m t0 t65 t5 h11
def e70_5 (k t0 h) := kN k [(p0, (vS t0))] h
def S70_5 (D : CallD) (m : Nat) (t0 : LN) (h : HP) : Res2 :=
 cal D 63 [(vS t0), ((.fn 68 [] []) : AV)] h fun t11 h6 =>
 asI .i64 t11 fun t11a =>
 let t14 := Int.ofNat (lenL t0)
 let t15 := ltQ t11a t14
 obB (brV t15 (
 ixCV (vS t0) (vI t11a) fun vt19 => asIV .u8 vt19 fun t19 =>
 let t20 := eqQ t19 (Int.ofNat 46)
 some (vB t20)) (
 some (vB false))) fun t21 =>
 br t21 (
 let t25 := wrQ .i64 (addQ t11a (Int.ofNat 1))
 slC (vS t0) (some (vI t25)) none fun vt26 => asS vt26 fun t26 =>
 cal D 63 [(vS t26), ((.fn 68 [] []) : AV)] h6 fun t27 h10 =>
 asI .i64 t27 fun t27a =>
 let t28 := wrQ .i64 (addQ (Int.ofNat 1) t27a)
 let t29 := wrQ .i64 (addQ t11a t28)
 let t32 := Int.ofNat (lenL t0)
 let t33 := ltQ t29 t32
 obB (brV t33 (
 ixCV (vS t0) (vI t29) fun vt37 => asIV .u8 vt37 fun t37 =>
 let t38 := eqQ t37 (Int.ofNat 101)
 some (vB t38)) (
 some (vB false))) fun t39 =>
 br t39 (
 let t41 := wrQ .i64 (addQ t29 (Int.ofNat 1))
 let t44 := Int.ofNat (lenL t0)
 let t45 := ltQ t41 t44
 obB (brV t45 (
 ixCV (vS t0) (vI t41) fun vt49 => asIV .u8 vt49 fun t49 =>
 let t50 := eqQ t49 (Int.ofNat 43)
 obBV (brV t50 (
 some (vB true)) (
 ixCV (vS t0) (vI t41) fun vt54 => asIV .u8 vt54 fun t54 =>
 let t55 := eqQ t54 (Int.ofNat 45)
 some (vB t55))) fun t56 =>
 some (vB t56)) (
 some (vB false))) fun t57 =>
 br t57 (
 let t59 := wrQ .i64 (addQ t41 (Int.ofNat 1))
 S70_4 D m t0 t59 (Int.ofNat 3) h10) (
 S70_4 D m t0 t41 (Int.ofNat 3) h10)) (
 S70_0 D m t0 t29 (Int.ofNat 3) h10)) (
 S70_0 D m t0 t11a (Int.ofNat 2) h6)
def S70 : SFn := fun D m args h u => nou u <| popS args fun t0 args => endA args (S70_5 D m t0 h)
theorem T70_1 (hE : FX x70 D m E) : S70_1 D m = e70_1 (E c70_1 []) := by unfold S70_1; rw [hE c70_1]; kernel_rfl
theorem T70_2 (hE : FX x70 D m E) : S70_2 D m = e70_2 (E (.opq false l70_2 c70_3) [.sj v70_1 c70_1]) := by unfold S70_2; rw [T70_1 hE, hE (.opq false l70_2 c70_3)]; kernel_rfl
theorem T70_0 (hE : FX x70 D m E) : S70_0 D m = e70_0 (E c70_0 []) := by unfold S70_0; rw [T70_2 hE, hE c70_0]; kernel_rfl
theorem T70_4 (hE : FX x70 D m E) : S70_4 D m = e70_4 (E c70_4 [.sj v70_0 c70_0]) := by unfold S70_4; rw [T70_0 hE, hE c70_4]; kernel_rfl
theorem T70_5 (hE : FX x70 D m E) : S70_5 D m = e70_5 (E c70_e []) := by unfold S70_5; rw [T70_4 hE, T70_0 hE, hE c70_e]; kernel_rfl
theorem X70 : XTie S70 x70 := X_of fun D m E hE args h u => by unfold S70; rw [T70_5 hE]; kernel_rfl
/- 73 -/
def v73_0 : List Pos := [p1, p2, p3]
def c73_0 : XC := (.sO [.ld p98 q1 .v, .cl p99 44 [q98, (.c (.str [59]))] .v] (.sO [.L p100 (.cells 7 q3) .v, .ss 7 q2 q100] (.s .ret)))
def v73_1 : List Pos := [p2, p3]
def c73_1 : XC := (.sO [.L p44 (.cells 7 q3) .v, .ss 7 q2 q44] (.s .ret))
def c73_e : XC := (.sO [.al p1 (.box q0), .al p2 (.new [(kI 0), .nils, .nils, (.str []), (kI 0), (kI 0), (kI 0)])] (.sO [.ld p4 q1 .v, .cl p5 75 [q4] .v] (.sO [.P p6 (.mkfn 92 [] [q1]) .v, .o ⟨none, (.defer (.val q6) []), none, []⟩ .v] (.sO [.ld p7 q1 .v, .cl p8 23 [q7] .v, .P p9 (.field 2 1 false q8) tI, .P p10 (.build [(kI 0), .nils, .nils, (.str []), (kI 0), (kI 0), (kI 0)] [⟨6, 1, q9⟩]) .v, .al p3 (.new [(kI 0), .nils, .nils, (.str []), (kI 0), (kI 0), (kI 0)]), .ss 7 q3 q10] (.sj v73_0 (.block 0 (.sO [.ld p16 q1 .v, .al p17 (.bsl [(.str [])] 1 [⟨0, 1, (.c (.str [123]))⟩]), .cl p18 42 [q16, q17] .b, .mv p15 q18 .b] (.cond q15 (.sO [.ld p19 q1 .v, .cl p20 43 [q19] .v, .ss 7 q2 q20] (.s .ret)) (.sO [.ld p22 q1 .v, .cl p23 38 [q22, (.c (.str [105, 102]))] .b, .mv p21 q23 .b] (.cond q21 (.sO [.ld p24 q1 .v, .cl p25 93 [q24] .v, .fa p26 0 q3, .st q26 (ci 2), .fa p27 1 q3, .st q27 q25] (.seq (.ops true (XL.of [.fa p28 2 q3, .ld p29 q28 .v, .ld p30 q1 .v, .o ⟨(some p31), (.call (.fn 73) [q30]), none, [⟨none, .cell q28, p29⟩]⟩ .v, .al p32 (.bsl [(kI 0), .nils, .nils, (.str []), (kI 0), (kI 0), (kI 0)] 1 [⟨0, 7, q31⟩]), .o ⟨(some p33), (.e (.app 7 96 q29 q32)), none, []⟩ .v, .fa p34 2 q3, .st q34 q33])) (.sj v73_1 (.sO [.ld p35 q1 .v, .cl p36 38 [q35, (.c (.str [101, 108, 115, 101]))] .b] (.cond q36 (.s (.ops true (XL.of [.fa p37 2 q3, .ld p38 q37 .v, .ld p39 q1 .v, .o ⟨(some p40), (.call (.fn 73) [q39]), none, [⟨none, .cell q37, p38⟩]⟩ .v, .al p41 (.bsl [(kI 0), .nils, .nils, (.str []), (kI 0), (kI 0), (kI 0)] 1 [⟨0, 7, q40⟩]), .o ⟨(some p42), (.e (.app 7 96 q38 q41)), none, []⟩ .v, .fa p43 2 q3, .st q43 q42]))) (.s .skip))) c73_1))) (.sO [.ld p46 q1 .v, .cl p47 38 [q46, (.c (.str [119, 104, 105, 108, 101]))] .b, .mv p45 q47 .b] (.cond q45 (.sO [.ld p48 q1 .v, .cl p49 93 [q48] .v, .fa p50 0 q3, .st q50 (ci 3), .fa p51 1 q3, .st q51 q49] (.seq (.ops true (XL.of [.fa p52 2 q3, .ld p53 q52 .v, .ld p54 q1 .v, .o ⟨(some p55), (.call (.fn 73) [q54]), none, [⟨none, .cell q52, p53⟩]⟩ .v, .al p56 (.bsl [(kI 0), .nils, .nils, (.str []), (kI 0), (kI 0), (kI 0)] 1 [⟨0, 7, q55⟩]), .o ⟨(some p57), (.e (.app 7 96 q53 q56)), none, []⟩ .v, .fa p58 2 q3, .st q58 q57])) (.sO [.L p59 (.cells 7 q3) .v, .ss 7 q2 q59] (.s .ret)))) (.sO [.ld p61 q1 .v, .al p62 (.bsl [(.str []), (.str []), (.str [])] 3 [⟨0, 1, (.c (.str [105, 110, 116]))⟩, ⟨1, 1, (.c (.str [100, 111, 117, 98, 108, 101]))⟩, ⟨2, 1, (.c (.str [118, 111, 105, 100]))⟩]), .cl p63 42 [q61, q62] .b, .mv p60 q63 .b] (.cond q60 (.sO [.ld p64 q1 .v, .cl p65 39 [q64] tI, .fa p66 0 q3, .st q66 (ci 8), .fa p67 4 q3, .st q67 q65] (.sO [.ld p68 q1 .v, .cl p69 40 [q68, (ci 1)] .s, .fa p70 3 q3, .st q70 q69] (.sO [.ld p71 q1 .v, .cl p72 45 [q71] tI, .fa p73 5 q3, .st q73 q72] (.sO [.ld p74 q1 .v, .cl p75 38 [q74, (.c (.str [61]))] .b] (.cond q75 (.s (.ops true (XL.of [.fa p76 1 q3, .ld p77 q76 .v, .ld p78 q1 .v, .o ⟨(some p79), (.call (.fn 46) [q78]), none, [⟨none, .cell q76, p77⟩]⟩ .v, .al p80 (.bsl [(kI 0), (.str []), (.str []), (.int .u32 (.ofNat 0)), (.int .u64 (.ofNat 0)), .nils, (kI 0), (kI 0)] 1 [⟨0, 8, q79⟩]), .o ⟨(some p81), (.e (.app 8 96 q77 q80)), none, []⟩ .v, .fa p82 1 q3, .st q82 q81]))) (.s .skip)))))) (.sO [.ld p84 q1 .v, .cl p85 38 [q84, (.c (.str [98, 114, 101, 97, 107]))] .b, .mv p83 q85 .b] (.cond q83 (.s (.oX [.fa p86 0 q3, .st q86 (ci 5)])) (.sO [.ld p88 q1 .v, .cl p89 38 [q88, (.c (.str [99, 111, 110, 116, 105, 110, 117, 101]))] .b, .mv p87 q89 .b] (.cond q87 (.s (.oX [.fa p90 0 q3, .st q90 (ci 6)])) (.sO [.ld p92 q1 .v, .cl p93 38 [q92, (.c (.str [114, 101, 116, 117, 114, 110]))] .b, .mv p91 q93 .b] (.cond q91 (.sO [.fa p94 0 q3, .st q94 (ci 4)] (.s (.oX [.ld p95 q1 .v, .cl p96 94 [q95] .v, .fa p97 1 q3, .st q97 q96]))) (.sO [.fa p11 0 q3, .st q11 (ci 7)] (.s (.oX [.ld p12 q1 .v, .cl p13 94 [q12] .v, .fa p14 1 q3, .st q14 q13])))))))))))))))))) c73_0)))))
def x73 : XFn := ⟨[.v], false, [(.cells 7 p2)], c73_e⟩
def e73_0 (k : St → Res2) (t1 t2 t3 : AV) (h : HP) (df : List ADef) : Res2 := k ⟨mkT [(p1, t1), (p2, t2), (p3, t3)], h, df, .no⟩
def S73_0 (D : CallD) (m : Nat) (t1 t2 t3 : AV) (h : HP) (df : List ADef) : Res2 :=
 cellC t1 h fun t98 =>
 calC D 44 [t98, (vS ([59] : LN))] h (fun t99 h10 =>
 cellsC 7 t3 h10 fun t100 =>
 stsC 7 t2 t100 h10 fun h11 =>
 XFn.endOf x73 D (.ret ⟨(mkT [(p2, t2)]), h11, df, .no⟩)) (fun ch10 gh10 => XFn.endOf x73 D (.panic ch10 ⟨(mkT [(p2, t2)]), gh10, df, .no⟩))
def e73_1 (k : St → Res2) (t2 t3 : AV) (h : HP) (df : List ADef) : Res2 := k ⟨mkT [(p2, t2), (p3, t3)], h, df, .no⟩
def S73_1 (D : CallD) (m : Nat) (t2 t3 : AV) (h : HP) (df : List ADef) : Res2 :=
 cellsC 7 t3 h fun t44 =>
 stsC 7 t2 t44 h fun h25 =>
 XFn.endOf x73 D (.ret ⟨(mkT [(p2, t2)]), h25, df, .no⟩)
def e73_2 (k t0 h) := kN k [(p0, t0)] h
def S73_2 (D : CallD) (m : Nat) (t0 : AV) (h : HP) : Res2 :=
 let t1 := AV.ptr (HP.nxQ h) 0
 let h3 := HP.newQ h (.cells true (AV.cells t0))
 let t2 := AV.ptr (HP.nxQ h3) 0
 let h4 := HP.newQ h3 (.cells true [(kI 0), .nils, .nils, (.str []), (kI 0), (kI 0), (kI 0)])
 cellC t1 h4 fun t4 =>
 calC D 75 [t4] h4 (fun t5 h5 =>
 let t6 := (AV.fn 92 [] [t1])
 let d6 : List ADef := ⟨92, [t1]⟩ :: []
 cellC t1 h5 fun t7 =>
 calC D 23 [t7] h5 (fun t8 h7 =>
 fldC 2 1 false t8 fun vt9 => asI .i64 vt9 fun t9 =>
 let t10 := (AV.agg [(vI (Int.ofNat 0)), (.nils : AV), (.nils : AV), (vS ([] : LN)), (vI (Int.ofNat 0)), (vI (Int.ofNat 0)), (vI t9)])
 let t3 := AV.ptr (HP.nxQ h7) 0
 let h8 := HP.newQ h7 (.cells true [(kI 0), .nils, .nils, (.str []), (kI 0), (kI 0), (kI 0)])
 stsC 7 t3 t10 h8 fun h9 =>
 cellC t1 h9 fun t16 =>
 let t17 := AV.slice (HP.nxQ h9) 0 1 (.exact 1)
 let h12 := HP.newQ h9 (.cells true [(vS ([123] : LN))])
 calC D 42 [t16, t17] h12 (fun t18 h13 =>
 asB t18 fun t18a =>
 br t18a (
 cellC t1 h13 fun t19 =>
 calC D 43 [t19] h13 (fun t20 h14 =>
 stsC 7 t2 t20 h14 fun h15 =>
 XFn.endOf x73 D (.ret ⟨(mkT [(p2, t2)]), h15, d6, .no⟩)) (fun ch14 gh14 => XFn.endOf x73 D (.panic ch14 ⟨(mkT [(p2, t2)]), gh14, d6, .no⟩))) (
 cellC t1 h13 fun t22 =>
 calC D 38 [t22, (vS ([105, 102] : LN))] h13 (fun t23 h16 =>
 asB t23 fun t23a =>
 br t23a (
 cellC t1 h16 fun t24 =>
 calC D 93 [t24] h16 (fun t25 h17 =>
 let t26 := (AV.ptr (HP.nxQ h7) (Nat.add 0 0))
 stoC t26 (vI (Int.ofNat 2)) h17 fun h18 =>
 let t27 := (AV.ptr (HP.nxQ h7) (Nat.add 0 1))
 stoC t27 t25 h18 fun h19 =>
 let t28 := (AV.ptr (HP.nxQ h7) (Nat.add 0 2))
 cellC t28 h19 fun t29 =>
 cellC t1 h19 fun t30 =>
 calC D 73 [t30] h19 (fun t31 h20 =>
 br (again [⟨none, .cell q28, p29⟩] (mkT [(p29, t29), (p28, t28)]) h20) (
 obQ (evA (.bsl [(kI 0), .nils, .nils, (.str []), (kI 0), (kI 0), (kI 0)] 1 [⟨0, 7, (.c t31)⟩]) .leaf) fun r21 =>
 let t32 := vkV r21.2 (HP.nxQ h20)
 let h22 := HP.newQ h20 r21.1
 eff (.app 7 96 (.c t29) (.c t32)) h22 fun t33 h23 =>
 let t34 := (AV.ptr (HP.nxQ h7) (Nat.add 0 2))
 stoC t34 t33 h23 fun h24 =>
 cellC t1 h24 fun t35 =>
 calC D 38 [t35, (vS ([101, 108, 115, 101] : LN))] h24 (fun t36 h26 =>
 asB t36 fun t36a =>
 br t36a (
 let t37 := (AV.ptr (HP.nxQ h7) (Nat.add 0 2))
 cellC t37 h26 fun t38 =>
 cellC t1 h26 fun t39 =>
 calC D 73 [t39] h26 (fun t40 h27 =>
 br (again [⟨none, .cell q37, p38⟩] (mkT [(p38, t38), (p37, t37)]) h27) (
 obQ (evA (.bsl [(kI 0), .nils, .nils, (.str []), (kI 0), (kI 0), (kI 0)] 1 [⟨0, 7, (.c t40)⟩]) .leaf) fun r28 =>
 let t41 := vkV r28.2 (HP.nxQ h27)
 let h29 := HP.newQ h27 r28.1
 eff (.app 7 96 (.c t38) (.c t41)) h29 fun t42 h30 =>
 let t43 := (AV.ptr (HP.nxQ h7) (Nat.add 0 2))
 stoC t43 t42 h30 fun h31 =>
 S73_1 D m t2 t3 h31 d6) none) (fun ch27 gh27 => XFn.endOf x73 D (.panic ch27 ⟨(mkT [(p2, t2)]), gh27, d6, .no⟩))) (
 S73_1 D m t2 t3 h26 d6)) (fun ch26 gh26 => XFn.endOf x73 D (.panic ch26 ⟨(mkT [(p2, t2)]), gh26, d6, .no⟩))) none) (fun ch20 gh20 => XFn.endOf x73 D (.panic ch20 ⟨(mkT [(p2, t2)]), gh20, d6, .no⟩))) (fun ch17 gh17 => XFn.endOf x73 D (.panic ch17 ⟨(mkT [(p2, t2)]), gh17, d6, .no⟩))) (
 cellC t1 h16 fun t46 =>
 calC D 38 [t46, (vS ([119, 104, 105, 108, 101] : LN))] h16 (fun t47 h32 =>
 asB t47 fun t47a =>
 br t47a (
 cellC t1 h32 fun t48 =>
 calC D 93 [t48] h32 (fun t49 h33 =>
 let t50 := (AV.ptr (HP.nxQ h7) (Nat.add 0 0))
 stoC t50 (vI (Int.ofNat 3)) h33 fun h34 =>
 let t51 := (AV.ptr (HP.nxQ h7) (Nat.add 0 1))
 stoC t51 t49 h34 fun h35 =>
 let t52 := (AV.ptr (HP.nxQ h7) (Nat.add 0 2))
 cellC t52 h35 fun t53 =>
 cellC t1 h35 fun t54 =>
 calC D 73 [t54] h35 (fun t55 h36 =>
 br (again [⟨none, .cell q52, p53⟩] (mkT [(p53, t53), (p52, t52)]) h36) (
 obQ (evA (.bsl [(kI 0), .nils, .nils, (.str []), (kI 0), (kI 0), (kI 0)] 1 [⟨0, 7, (.c t55)⟩]) .leaf) fun r37 =>
 let t56 := vkV r37.2 (HP.nxQ h36)
 let h38 := HP.newQ h36 r37.1
 eff (.app 7 96 (.c t53) (.c t56)) h38 fun t57 h39 =>
 let t58 := (AV.ptr (HP.nxQ h7) (Nat.add 0 2))
 stoC t58 t57 h39 fun h40 =>
 cellsC 7 t3 h40 fun t59 =>
 stsC 7 t2 t59 h40 fun h41 =>
 XFn.endOf x73 D (.ret ⟨(mkT [(p2, t2)]), h41, d6, .no⟩)) none) (fun ch36 gh36 => XFn.endOf x73 D (.panic ch36 ⟨(mkT [(p2, t2)]), gh36, d6, .no⟩))) (fun ch33 gh33 => XFn.endOf x73 D (.panic ch33 ⟨(mkT [(p2, t2)]), gh33, d6, .no⟩))) (
 cellC t1 h32 fun t61 =>
 let t62 := AV.slice (HP.nxQ h32) 0 3 (.exact 3)
 let h42 := HP.newQ h32 (.cells true [(vS ([105, 110, 116] : LN)), (vS ([100, 111, 117, 98, 108, 101] : LN)), (vS ([118, 111, 105, 100] : LN))])
 calC D 42 [t61, t62] h42 (fun t63 h43 =>
 asB t63 fun t63a =>
 br t63a (
 cellC t1 h43 fun t64 =>
 calC D 39 [t64] h43 (fun t65 h44 =>
 asI .i64 t65 fun t65a =>
 let t66 := (AV.ptr (HP.nxQ h7) (Nat.add 0 0))
 stoC t66 (vI (Int.ofNat 8)) h44 fun h45 =>
 let t67 := (AV.ptr (HP.nxQ h7) (Nat.add 0 4))
 stoC t67 (vI t65a) h45 fun h46 =>
 cellC t1 h46 fun t68 =>
 calC D 40 [t68, (vI (Int.ofNat 1))] h46 (fun t69 h47 =>
 asS t69 fun t69a =>
 let t70 := (AV.ptr (HP.nxQ h7) (Nat.add 0 3))
 stoC t70 (vS t69a) h47 fun h48 =>
 cellC t1 h48 fun t71 =>
 calC D 45 [t71] h48 (fun t72 h49 =>
 asI .i64 t72 fun t72a =>
 let t73 := (AV.ptr (HP.nxQ h7) (Nat.add 0 5))
 stoC t73 (vI t72a) h49 fun h50 =>
 cellC t1 h50 fun t74 =>
 calC D 38 [t74, (vS ([61] : LN))] h50 (fun t75 h51 =>
 asB t75 fun t75a =>
 br t75a (
 let t76 := (AV.ptr (HP.nxQ h7) (Nat.add 0 1))
 cellC t76 h51 fun t77 =>
 cellC t1 h51 fun t78 =>
 calC D 46 [t78] h51 (fun t79 h52 =>
 br (again [⟨none, .cell q76, p77⟩] (mkT [(p77, t77), (p76, t76)]) h52) (
 obQ (evA (.bsl [(kI 0), (.str []), (.str []), (.int .u32 (.ofNat 0)), (.int .u64 (.ofNat 0)), .nils, (kI 0), (kI 0)] 1 [⟨0, 8, (.c t79)⟩]) .leaf) fun r53 =>
 let t80 := vkV r53.2 (HP.nxQ h52)
 let h54 := HP.newQ h52 r53.1
 eff (.app 8 96 (.c t77) (.c t80)) h54 fun t81 h55 =>
 let t82 := (AV.ptr (HP.nxQ h7) (Nat.add 0 1))
 stoC t82 t81 h55 fun h56 =>
 S73_0 D m t1 t2 t3 h56 d6) none) (fun ch52 gh52 => XFn.endOf x73 D (.panic ch52 ⟨(mkT [(p2, t2)]), gh52, d6, .no⟩))) (
 S73_0 D m t1 t2 t3 h51 d6)) (fun ch51 gh51 => XFn.endOf x73 D (.panic ch51 ⟨(mkT [(p2, t2)]), gh51, d6, .no⟩))) (fun ch49 gh49 => XFn.endOf x73 D (.panic ch49 ⟨(mkT [(p2, t2)]), gh49, d6, .no⟩))) (fun ch47 gh47 => XFn.endOf x73 D (.panic ch47 ⟨(mkT [(p2, t2)]), gh47, d6, .no⟩))) (fun ch44 gh44 => XFn.endOf x73 D (.panic ch44 ⟨(mkT [(p2, t2)]), gh44, d6, .no⟩))) (
 cellC t1 h43 fun t84 =>
 calC D 38 [t84, (vS ([98, 114, 101, 97, 107] : LN))] h43 (fun t85 h57 =>
 asB t85 fun t85a =>
 br t85a (
 let t86 := (AV.ptr (HP.nxQ h7) (Nat.add 0 0))
 stoC t86 (vI (Int.ofNat 5)) h57 fun h58 =>
 S73_0 D m t1 t2 t3 h58 d6) (
 cellC t1 h57 fun t88 =>
 calC D 38 [t88, (vS ([99, 111, 110, 116, 105, 110, 117, 101] : LN))] h57 (fun t89 h59 =>
 asB t89 fun t89a =>
 br t89a (
 let t90 := (AV.ptr (HP.nxQ h7) (Nat.add 0 0))
 stoC t90 (vI (Int.ofNat 6)) h59 fun h60 =>
 S73_0 D m t1 t2 t3 h60 d6) (
 cellC t1 h59 fun t92 =>
 calC D 38 [t92, (vS ([114, 101, 116, 117, 114, 110] : LN))] h59 (fun t93 h61 =>
 asB t93 fun t93a =>
 br t93a (
 let t94 := (AV.ptr (HP.nxQ h7) (Nat.add 0 0))
 stoC t94 (vI (Int.ofNat 4)) h61 fun h62 =>
 cellC t1 h62 fun t95 =>
 calC D 94 [t95] h62 (fun t96 h63 =>
 let t97 := (AV.ptr (HP.nxQ h7) (Nat.add 0 1))
 stoC t97 t96 h63 fun h64 =>
 S73_0 D m t1 t2 t3 h64 d6) (fun ch63 gh63 => XFn.endOf x73 D (.panic ch63 ⟨(mkT [(p2, t2)]), gh63, d6, .no⟩))) (
 let t11 := (AV.ptr (HP.nxQ h7) (Nat.add 0 0))
 stoC t11 (vI (Int.ofNat 7)) h61 fun h65 =>
 cellC t1 h65 fun t12 =>
 calC D 94 [t12] h65 (fun t13 h66 =>
 let t14 := (AV.ptr (HP.nxQ h7) (Nat.add 0 1))
 stoC t14 t13 h66 fun h67 =>
 S73_0 D m t1 t2 t3 h67 d6) (fun ch66 gh66 => XFn.endOf x73 D (.panic ch66 ⟨(mkT [(p2, t2)]), gh66, d6, .no⟩)))) (fun ch61 gh61 => XFn.endOf x73 D (.panic ch61 ⟨(mkT [(p2, t2)]), gh61, d6, .no⟩)))) (fun ch59 gh59 => XFn.endOf x73 D (.panic ch59 ⟨(mkT [(p2, t2)]), gh59, d6, .no⟩)))) (fun ch57 gh57 => XFn.endOf x73 D (.panic ch57 ⟨(mkT [(p2, t2)]), gh57, d6, .no⟩)))) (fun ch43 gh43 => XFn.endOf x73 D (.panic ch43 ⟨(mkT [(p2, t2)]), gh43, d6, .no⟩)))) (fun ch32 gh32 => XFn.endOf x73 D (.panic ch32 ⟨(mkT [(p2, t2)]), gh32, d6, .no⟩)))) (fun ch16 gh16 => XFn.endOf x73 D (.panic ch16 ⟨(mkT [(p2, t2)]), gh16, d6, .no⟩)))) (fun ch13 gh13 => XFn.endOf x73 D (.panic ch13 ⟨(mkT [(p2, t2)]), gh13, d6, .no⟩))) (fun ch7 gh7 => XFn.endOf x73 D (.panic ch7 ⟨(mkT [(p2, t2)]), gh7, d6, .no⟩))) (fun ch5 gh5 => XFn.endOf x73 D (.panic ch5 ⟨(mkT [(p2, t2)]), gh5, [], .no⟩))
def S73 : SFn := fun D m args h u => nou u <| popV args fun t0 args => endA args (S73_2 D m t0 h)
theorem T73_0 (hE : FX x73 D m E) : S73_0 D m = e73_0 (E c73_0 []) := by unfold S73_0; rw [hE c73_0]; kernel_rfl
theorem T73_1 (hE : FX x73 D m E) : S73_1 D m = e73_1 (E c73_1 [.blk 0, .sj v73_0 c73_0]) := by unfold S73_1; rw [hE c73_1]; kernel_rfl
theorem T73_2 (hE : FX x73 D m E) : S73_2 D m = e73_2 (E c73_e []) := by unfold S73_2; rw [T73_1 hE, T73_0 hE, hE c73_e]; kernel_rfl
theorem X73 : XTie S73 x73 := X_of fun D m E hE args h u => by unfold S73; rw [T73_2 hE]; kernel_rfl
/- 75 -/
def v75_0 : List Pos := [p0]
def c75_0 : XC := (.s (.oX [.mv p9 q0 .v, .P p10 (.nilck q9) .v, .fa p11 2 q10, .ld p12 q11 tI, .bn p13 .add q12 (ci 1) tI, .P p14 (.nilck q9) .v, .fa p15 2 q14, .st q15 q13]))
def c75_e : XC := (.sj v75_0 (.sO [.mv p2 q0 .v, .P p3 (.nilck q2) .v, .fa p4 2 q3, .ld p5 q4 tI, .bn p6 .eql q5 (ci 40) .b] (.cond q6 (.s (.oX [.mv p7 q0 .v, .cl p8 72 [q7, (ci 12)] .v])) (.s .skip))) c75_0)
def x75 : XFn := ⟨[.v], false, [], c75_e⟩
def e75_0 (k t0 h) := kN k [(p0, t0)] h
def S75_0 (D : CallD) (m : Nat) (t0 : AV) (h : HP) : Res2 :=
 nilckC t0 fun t10 =>
 faC 2 t10 fun t11 =>
 ldI t11 h fun t12 =>
 let t13 := wrQ .i64 (addQ t12 (Int.ofNat 1))
 nilckC t0 fun t14 =>
 faC 2 t14 fun t15 =>
 stoC t15 (vI t13) h fun h2 =>
 some (.ret (.tup []) h2, .no)
def e75_1 (k t0 h) := kN k [(p0, t0)] h
def S75_1 (D : CallD) (m : Nat) (t0 : AV) (h : HP) : Res2 :=
 nilckC t0 fun t3 =>
 faC 2 t3 fun t4 =>
 ldI t4 h fun t5 =>
 let t6 := eqQ t5 (Int.ofNat 40)
 br t6 (
 cal D 72 [t0, (vI (Int.ofNat 12))] h fun t8 h3 =>
 S75_0 D m t0 h3) (
 S75_0 D m t0 h)
def S75 : SFn := fun D m args h u => nou u <| popV args fun t0 args => endA args (S75_1 D m t0 h)
theorem T75_0 (hE : FX x75 D m E) : S75_0 D m = e75_0 (E c75_0 []) := by unfold S75_0; rw [hE c75_0]; kernel_rfl
theorem T75_1 (hE : FX x75 D m E) : S75_1 D m = e75_1 (E c75_e []) := by unfold S75_1; rw [T75_0 hE, hE c75_e]; kernel_rfl
theorem X75 : XTie S75 x75 := X_of fun D m E hE args h u => by unfold S75; rw [T75_1 hE]; kernel_rfl
/- 76 -/
def c76_e : XC := (.s (.oX [.ld p1 q0 .v, .P p2 (.nilck q1) .v, .fa p3 2 q2, .ld p4 q3 tI, .bn p5 .sub q4 (ci 1) tI, .P p6 (.nilck q1) .v, .fa p7 2 q6, .st q7 q5]))
def x76 : XFn := ⟨[.v], true, [], c76_e⟩
def e76_0 (k : St → Res2) (t0 : AV) (h : HP) (u : AMode) : Res2 := k ⟨mkT [(p0, t0)], h, [], u⟩
def S76_0 (D : CallD) (m : Nat) (t0 : AV) (h : HP) (u : AMode) : Res2 :=
 cellC t0 h fun t1 =>
 nilckC t1 fun t2 =>
 faC 2 t2 fun t3 =>
 ldI t3 h fun t4 =>
 let t5 := wrQ .i64 (t4 - (Int.ofNat 1))
 nilckC t1 fun t6 =>
 faC 2 t6 fun t7 =>
 stoC t7 (vI t5) h fun h1 =>
 some (.ret (.tup []) h1, u)
def S76 : SFn := fun D m args h u => popV args fun t0 args => endA args (S76_0 D m t0 h u)
theorem T76_0 (hE : FX x76 D m E) : S76_0 D m = e76_0 (E c76_e []) := by unfold S76_0; rw [hE c76_e]; kernel_rfl
theorem X76 : XTie S76 x76 := X_of fun D m E hE args h u => by unfold S76; rw [T76_0 hE]; kernel_rfl
/- 77 -/
def v77_0 : List Pos := [p4, p6]
def c77_0 : XC := (.sO [.L p45 (.cells 8 q6) .v, .ss 8 q4 q45] (.s .ret))
def v77_1 : List Pos := [p0, p1, p4, p5, p6]
def c77_1b : XC := (.seq (.seq (.oX [.mv p19 q0 .v, .mv p20 q5 .v, .mv p21 q1 tI, .P p22 (.iaddr (.sl 1) q20 q21) .v, .ld p23 q22 .v, .cl p24 42 [q19, q23] .b]) (.cond q24 .skip (.exit 0))) (.block 1 (.sO [.mv p25 q0 .v, .cl p26 23 [q25] .v, .P p27 (.field 1 1 false q26) .s, .mv p7 q27 .s] (.sO [.mv p28 q0 .v, .P p29 (.nilck q28) .v, .fa p30 1 q29, .ld p31 q30 tI, .bn p32 .add q31 (ci 1) tI, .P p33 (.nilck q28) .v, .fa p34 1 q33, .st q34 q32] (.s (.ops true (XL.of [.mv p35 q7 .s, .L p36 (.cells 8 q6) .v, .mv p37 q0 .v, .mv p38 q1 tI, .bn p39 .add q38 (ci 1) tI, .fa p42 7 q6, .ld p43 q42 tI, .o ⟨(some p40), (.call (.fn 77) [q37, q39]), none, [⟨none, .cells 8 q6, p36⟩, ⟨none, .cell q42, p43⟩]⟩ .v, .al p41 (.bsl [(kI 0), (.str []), (.str []), (.int .u32 (.ofNat 0)), (.int .u64 (.ofNat 0)), .nils, (kI 0), (kI 0), (kI 0), (.str []), (.str []), (.int .u32 (.ofNat 0)), (.int .u64 (.ofNat 0)), .nils, (kI 0), (kI 0)] 2 [⟨0, 8, q36⟩, ⟨8, 8, q40⟩]), .P p44 (.build [(kI 0), (.str []), (.str []), (.int .u32 (.ofNat 0)), (.int .u64 (.ofNat 0)), .nils, (kI 0), (kI 0)] [⟨0, 1, (ci 5)⟩, ⟨1, 1, q35⟩, ⟨5, 1, q41⟩, ⟨7, 1, q43⟩]) .v, .ss 8 q6 q44])))))))
def c77_e : XC := (.sO [.al p4 (.new [(kI 0), (.str []), (.str []), (.int .u32 (.ofNat 0)), (.int .u64 (.ofNat 0)), .nils, (kI 0), (kI 0)])] (.sO [.cl p8 97 [] .v, .mv p5 q8 .v] (.seq (.seq (.oX [.mv p9 q1 tI, .mv p10 q5 .v, .P p11 (.lenl q10) tI, .bn p12 .eql q9 q11 .b]) (.cond q12 (.seq (.oX [.mv p13 q0 .v, .cl p14 98 [q13] .v, .ss 8 q4 q14]) .ret) .skip)) (.sO [.mv p15 q0 .v, .mv p16 q1 tI, .bn p17 .add q16 (ci 1) tI, .cl p18 77 [q15, q17] .v, .al p6 (.new [(kI 0), (.str []), (.str []), (.int .u32 (.ofNat 0)), (.int .u64 (.ofNat 0)), .nils, (kI 0), (kI 0)]), .ss 8 q6 q18] (.sj v77_0 (.block 0 (.loop v77_1 c77_1b)) c77_0)))))
def x77 : XFn := ⟨[.v, tI], false, [(.cells 8 p4)], c77_e⟩
def e77_0 (k t4 t6 h) := kN k [(p4, t4), (p6, t6)] h
def S77_0 (D : CallD) (m : Nat) (t4 t6 : AV) (h : HP) : Res2 :=
 cellsC 8 t6 h fun t45 =>
 stsC 8 t4 t45 h fun h10 =>
 cellsC 8 t4 h10 fun t4a =>
 some (.ret t4a h10, .no)
def e77_1 (k t0 t1 t4 t5 t6 h) := kN k [(p0, t0), (p1, (vI t1)), (p4, t4), (p5, t5), (p6, t6)] h
def S77_1b (D : CallD) (m : Nat) (g1 : AV → Int → AV → AV → AV → HP → Res2) (t0 : AV) (t1 : Int) (t4 t5 t6 : AV) (h : HP) : Res2 :=
 iasC 1 t5 (vI t1) fun t22 =>
 cellC t22 h fun t23 =>
 cal D 42 [t0, t23] h fun t24 h11 =>
 asB t24 fun t24a =>
 br t24a (
 cal D 23 [t0] h11 fun t26 h12 =>
 fldC 1 1 false t26 fun vt27 => asS vt27 fun t27 =>
 nilckC t0 fun t29 =>
 faC 1 t29 fun t30 =>
 ldI t30 h12 fun t31 =>
 let t32 := wrQ .i64 (addQ t31 (Int.ofNat 1))
 nilckC t0 fun t33 =>
 faC 1 t33 fun t34 =>
 stoC t34 (vI t32) h12 fun h13 =>
 cellsC 8 t6 h13 fun t36 =>
 let t39 := wrQ .i64 (addQ t1 (Int.ofNat 1))
 faC 7 t6 fun t42 =>
 ldI t42 h13 fun t43 =>
 cal D 77 [t0, (vI t39)] h13 fun t40 h14 =>
 br (again [⟨none, .cells 8 q6, p36⟩, ⟨none, .cell q42, p43⟩] (mkT [(p43, (vI t43)), (p42, t42), (p36, t36), (p6, t6)]) h14) (
 obQ (evA (.bsl [(kI 0), (.str []), (.str []), (.int .u32 (.ofNat 0)), (.int .u64 (.ofNat 0)), .nils, (kI 0), (kI 0), (kI 0), (.str []), (.str []), (.int .u32 (.ofNat 0)), (.int .u64 (.ofNat 0)), .nils, (kI 0), (kI 0)] 2 [⟨0, 8, (.c t36)⟩, ⟨8, 8, (.c t40)⟩]) .leaf) fun r15 =>
 let t41 := vkV r15.2 (HP.nxQ h14)
 let h16 := HP.newQ h14 r15.1
 obQ (evP (.build [(kI 0), (.str []), (.str []), (.int .u32 (.ofNat 0)), (.int .u64 (.ofNat 0)), .nils, (kI 0), (kI 0)] [⟨0, 1, (.c (vI (Int.ofNat 5)))⟩, ⟨1, 1, (.c (vS t27))⟩, ⟨5, 1, (.c t41)⟩, ⟨7, 1, (.c (vI t43))⟩]) .leaf) fun t44 =>
 stsC 8 t6 t44 h16 fun h17 =>
 g1 t0 t1 t4 t5 t6 h17) none) (
 S77_0 D m t4 t6 h11)
def S77_1 (D : CallD) (m : Nat) : AV → Int → AV → AV → AV → HP → Res2 := nrec (fun _ _ _ _ _ _ => none) (fun _ g => S77_1b D m g) m
def e77_2 (k t0 t1 h) := kN k [(p0, t0), (p1, (vI t1))] h
def S77_2 (D : CallD) (m : Nat) (t0 : AV) (t1 : Int) (h : HP) : Res2 :=
 let t4 := AV.ptr (HP.nxQ h) 0
 let h3 := HP.newQ h (.cells true [(kI 0), (.str []), (.str []), (.int .u32 (.ofNat 0)), (.int .u64 (.ofNat 0)), .nils, (kI 0), (kI 0)])
 cal D 97 [] h3 fun t8 h4 =>
 lenC t8 fun vt11 => asI .i64 vt11 fun t11 =>
 let t12 := eqQ t1 t11
 br t12 (
 cal D 98 [t0] h4 fun t14 h5 =>
 stsC 8 t4 t14 h5 fun h6 =>
 cellsC 8 t4 h6 fun t4a =>
 some (.ret t4a h6, .no)) (
 let t17 := wrQ .i64 (addQ t1 (Int.ofNat 1))
 cal D 77 [t0, (vI t17)] h4 fun t18 h7 =>
 let t6 := AV.ptr (HP.nxQ h7) 0
 let h8 := HP.newQ h7 (.cells true [(kI 0), (.str []), (.str []), (.int .u32 (.ofNat 0)), (.int .u64 (.ofNat 0)), .nils, (kI 0), (kI 0)])
 stsC 8 t6 t18 h8 fun h9 =>
 S77_1 D m t0 t1 t4 t8 t6 h9)
def S77 : SFn := fun D m args h u => nou u <| popV args fun t0 args => popI .i64 args fun t1 args => endA args (S77_2 D m t0 t1 h)
theorem T77_0 (hE : FX x77 D m E) : S77_0 D m = e77_0 (E c77_0 []) := by unfold S77_0; rw [hE c77_0]; kernel_rfl
theorem T77_1b (hE : FX x77 D m E) (G1) : S77_1b D m (e77_1 G1) = e77_1 (E c77_1b [.lp v77_1 G1, .blk 0, .sj v77_0 c77_0]) := by unfold S77_1b; rw [T77_0 hE, hE c77_1b]; kernel_rfl
theorem T77_1 (hE : FX x77 D m E) : S77_1 D m = e77_1 (nrec (fun _ => none) (fun _ G1 st => E c77_1b [.lp v77_1 G1, .blk 0, .sj v77_0 c77_0] st) m) :=
  nrec_emb e77_1 (fun _ _ _ _ _ _ => none) (fun g => S77_1b D m g) (fun G1 st => E c77_1b [.lp v77_1 G1, .blk 0, .sj v77_0 c77_0] st) rfl (fun g => T77_1b hE g) m
theorem T77_2 (hE : FX x77 D m E) : S77_2 D m = e77_2 (E c77_e []) := by unfold S77_2; rw [T77_1 hE, hE c77_e]; kernel_rfl
theorem X77 : XTie S77 x77 := X_of fun D m E hE args h u => by unfold S77; rw [T77_2 hE]; kernel_rfl
/- 79 -/
def c79_e : XC := (.sO [.mv p2 (.c (.str [])) .s] (.sO [.mv p3 q0 tI, .cl p4 100 [q3] .s, .mv p2 q4 .s] (.s .ret)))
def x79 : XFn := ⟨[tI], false, [(.tmp p2)], c79_e⟩
def e79_0 (k t0 h) := kN k [(p0, (vI t0))] h
def S79_0 (D : CallD) (m : Nat) (t0 : Int) (h : HP) : Res2 :=
 cal D 100 [(vI t0)] h fun t4 h1 =>
 asS t4 fun t4a =>
 some (.ret (vS t4a) h1, .no)
def S79 : SFn := fun D m args h u => nou u <| popI .i64 args fun t0 args => endA args (S79_0 D m t0 h)
theorem T79_0 (hE : FX x79 D m E) : S79_0 D m = e79_0 (E c79_e []) := by unfold S79_0; rw [hE c79_e]; kernel_rfl
theorem X79 : XTie S79 x79 := X_of fun D m E hE args h u => by unfold S79; rw [T79_0 hE]; kernel_rfl
end
end Go.Proofs.YtnpadfengpoehaaGreatDoor.Sx
