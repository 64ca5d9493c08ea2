/- Functions, printed by a program of ours: their code, what they do, and that it is so. -/
import Derived.Test.YtcoldhmbmcdemaaGreatSp
set_option maxRecDepth 8000
set_option linter.unusedVariables false
namespace Go.Proofs.YtcoldhmbmcdemaaGreat.Sx
open Go Go.Proofs.YtcoldhmbmcdemaaGreat.Ev
set_option linter.unusedSectionVars false
noncomputable section
variable [Rho]
variable {D : CallD} {m : Nat} {E : XE}
/- 52 -/
def v52_3 : List Pos := [p1]
def c52_3 : XC := (.sO [.fa p116 5 q1, .ld p117 q116 .v, .fa p118 5 q1, .ld p119 q118 .v, .P p120 (.lenl q119) tI, .bn p121 .sub q120 (ci 1) tI, .P p122 (.iaddr (.sl 9) q117 q121) .v, .fa p123 0 q122, .ld p124 q123 tI, .mv p8 q124 tI] (.sO [.mv p125 q8 tI, .bn p126 .eql q125 (ci 17) .b, .mv p127 q126 .b, .ge p127 (XL.of [.G p127 false p128 (.mov q8) tI, .G p127 false p129 (.bin .eql q128 (ci 18)) .b, .P p130 (.pick q127 (cb true) q129) .b]) p130 .b, .mv p2 q130 .b] (.s .ret)))
def v52_4 : List Pos := [p1, p103, p104]
def c52_4b : XC := (.sO [.bn p105 .lss q104 q103 .b] (.seq (.cond q105 .skip (.exit 8)) (.seq (.block 9 (.seq (.oX [.mv p106 q104 tI, .mv p7 q106 tI]) (.seq (.ops true (XL.of [.L p107 (.cells 6 q1) .v, .fa p108 5 q1, .ld p109 q108 .v, .mv p110 q7 tI, .P p111 (.iaddr (.sl 9) q109 q110) .v, .L p112 (.cells 9 q111) .v, .cl p113 97 [q107, q112] .b, .P p114 (.un .not q113) .b])) (.cond q114 (.seq (.oX [.mv p2 (cb false) .b]) .ret) .skip)))) (.s (.oX [.bn p115 .add q104 (ci 1) tI, .mv p104 q115 tI])))))
def v52_2 : List Pos := [p1]
def c52_2 : XC := (.sj v52_3 (.sO [.fa p101 5 q1, .ld p102 q101 .v, .P p103 (.lenl q102) tI, .mv p104 (ci 0) tI] (.block 8 (.loop v52_4 c52_4b))) c52_3)
def v52_6 : List Pos := [p1, p72, p73]
def c52_6 : XC := (.s (.oX [.bn p100 .add q73 (ci 1) tI, .mv p73 q100 tI]))
def v52_7 : List Pos := [p1, p5, p6, p72, p73]
def c52_7b : XC := (.seq (.seq (.oX [.mv p84 q6 tI, .mv p85 q5 tI, .bn p86 .lss q84 q85 .b]) (.cond q86 .skip (.exit 6))) (.seq (.block 7 (.seq (.ops true (XL.of [.fa p89 2 q1, .ld p90 q89 .v, .mv p91 q6 tI, .P p92 (.iaddr (.sl 1) q90 q91) .v, .ld p93 q92 tI, .fa p94 2 q1, .ld p95 q94 .v, .mv p96 q5 tI, .P p97 (.iaddr (.sl 1) q95 q96) .v, .ld p98 q97 tI, .bn p99 .eql q93 q98 .b])) (.cond q99 (.seq (.oX [.mv p2 (cb false) .b]) .ret) .skip))) (.s (.oX [.mv p87 q6 tI, .bn p88 .add q87 (ci 1) tI, .mv p6 q88 tI]))))
def v52_5 : List Pos := [p1, p72, p73]
def c52_5b : XC := (.sO [.bn p74 .lss q73 q72 .b] (.seq (.cond q74 .skip (.exit 4)) (.sj v52_6 (.block 5 (.sO [.mv p75 q73 tI, .mv p5 q75 tI] (.seq (.seq (.ops true (XL.of [.L p76 (.cells 6 q1) .v, .fa p77 2 q1, .ld p78 q77 .v, .mv p79 q5 tI, .P p80 (.iaddr (.sl 1) q78 q79) .v, .ld p81 q80 tI, .cl p82 96 [q76, q81] tI, .bn p83 .eql q82 (ci 0) .b])) (.cond q83 (.seq (.oX [.mv p2 (cb false) .b]) .ret) .skip)) (.sO [.mv p6 (ci 0) tI] (.block 6 (.loop v52_7 c52_7b)))))) c52_6)))
def v52_1 : List Pos := [p1]
def c52_1 : XC := (.sj v52_2 (.sO [.fa p70 2 q1, .ld p71 q70 .v, .P p72 (.lenl q71) tI, .mv p73 (ci 0) tI] (.block 4 (.loop v52_5 c52_5b))) c52_2)
def v52_8 : List Pos := [p1, p42, p43]
def c52_8b : XC := (.sO [.bn p44 .lss q43 q42 .b] (.seq (.cond q44 .skip (.exit 2)) (.seq (.block 3 (.seq (.oX [.mv p45 q43 tI, .mv p4 q45 tI]) (.seq (.oX [.fa p46 4 q1, .ld p47 q46 .v, .mv p48 q4 tI, .P p49 (.iaddr (.sl 1) q47 q48) .v, .ld p50 q49 tI, .bn p51 .lss q50 (ci 8) .b, .mv p52 q51 .b, .ge p52 (XL.of [.G p52 false p53 (.faddr 4 q1) .v, .o ⟨(some p54), (.l (.cell q53)), (some (p52, false)), []⟩ .v, .G p52 false p55 (.mov q4) tI, .G p52 false p56 (.iaddr (.sl 1) q54 q55) .v, .o ⟨(some p57), (.l (.cell q56)), (some (p52, false)), []⟩ tI, .G p52 false p58 (.bin .rem q57 (ci 8)) tI, .G p52 false p59 (.bin .neq q58 (ci 0)) .b, .P p60 (.pick q52 (cb true) q59) .b]) p60 .b, .mv p61 q60 .b, .ge p61 (XL.of [.G p61 false p62 (.faddr 4 q1) .v, .o ⟨(some p63), (.l (.cell q62)), (some (p61, false)), []⟩ .v, .G p61 false p64 (.mov q4) tI, .G p61 false p65 (.iaddr (.sl 1) q63 q64) .v, .o ⟨(some p66), (.l (.cell q65)), (some (p61, false)), []⟩ tI, .G p61 false p67 (.bin .gtr q66 (ci 2097152)) .b, .P p68 (.pick q61 (cb true) q67) .b]) p68 .b]) (.cond q68 (.seq (.oX [.mv p2 (cb false) .b]) .ret) .skip)))) (.s (.oX [.bn p69 .add q43 (ci 1) tI, .mv p43 q69 tI])))))
def v52_0 : List Pos := [p1]
def c52_0 : XC := (.sj v52_1 (.sO [.fa p40 4 q1, .ld p41 q40 .v, .P p42 (.lenl q41) tI, .mv p43 (ci 0) tI] (.block 2 (.loop v52_8 c52_8b))) c52_1)
def v52_9 : List Pos := [p1, p21, p22]
def c52_9b : XC := (.sO [.bn p23 .lss q22 q21 .b] (.seq (.cond q23 .skip (.exit 0)) (.seq (.block 1 (.seq (.oX [.mv p24 q22 tI, .mv p3 q24 tI]) (.seq (.oX [.fa p25 3 q1, .ld p26 q25 .v, .mv p27 q3 tI, .P p28 (.iaddr (.sl 1) q26 q27) .v, .ld p29 q28 tI, .bn p30 .neq q29 (ci 1) .b, .mv p31 q30 .b, .ge p31 (XL.of [.G p31 true p32 (.faddr 3 q1) .v, .o ⟨(some p33), (.l (.cell q32)), (some (p31, true)), []⟩ .v, .G p31 true p34 (.mov q3) tI, .G p31 true p35 (.iaddr (.sl 1) q33 q34) .v, .o ⟨(some p36), (.l (.cell q35)), (some (p31, true)), []⟩ tI, .G p31 true p37 (.bin .neq q36 (ci 2)) .b, .P p38 (.pick q31 q37 (cb false)) .b]) p38 .b]) (.cond q38 (.seq (.oX [.mv p2 (cb false) .b]) .ret) .skip)))) (.s (.oX [.bn p39 .add q22 (ci 1) tI, .mv p22 q39 tI])))))
def c52_e : XC := (.sO [.al p1 (.box q0), .mv p2 (cb false) .b] (.seq (.seq (.oX [.fa p9 0 q1, .ld p10 q9 .s, .cl p11 95 [q10] .b, .P p12 (.un .not q11) .b, .mv p13 q12 .b, .ge p13 (XL.of [.G p13 false p14 (.faddr 5 q1) .v, .o ⟨(some p15), (.l (.cell q14)), (some (p13, false)), []⟩ .v, .G p13 false p16 (.lenl q15) tI, .G p13 false p17 (.bin .eql q16 (ci 0)) .b, .P p18 (.pick q13 (cb true) q17) .b]) p18 .b]) (.cond q18 (.seq (.oX [.mv p2 (cb false) .b]) .ret) .skip)) (.sj v52_0 (.sO [.fa p19 3 q1, .ld p20 q19 .v, .P p21 (.lenl q20) tI, .mv p22 (ci 0) tI] (.block 0 (.loop v52_9 c52_9b))) c52_0)))
def x52 : XFn := ⟨[.v], false, [(.tmp p2)], c52_e⟩
def S52 : SFn := evFX x52
theorem X52 : XTie S52 x52 := fun _ _ _ _ _ => rfl
/- 53 -/
def c53_e : XC := (.sO [.mv p4 (ci 0) tI] (.sO [.mv p5 q0 tI, .mv p6 q1 tI, .bn p7 .add q5 q6 tI, .bn p8 .sub q7 (ci 1) tI, .mv p9 q1 tI, .bn p10 .quo q8 q9 tI, .mv p11 q1 tI, .bn p12 .mul q10 q11 tI, .mv p4 q12 tI] (.s .ret)))
def x53 : XFn := ⟨[tI, tI], false, [(.tmp p4)], c53_e⟩
def e53_0 (k t0 t1 h) := kN k [(p0, (vI t0)), (p1, (vI t1))] h
def S53_0 (D : CallD) (m : Nat) (t0 t1 : Int) (h : HP) : Res2 :=
 let t7 := wrQ .i64 (addQ t0 t1)
 let t8 := wrQ .i64 (t7 - (Int.ofNat 1))
 obI .i64 (intBin .quo .i64 t8 t1) fun t10 =>
 let t12 := wrQ .i64 (t10 * t1)
 some (.ret (vI t12) h, .no)
def S53 : SFn := fun D m args h u => nou u <| popI .i64 args fun t0 args => popI .i64 args fun t1 args => endA args (S53_0 D m t0 t1 h)
theorem T53_0 (hE : FX x53 D m E) : S53_0 D m = e53_0 (E c53_e []) := by unfold S53_0; rw [hE c53_e]; kernel_rfl
theorem X53 : XTie S53 x53 := X_of fun D m E hE args h u => by unfold S53; rw [T53_0 hE]; kernel_rfl
/- 54 -/
def v54_0 : List Pos := [p2, p4]
def c54_0 : XC := (.sO [.L p20 (.cells 8 q2) .v, .ss 8 q4 q20] (.s .ret))
def v54_1 : List Pos := [p1, p2, p4]
def c54_1b : XC := (.seq (.seq (.oX [.fa p9 2 q2, .ld p10 q9 .v, .P p11 (.lenl q10) tI, .bn p12 .add (ci 4096) q11 tI, .mv p13 q1 tI, .bn p14 .lss q12 q13 .b]) (.cond q14 .skip (.exit 0))) (.block 1 (.s (.oX [.fa p15 2 q2, .ld p16 q15 .v, .al p17 (.bsl [(.int .u8 (.ofNat 0))] 1 [⟨0, 1, (.c (.int .u8 (.ofNat 0)))⟩]), .o ⟨(some p18), (.e (.app 1 1 q16 q17)), none, []⟩ .v, .fa p19 2 q2, .st q19 q18]))))
def c54_e : XC := (.sO [.al p2 (.box q0), .al p4 (.new [.nils, .nils, .nils, .nils, .nils, (kI 0), (kI 0), (kI 0)])] (.seq (.seq (.oX [.mv p5 q1 tI, .bn p6 .gtr q5 (ci 2097152) .b]) (.cond q6 (.seq (.oX [.L p7 (.cells 8 q2) .v, .cl p8 25 [q7, (ci 4)] .v, .ss 8 q4 q8]) .ret) .skip)) (.sj v54_0 (.block 0 (.loop v54_1 c54_1b)) c54_0)))
def x54 : XFn := ⟨[.v, tI], false, [(.cells 8 p4)], c54_e⟩
def e54_0 (k t2 t4 h) := kN k [(p2, t2), (p4, t4)] h
def S54_0 (D : CallD) (m : Nat) (t2 t4 : AV) (h : HP) : Res2 :=
 cellsC 8 t2 h fun t20 =>
 stsC 8 t4 t20 h fun h7 =>
 cellsC 8 t4 h7 fun t4a =>
 some (.ret t4a h7, .no)
def e54_1 (k t1 t2 t4 h) := kN k [(p1, (vI t1)), (p2, t2), (p4, t4)] h
def S54_1b (D : CallD) (m : Nat) (g1 : Int → AV → AV → HP → Res2) (t1 : Int) (t2 t4 : AV) (h : HP) : Res2 :=
 faC 2 t2 fun t9 =>
 cellC t9 h fun t10 =>
 lenC t10 fun vt11 => asI .i64 vt11 fun t11 =>
 let t12 := wrQ .i64 (addQ (Int.ofNat 4096) t11)
 let t14 := ltQ t12 t1
 br t14 (
 faC 2 t2 fun t15 =>
 cellC t15 h fun t16 =>
 let t17 := AV.slice (HP.nxQ h) 0 1 (.exact 1)
 let h8 := HP.newQ h (.cells true [(vC (Int.ofNat 0))])
 eff (.app 1 1 (.c t16) (.c t17)) h8 fun t18 h9 =>
 faC 2 t2 fun t19 =>
 stoC t19 t18 h9 fun h10 =>
 g1 t1 t2 t4 h10) (
 S54_0 D m t2 t4 h)
def S54_1 (D : CallD) (m : Nat) : Int → AV → AV → HP → Res2 := nrec (fun _ _ _ _ => none) (fun _ g => S54_1b D m g) m
def e54_2 (k t0 t1 h) := kN k [(p0, t0), (p1, (vI t1))] h
def S54_2 (D : CallD) (m : Nat) (t0 : AV) (t1 : Int) (h : HP) : Res2 :=
 let t2 := AV.ptr (HP.nxQ h) 0
 let h3 := HP.newQ h (.cells true (AV.cells t0))
 let t4 := AV.ptr (HP.nxQ h3) 0
 let h4 := HP.newQ h3 (.cells true [.nils, .nils, .nils, .nils, .nils, (kI 0), (kI 0), (kI 0)])
 let t6 := ltQ (Int.ofNat 2097152) t1
 br t6 (
 cellsC 8 t2 h4 fun t7 =>
 cal D 25 [t7, (vI (Int.ofNat 4))] h4 fun t8 h5 =>
 stsC 8 t4 t8 h5 fun h6 =>
 cellsC 8 t4 h6 fun t4a =>
 some (.ret t4a h6, .no)) (
 S54_1 D m t1 t2 t4 h4)
def S54 : SFn := fun D m args h u => nou u <| popV args fun t0 args => popI .i64 args fun t1 args => endA args (S54_2 D m t0 t1 h)
theorem T54_0 (hE : FX x54 D m E) : S54_0 D m = e54_0 (E c54_0 []) := by unfold S54_0; rw [hE c54_0]; kernel_rfl
theorem T54_1b (hE : FX x54 D m E) (G1) : S54_1b D m (e54_1 G1) = e54_1 (E c54_1b [.lp v54_1 G1, .blk 0, .sj v54_0 c54_0]) := by unfold S54_1b; rw [T54_0 hE, hE c54_1b]; kernel_rfl
theorem T54_1 (hE : FX x54 D m E) : S54_1 D m = e54_1 (nrec (fun _ => none) (fun _ G1 st => E c54_1b [.lp v54_1 G1, .blk 0, .sj v54_0 c54_0] st) m) :=
  nrec_emb e54_1 (fun _ _ _ _ => none) (fun g => S54_1b D m g) (fun G1 st => E c54_1b [.lp v54_1 G1, .blk 0, .sj v54_0 c54_0] st) rfl (fun g => T54_1b hE g) m
theorem T54_2 (hE : FX x54 D m E) : S54_2 D m = e54_2 (E c54_e []) := by unfold S54_2; rw [T54_1 hE, hE c54_e]; kernel_rfl
theorem X54 : XTie S54 x54 := X_of fun D m E hE args h u => by unfold S54; rw [T54_2 hE]; kernel_rfl
/- 57 -/
def v57_3 : List Pos := [p6, p12]
def c57_3 : XC := (.sO [.L p224 (.cells 8 q6) .v, .ss 8 q12 q224] (.s .ret))
def v57_2 : List Pos := [p5, p6, p9, p10, p12, p14, p15, p18]
def c57_2 : XC := (.sO [.fa p187 6 q6, .ld p188 q187 tI, .bn p189 .add q188 (ci 1) tI, .fa p190 6 q6, .st q190 q189] (.sO [.mv p19 (.c (.int .u32 (.ofNat 0))) tW, .mv p20 (.c (.int .u64 (.ofNat 0))) (.i .u64)] (.sO [.L p192 (.cells 8 q6) .v, .L p193 (.cells 6 q14) .v, .mv p194 q15 tI, .mv p195 q18 tI, .L p196 (.cells 2 q10) .v, .fa p197 7 q9, .ld p198 q197 .v, .mv p199 q5 tI, .cl p200 26 [q192, q193, q194, q195, q196, q198, q199] .v, .mv p191 q200 .v, .P p201 (.ext q191 0) .v, .P p202 (.ext q191 1) tW, .P p203 (.ext q191 2) (.i .u64), .ss 8 q6 q201, .mv p19 q202 tW, .mv p20 q203 (.i .u64)] (.sj v57_3 (.sO [.fa p204 1 q9, .ld p205 q204 tI, .bn p206 .geq q205 (ci 0) .b, .mv p207 q206 .b, .ge p207 (XL.of [.G p207 true p208 (.faddr 7 q6) .v, .o ⟨(some p209), (.l (.cell q208)), (some (p207, true)), []⟩ tI, .G p207 true p210 (.bin .lss q209 (ci 0)) .b, .P p211 (.pick q207 q210 (cb false)) .b]) p211 .b] (.cond q211 (.sO [.fa p212 0 q10, .ld p213 q212 .v, .fa p214 1 q9, .ld p215 q214 tI, .mv p216 q19 tW, .P p217 (.iaddr (.sl 1) q213 q215) .v, .st q217 q216] (.s (.oX [.fa p218 1 q10, .ld p219 q218 .v, .fa p220 1 q9, .ld p221 q220 tI, .mv p222 q20 (.i .u64), .P p223 (.iaddr (.sl 1) q219 q221) .v, .st q223 q222]))) (.s .skip))) c57_3))))
def v57_1 : List Pos := [p5, p6, p7, p9, p10, p12, p14, p15, p16]
def c57_1 : XC := (.seq (.seq (.oX [.L p170 (.cells 6 q7) .v, .fa p171 7 q9, .ld p172 q171 .v, .mv p173 q16 .v, .cl p174 98 [q170, q172, q173] .b, .P p175 (.un .not q174) .b]) (.cond q175 (.seq (.oX [.L p176 (.cells 8 q6) .v, .cl p177 25 [q176, (ci 2)] .v, .ss 8 q12 q177]) .ret) .skip)) (.sO [.mv p18 (ci 0) tI] (.sj v57_2 (.sO [.fa p178 1 q9, .ld p179 q178 tI, .bn p180 .geq q179 (ci 0) .b] (.cond q180 (.s (.oX [.fa p181 3 q7, .ld p182 q181 .v, .fa p183 1 q9, .ld p184 q183 tI, .P p185 (.iaddr (.sl 1) q182 q184) .v, .ld p186 q185 tI, .mv p18 q186 tI])) (.s .skip))) c57_2)))
def v57_4 : List Pos := [p5, p6, p7, p9, p10, p12, p14, p15, p16, p153, p154]
def c57_4b : XC := (.sO [.bn p155 .lss q154 q153 .b] (.seq (.cond q155 .skip (.exit 1)) (.seq (.block 2 (.seq (.oX [.mv p156 q154 tI, .mv p17 q156 tI]) (.ops true (XL.of [.mv p157 q16 .v, .fa p158 3 q14, .ld p159 q158 .v, .fa p160 2 q14, .ld p161 q160 .v, .mv p162 q17 tI, .P p163 (.iaddr (.sl 1) q161 q162) .v, .ld p164 q163 tI, .P p165 (.iaddr (.sl 1) q159 q164) .v, .ld p166 q165 tI, .al p167 (.bsl [(kI 0)] 1 [⟨0, 1, q166⟩]), .o ⟨(some p168), (.e (.app 1 8 q157 q167)), none, []⟩ .v, .mv p16 q168 .v])))) (.s (.oX [.bn p169 .add q154 (ci 1) tI, .mv p154 q169 tI])))))
def v57_0 : List Pos := [p2, p5, p6, p7, p9, p10, p12]
def c57_0 : XC := (.sO [.L p140 (.cells 8 q6) .v, .mv p141 q2 tI, .fa p142 6 q9, .ld p143 q142 .s, .cl p144 24 [q140, q141, q143] .v, .mv p139 q144 .v, .P p145 (.ext q139 0) .v, .P p146 (.ext q139 1) tI, .al p14 (.new [(.str []), (.bool false), .nils, .nils, .nils, .nils]), .ss 6 q14 q145, .mv p15 q146 tI] (.seq (.seq (.oX [.mv p147 q15 tI, .bn p148 .lss q147 (ci 0) .b]) (.cond q148 (.seq (.oX [.L p149 (.cells 8 q6) .v, .cl p150 25 [q149, (ci 2)] .v, .ss 8 q12 q150]) .ret) .skip)) (.sO [.mv p16 (.c .nils) .v] (.sj v57_1 (.sO [.fa p151 2 q14, .ld p152 q151 .v, .P p153 (.lenl q152) tI, .mv p154 (ci 0) tI] (.block 1 (.loop v57_4 c57_4b))) c57_1))))
def v57_6 : List Pos := [p6, p12]
def c57_6 : XC := (.sO [.fa p134 6 q6, .ld p135 q134 tI, .bn p136 .add q135 (ci 1) tI, .fa p137 6 q6, .st q137 q136] (.sO [.L p138 (.cells 8 q6) .v, .ss 8 q12 q138] (.s .ret)))
def v57_5 : List Pos := [p6, p9, p10, p12, p13]
def c57_5 : XC := (.sj v57_6 (.sO [.fa p125 1 q9, .ld p126 q125 tI, .bn p127 .geq q126 (ci 0) .b] (.cond q127 (.s (.oX [.fa p128 0 q10, .ld p129 q128 .v, .fa p130 1 q9, .ld p131 q130 tI, .mv p132 q13 tW, .P p133 (.iaddr (.sl 1) q129 q131) .v, .st q133 q132])) (.s .skip))) c57_6)
def c57_e : XC := (.sO [.al p6 (.box q0), .al p7 (.box q1), .al p9 (.box q3), .al p10 (.box q4), .al p12 (.new [.nils, .nils, .nils, .nils, .nils, (kI 0), (kI 0), (kI 0)])] (.sj v57_0 (.sO [.fa p21 6 q9, .ld p22 q21 .s] (.block 0 (.sO [.bn p24 .eql q22 (.c (.str [112, 117, 116, 119])) .b, .mv p23 q24 .b] (.cond q23 (.seq (.seq (.oX [.L p25 (.cells 6 q7) .v, .fa p26 7 q9, .ld p27 q26 .v, .al p28 (.bsl [(kI 0)] 1 [⟨0, 1, (ci 1)⟩]), .cl p29 98 [q25, q27, q28] .b, .P p30 (.un .not q29) .b, .mv p31 q30 .b, .ge p31 (XL.of [.G p31 false p32 (.faddr 1 q9) .v, .o ⟨(some p33), (.l (.cell q32)), (some (p31, false)), []⟩ tI, .G p31 false p34 (.bin .geq q33 (ci 0)) .b, .P p35 (.pick q31 (cb true) q34) .b]) p35 .b]) (.cond q35 (.seq (.oX [.L p36 (.cells 8 q6) .v, .cl p37 25 [q36, (ci 2)] .v, .ss 8 q12 q37]) .ret) .skip)) (.seq (.ops true (XL.of [.fa p38 4 q6, .ld p39 q38 .v, .fa p40 0 q10, .ld p41 q40 .v, .fa p42 7 q9, .ld p43 q42 .v, .P p44 (.iaddr (.sl 1) q43 (ci 0)) .v, .ld p45 q44 tI, .P p46 (.iaddr (.sl 1) q41 q45) .v, .ld p47 q46 tW, .P p48 (.build [(kI 0), (.int .u32 (.ofNat 0)), (.int .u64 (.ofNat 0))] [⟨0, 1, (ci 1)⟩, ⟨1, 1, q47⟩]) .v, .al p49 (.bsl [(kI 0), (.int .u32 (.ofNat 0)), (.int .u64 (.ofNat 0))] 1 [⟨0, 3, q48⟩]), .o ⟨(some p50), (.e (.app 3 24 q39 q49)), none, []⟩ .v, .fa p51 4 q6, .st q51 q50])) (.sO [.fa p52 6 q6, .ld p53 q52 tI, .bn p54 .add q53 (ci 1) tI, .fa p55 6 q6, .st q55 q54] (.sO [.L p56 (.cells 8 q6) .v, .ss 8 q12 q56] (.s .ret))))) (.sO [.bn p58 .eql q22 (.c (.str [112, 117, 116, 100])) .b, .mv p57 q58 .b] (.cond q57 (.seq (.seq (.oX [.L p59 (.cells 6 q7) .v, .fa p60 7 q9, .ld p61 q60 .v, .al p62 (.bsl [(kI 0)] 1 [⟨0, 1, (ci 2)⟩]), .cl p63 98 [q59, q61, q62] .b, .P p64 (.un .not q63) .b, .mv p65 q64 .b, .ge p65 (XL.of [.G p65 false p66 (.faddr 1 q9) .v, .o ⟨(some p67), (.l (.cell q66)), (some (p65, false)), []⟩ tI, .G p65 false p68 (.bin .geq q67 (ci 0)) .b, .P p69 (.pick q65 (cb true) q68) .b]) p69 .b]) (.cond q69 (.seq (.oX [.L p70 (.cells 8 q6) .v, .cl p71 25 [q70, (ci 2)] .v, .ss 8 q12 q71]) .ret) .skip)) (.seq (.ops true (XL.of [.fa p72 4 q6, .ld p73 q72 .v, .fa p74 1 q10, .ld p75 q74 .v, .fa p76 7 q9, .ld p77 q76 .v, .P p78 (.iaddr (.sl 1) q77 (ci 0)) .v, .ld p79 q78 tI, .P p80 (.iaddr (.sl 1) q75 q79) .v, .ld p81 q80 (.i .u64), .P p82 (.build [(kI 0), (.int .u32 (.ofNat 0)), (.int .u64 (.ofNat 0))] [⟨0, 1, (ci 2)⟩, ⟨2, 1, q81⟩]) .v, .al p83 (.bsl [(kI 0), (.int .u32 (.ofNat 0)), (.int .u64 (.ofNat 0))] 1 [⟨0, 3, q82⟩]), .o ⟨(some p84), (.e (.app 3 24 q73 q83)), none, []⟩ .v, .fa p85 4 q6, .st q85 q84])) (.sO [.fa p86 6 q6, .ld p87 q86 tI, .bn p88 .add q87 (ci 1) tI, .fa p89 6 q6, .st q89 q88] (.sO [.L p90 (.cells 8 q6) .v, .ss 8 q12 q90] (.s .ret))))) (.sO [.bn p92 .eql q22 (.c (.str [103, 101, 116, 119])) .b, .mv p91 q92 .b] (.cond q91 (.seq (.seq (.oX [.fa p93 7 q9, .ld p94 q93 .v, .P p95 (.lenl q94) tI, .bn p96 .gtr q95 (ci 0) .b, .mv p97 q96 .b, .ge p97 (XL.of [.G p97 false p98 (.faddr 1 q9) .v, .o ⟨(some p99), (.l (.cell q98)), (some (p97, false)), []⟩ tI, .G p97 false p100 (.bin .geq q99 (ci 0)) .b, .G p97 false p101 (.mov q100) .b, .ge p101 (XL.of [.G p101 true p102 (.faddr 3 q7) .v, .o ⟨(some p103), (.l (.cell q102)), (some (p101, true)), []⟩ .v, .G p101 true p104 (.faddr 1 q9) .v, .o ⟨(some p105), (.l (.cell q104)), (some (p101, true)), []⟩ tI, .G p101 true p106 (.iaddr (.sl 1) q103 q105) .v, .o ⟨(some p107), (.l (.cell q106)), (some (p101, true)), []⟩ tI, .G p101 true p108 (.bin .neq q107 (ci 1)) .b, .G p97 false p109 (.pick q101 q108 (cb false)) .b]) p109 .b, .P p110 (.pick q97 (cb true) q109) .b]) p110 .b]) (.cond q110 (.seq (.oX [.L p111 (.cells 8 q6) .v, .cl p112 25 [q111, (ci 2)] .v, .ss 8 q12 q112]) .ret) .skip)) (.sO [.mv p13 (.c (.int .u32 (.ofNat 0))) tW] (.sj v57_5 (.sO [.fa p113 3 q6, .ld p114 q113 .v, .P p115 (.lenl q114) tI, .bn p116 .gtr q115 (ci 0) .b] (.cond q116 (.sO [.fa p117 3 q6, .ld p118 q117 .v, .P p119 (.iaddr (.sl 1) q118 (ci 0)) .v, .ld p120 q119 tW, .mv p13 q120 tW] (.s (.oX [.fa p121 3 q6, .ld p122 q121 .v, .P p123 (.slice (.sl 1) q122 (some (ci 1)) none none) .v, .fa p124 3 q6, .st q124 q123]))) (.s .skip))) c57_5))) (.s .skip))))))))) c57_0))
def x57 : XFn := ⟨[.v, .v, tI, .v, .v, tI], false, [(.cells 8 p12)], c57_e⟩
def e57_3 (k t6 t12 h) := kN k [(p6, t6), (p12, t12)] h
def S57_3 (D : CallD) (m : Nat) (t6 t12 : AV) (h : HP) : Res2 :=
 cellsC 8 t6 h fun t224 =>
 stsC 8 t12 t224 h fun h24 =>
 cellsC 8 t12 h24 fun t12a =>
 some (.ret t12a h24, .no)
def e57_2 (k t5 t6 t9 t10 t12 t14 t15 t18 h) := kN k [(p5, (vI t5)), (p6, t6), (p9, t9), (p10, t10), (p12, t12), (p14, t14), (p15, (vI t15)), (p18, (vI t18))] h
def S57_2 (D : CallD) (m : Nat) (t5 : Int) (t6 t9 t10 t12 t14 : AV) (t15 t18 : Int) (h : HP) : Res2 :=
 faC 6 t6 fun t187 =>
 ldI t187 h fun t188 =>
 let t189 := wrQ .i64 (addQ t188 (Int.ofNat 1))
 faC 6 t6 fun t190 =>
 stoC t190 (vI t189) h fun h21 =>
 cellsC 8 t6 h21 fun t192 =>
 cellsC 6 t14 h21 fun t193 =>
 cellsC 2 t10 h21 fun t196 =>
 faC 7 t9 fun t197 =>
 cellC t197 h21 fun t198 =>
 cal D 26 [t192, t193, (vI t15), (vI t18), t196, t198, (vI t5)] h21 fun t200 h22 =>
 extC t200 0 fun t201 =>
 extC t200 1 fun vt202 => asI .u32 vt202 fun t202 =>
 extC t200 2 fun vt203 => asI .u64 vt203 fun t203 =>
 stsC 8 t6 t201 h22 fun h23 =>
 faC 1 t9 fun t204 =>
 ldI t204 h23 fun t205 =>
 let t206 := leQ (Int.ofNat 0) t205
 obB (brV t206 (
 faCV 7 t6 fun t208 =>
 ldIV t208 h23 fun t209 =>
 let t210 := ltQ t209 (Int.ofNat 0)
 some (vB t210)) (
 some (vB false))) fun t211 =>
 br t211 (
 faC 0 t10 fun t212 =>
 cellC t212 h23 fun t213 =>
 faC 1 t9 fun t214 =>
 ldI t214 h23 fun t215 =>
 iasC 1 t213 (vI t215) fun t217 =>
 stoC t217 (vW t202) h23 fun h25 =>
 faC 1 t10 fun t218 =>
 cellC t218 h25 fun t219 =>
 faC 1 t9 fun t220 =>
 ldI t220 h25 fun t221 =>
 iasC 1 t219 (vI t221) fun t223 =>
 stoC t223 (AV.int .u64 t203) h25 fun h26 =>
 S57_3 D m t6 t12 h26) (
 S57_3 D m t6 t12 h23)
def e57_1 (k t5 t6 t7 t9 t10 t12 t14 t15 t16 h) := kN k [(p5, (vI t5)), (p6, t6), (p7, t7), (p9, t9), (p10, t10), (p12, t12), (p14, t14), (p15, (vI t15)), (p16, t16)] h
def S57_1 (D : CallD) (m : Nat) (t5 : Int) (t6 t7 t9 t10 t12 t14 : AV) (t15 : Int) (t16 : AV) (h : HP) : Res2 :=
 cellsC 6 t7 h fun t170 =>
 faC 7 t9 fun t171 =>
 cellC t171 h fun t172 =>
 cal D 98 [t170, t172, t16] h fun t174 h18 =>
 asB t174 fun t174a =>
 let t175 := !t174a
 br t175 (
 cellsC 8 t6 h18 fun t176 =>
 cal D 25 [t176, (vI (Int.ofNat 2))] h18 fun t177 h19 =>
 stsC 8 t12 t177 h19 fun h20 =>
 cellsC 8 t12 h20 fun t12a =>
 some (.ret t12a h20, .no)) (
 faC 1 t9 fun t178 =>
 ldI t178 h18 fun t179 =>
 let t180 := leQ (Int.ofNat 0) t179
 br t180 (
 faC 3 t7 fun t181 =>
 cellC t181 h18 fun t182 =>
 faC 1 t9 fun t183 =>
 ldI t183 h18 fun t184 =>
 iasC 1 t182 (vI t184) fun t185 =>
 ldI t185 h18 fun t186 =>
 S57_2 D m t5 t6 t9 t10 t12 t14 t15 t186 h18) (
 S57_2 D m t5 t6 t9 t10 t12 t14 t15 (Int.ofNat 0) h18))
def e57_4 (k t5 t6 t7 t9 t10 t12 t14 t15 t16 t153 t154 h) := kN k [(p5, (vI t5)), (p6, t6), (p7, t7), (p9, t9), (p10, t10), (p12, t12), (p14, t14), (p15, (vI t15)), (p16, t16), (p153, (vI t153)), (p154, (vI t154))] h
def S57_4b (D : CallD) (m : Nat) (g4 : Int → AV → AV → AV → AV → AV → AV → Int → AV → Int → Int → HP → Res2) (t5 : Int) (t6 t7 t9 t10 t12 t14 : AV) (t15 : Int) (t16 : AV) (t153 t154 : Int) (h : HP) : Res2 :=
 let t155 := ltQ t154 t153
 br t155 (
 faC 3 t14 fun t158 =>
 cellC t158 h fun t159 =>
 faC 2 t14 fun t160 =>
 cellC t160 h fun t161 =>
 iasC 1 t161 (vI t154) fun t163 =>
 ldI t163 h fun t164 =>
 iasC 1 t159 (vI t164) fun t165 =>
 ldI t165 h fun t166 =>
 let t167 := AV.slice (HP.nxQ h) 0 1 (.exact 1)
 let h27 := HP.newQ h (.cells true [(vI t166)])
 eff (.app 1 8 (.c t16) (.c t167)) h27 fun t168 h28 =>
 let t169 := wrQ .i64 (addQ t154 (Int.ofNat 1))
 g4 t5 t6 t7 t9 t10 t12 t14 t15 t168 t153 t169 h28) (
 S57_1 D m t5 t6 t7 t9 t10 t12 t14 t15 t16 h)
def S57_4 (D : CallD) (m : Nat) : Int → AV → AV → AV → AV → AV → AV → Int → AV → Int → Int → HP → Res2 := nrec (fun _ _ _ _ _ _ _ _ _ _ _ _ => none) (fun _ g => S57_4b D m g) m
def e57_0 (k t2 t5 t6 t7 t9 t10 t12 h) := kN k [(p2, (vI t2)), (p5, (vI t5)), (p6, t6), (p7, t7), (p9, t9), (p10, t10), (p12, t12)] h
def S57_0 (D : CallD) (m : Nat) (t2 t5 : Int) (t6 t7 t9 t10 t12 : AV) (h : HP) : Res2 :=
 cellsC 8 t6 h fun t140 =>
 faC 6 t9 fun t142 =>
 ldS t142 h fun t143 =>
 cal D 24 [t140, (vI t2), (vS t143)] h fun t144 h13 =>
 extC t144 0 fun t145 =>
 extC t144 1 fun vt146 => asI .i64 vt146 fun t146 =>
 let t14 := AV.ptr (HP.nxQ h13) 0
 let h14 := HP.newQ h13 (.cells true [(.str []), (.bool false), .nils, .nils, .nils, .nils])
 stsC 6 t14 t145 h14 fun h15 =>
 let t148 := ltQ t146 (Int.ofNat 0)
 br t148 (
 cellsC 8 t6 h15 fun t149 =>
 cal D 25 [t149, (vI (Int.ofNat 2))] h15 fun t150 h16 =>
 stsC 8 t12 t150 h16 fun h17 =>
 cellsC 8 t12 h17 fun t12a =>
 some (.ret t12a h17, .no)) (
 let t151 := (AV.ptr (HP.nxQ h13) (Nat.add 0 2))
 cellC t151 h15 fun t152 =>
 lenC t152 fun vt153 => asI .i64 vt153 fun t153 =>
 S57_4 D m t5 t6 t7 t9 t10 t12 t14 t146 (.nils : AV) t153 (Int.ofNat 0) h15)
def e57_6 (k t6 t12 h) := kN k [(p6, t6), (p12, t12)] h
def S57_6 (D : CallD) (m : Nat) (t6 t12 : AV) (h : HP) : Res2 :=
 faC 6 t6 fun t134 =>
 ldI t134 h fun t135 =>
 let t136 := wrQ .i64 (addQ t135 (Int.ofNat 1))
 faC 6 t6 fun t137 =>
 stoC t137 (vI t136) h fun h49 =>
 cellsC 8 t6 h49 fun t138 =>
 stsC 8 t12 t138 h49 fun h50 =>
 cellsC 8 t12 h50 fun t12a =>
 some (.ret t12a h50, .no)
def e57_5 (k t6 t9 t10 t12 t13 h) := kN k [(p6, t6), (p9, t9), (p10, t10), (p12, t12), (p13, (vW t13))] h
def S57_5 (D : CallD) (m : Nat) (t6 t9 t10 t12 : AV) (t13 : Int) (h : HP) : Res2 :=
 faC 1 t9 fun t125 =>
 ldI t125 h fun t126 =>
 let t127 := leQ (Int.ofNat 0) t126
 br t127 (
 faC 0 t10 fun t128 =>
 cellC t128 h fun t129 =>
 faC 1 t9 fun t130 =>
 ldI t130 h fun t131 =>
 iasC 1 t129 (vI t131) fun t133 =>
 stoC t133 (vW t13) h fun h51 =>
 S57_6 D m t6 t12 h51) (
 S57_6 D m t6 t12 h)
def e57_7 (k t0 t1 t2 t3 t4 t5 h) := kN k [(p0, t0), (p1, t1), (p2, (vI t2)), (p3, t3), (p4, t4), (p5, (vI t5))] h
def S57_7 (D : CallD) (m : Nat) (t0 t1 : AV) (t2 : Int) (t3 t4 : AV) (t5 : Int) (h : HP) : Res2 :=
 let t6 := AV.ptr (HP.nxQ h) 0
 let h8 := HP.newQ h (.cells true (AV.cells t0))
 let t7 := AV.ptr (HP.nxQ h8) 0
 let h9 := HP.newQ h8 (.cells true (AV.cells t1))
 let t9 := AV.ptr (HP.nxQ h9) 0
 let h10 := HP.newQ h9 (.cells true (AV.cells t3))
 let t10 := AV.ptr (HP.nxQ h10) 0
 let h11 := HP.newQ h10 (.cells true (AV.cells t4))
 let t12 := AV.ptr (HP.nxQ h11) 0
 let h12 := HP.newQ h11 (.cells true [.nils, .nils, .nils, .nils, .nils, (kI 0), (kI 0), (kI 0)])
 let t21 := (AV.ptr (HP.nxQ h9) (Nat.add 0 6))
 ldS t21 h12 fun t22 =>
 let t24 := eqL t22 ([112, 117, 116, 119] : LN)
 br t24 (
 cellsC 6 t7 h12 fun t25 =>
 let t26 := (AV.ptr (HP.nxQ h9) (Nat.add 0 7))
 cellC t26 h12 fun t27 =>
 let t28 := AV.slice (HP.nxQ h12) 0 1 (.exact 1)
 let h29 := HP.newQ h12 (.cells true [(vI (Int.ofNat 1))])
 cal D 98 [t25, t27, t28] h29 fun t29 h30 =>
 asB t29 fun t29a =>
 let t30 := !t29a
 obB (brV t30 (
 some (vB true)) (
 let t32 := (AV.ptr (HP.nxQ h9) (Nat.add 0 1))
 ldIV t32 h30 fun t33 =>
 let t34 := leQ (Int.ofNat 0) t33
 some (vB t34))) fun t35 =>
 br t35 (
 cellsC 8 t6 h30 fun t36 =>
 cal D 25 [t36, (vI (Int.ofNat 2))] h30 fun t37 h31 =>
 stsC 8 t12 t37 h31 fun h32 =>
 cellsC 8 t12 h32 fun t12a =>
 some (.ret t12a h32, .no)) (
 let t38 := (AV.ptr (HP.nxQ h) (Nat.add 0 4))
 cellC t38 h30 fun t39 =>
 let t40 := (AV.ptr (HP.nxQ h10) (Nat.add 0 0))
 cellC t40 h30 fun t41 =>
 let t42 := (AV.ptr (HP.nxQ h9) (Nat.add 0 7))
 cellC t42 h30 fun t43 =>
 iasC 1 t43 (vI (Int.ofNat 0)) fun t44 =>
 ldI t44 h30 fun t45 =>
 iasC 1 t41 (vI t45) fun t46 =>
 ldW t46 h30 fun t47 =>
 let t48 := (AV.agg [(vI (Int.ofNat 1)), (vW t47), (AV.int .u64 (Int.ofNat 0))])
 let t49 := AV.slice (HP.nxQ h30) 0 1 (.exact 1)
 let h33 := HP.newQ h30 (.cells true [(vI (Int.ofNat 1)), (vW t47), (AV.int .u64 (Int.ofNat 0))])
 eff (.app 3 24 (.c t39) (.c t49)) h33 fun t50 h34 =>
 let t51 := (AV.ptr (HP.nxQ h) (Nat.add 0 4))
 stoC t51 t50 h34 fun h35 =>
 let t52 := (AV.ptr (HP.nxQ h) (Nat.add 0 6))
 ldI t52 h35 fun t53 =>
 let t54 := wrQ .i64 (addQ t53 (Int.ofNat 1))
 let t55 := (AV.ptr (HP.nxQ h) (Nat.add 0 6))
 stoC t55 (vI t54) h35 fun h36 =>
 cellsC 8 t6 h36 fun t56 =>
 stsC 8 t12 t56 h36 fun h37 =>
 cellsC 8 t12 h37 fun t12a =>
 some (.ret t12a h37, .no))) (
 let t58 := eqL t22 ([112, 117, 116, 100] : LN)
 br t58 (
 cellsC 6 t7 h12 fun t59 =>
 let t60 := (AV.ptr (HP.nxQ h9) (Nat.add 0 7))
 cellC t60 h12 fun t61 =>
 let t62 := AV.slice (HP.nxQ h12) 0 1 (.exact 1)
 let h38 := HP.newQ h12 (.cells true [(vI (Int.ofNat 2))])
 cal D 98 [t59, t61, t62] h38 fun t63 h39 =>
 asB t63 fun t63a =>
 let t64 := !t63a
 obB (brV t64 (
 some (vB true)) (
 let t66 := (AV.ptr (HP.nxQ h9) (Nat.add 0 1))
 ldIV t66 h39 fun t67 =>
 let t68 := leQ (Int.ofNat 0) t67
 some (vB t68))) fun t69 =>
 br t69 (
 cellsC 8 t6 h39 fun t70 =>
 cal D 25 [t70, (vI (Int.ofNat 2))] h39 fun t71 h40 =>
 stsC 8 t12 t71 h40 fun h41 =>
 cellsC 8 t12 h41 fun t12a =>
 some (.ret t12a h41, .no)) (
 let t72 := (AV.ptr (HP.nxQ h) (Nat.add 0 4))
 cellC t72 h39 fun t73 =>
 let t74 := (AV.ptr (HP.nxQ h10) (Nat.add 0 1))
 cellC t74 h39 fun t75 =>
 let t76 := (AV.ptr (HP.nxQ h9) (Nat.add 0 7))
 cellC t76 h39 fun t77 =>
 iasC 1 t77 (vI (Int.ofNat 0)) fun t78 =>
 ldI t78 h39 fun t79 =>
 iasC 1 t75 (vI t79) fun t80 =>
 cellC t80 h39 fun vt81 => asI .u64 vt81 fun t81 =>
 let t82 := (AV.agg [(vI (Int.ofNat 2)), (vW (Int.ofNat 0)), (AV.int .u64 t81)])
 let t83 := AV.slice (HP.nxQ h39) 0 1 (.exact 1)
 let h42 := HP.newQ h39 (.cells true [(vI (Int.ofNat 2)), (vW (Int.ofNat 0)), (AV.int .u64 t81)])
 eff (.app 3 24 (.c t73) (.c t83)) h42 fun t84 h43 =>
 let t85 := (AV.ptr (HP.nxQ h) (Nat.add 0 4))
 stoC t85 t84 h43 fun h44 =>
 let t86 := (AV.ptr (HP.nxQ h) (Nat.add 0 6))
 ldI t86 h44 fun t87 =>
 let t88 := wrQ .i64 (addQ t87 (Int.ofNat 1))
 let t89 := (AV.ptr (HP.nxQ h) (Nat.add 0 6))
 stoC t89 (vI t88) h44 fun h45 =>
 cellsC 8 t6 h45 fun t90 =>
 stsC 8 t12 t90 h45 fun h46 =>
 cellsC 8 t12 h46 fun t12a =>
 some (.ret t12a h46, .no))) (
 let t92 := eqL t22 ([103, 101, 116, 119] : LN)
 br t92 (
 let t93 := (AV.ptr (HP.nxQ h9) (Nat.add 0 7))
 cellC t93 h12 fun t94 =>
 lenC t94 fun vt95 => asI .i64 vt95 fun t95 =>
 let t96 := ltQ (Int.ofNat 0) t95
 obB (brV t96 (
 some (vB true)) (
 let t98 := (AV.ptr (HP.nxQ h9) (Nat.add 0 1))
 ldIV t98 h12 fun t99 =>
 let t100 := leQ (Int.ofNat 0) t99
 obBV (brV t100 (
 let t102 := (AV.ptr (HP.nxQ h8) (Nat.add 0 3))
 cellCV t102 h12 fun t103 =>
 let t104 := (AV.ptr (HP.nxQ h9) (Nat.add 0 1))
 ldIV t104 h12 fun t105 =>
 iasCV 1 t103 (vI t105) fun t106 =>
 ldIV t106 h12 fun t107 =>
 let t108 := notQ (eqQ t107 (Int.ofNat 1))
 some (vB t108)) (
 some (vB false))) fun t109 =>
 some (vB t109))) fun t110 =>
 br t110 (
 cellsC 8 t6 h12 fun t111 =>
 cal D 25 [t111, (vI (Int.ofNat 2))] h12 fun t112 h47 =>
 stsC 8 t12 t112 h47 fun h48 =>
 cellsC 8 t12 h48 fun t12a =>
 some (.ret t12a h48, .no)) (
 let t113 := (AV.ptr (HP.nxQ h) (Nat.add 0 3))
 cellC t113 h12 fun t114 =>
 lenC t114 fun vt115 => asI .i64 vt115 fun t115 =>
 let t116 := ltQ (Int.ofNat 0) t115
 br t116 (
 let t117 := (AV.ptr (HP.nxQ h) (Nat.add 0 3))
 cellC t117 h12 fun t118 =>
 iasC 1 t118 (vI (Int.ofNat 0)) fun t119 =>
 ldW t119 h12 fun t120 =>
 let t121 := (AV.ptr (HP.nxQ h) (Nat.add 0 3))
 cellC t121 h12 fun t122 =>
 obQ (evP (.slice (.sl 1) (.c t122) (some (.c (vI (Int.ofNat 1)))) none none) .leaf) fun t123 =>
 let t124 := (AV.ptr (HP.nxQ h) (Nat.add 0 3))
 stoC t124 t123 h12 fun h52 =>
 S57_5 D m t6 t9 t10 t12 t120 h52) (
 S57_5 D m t6 t9 t10 t12 (Int.ofNat 0) h12))) (
 S57_0 D m t2 t5 t6 t7 t9 t10 t12 h12)))
def S57 : SFn := fun D m args h u => nou u <| popV args fun t0 args => popV args fun t1 args => popI .i64 args fun t2 args => popV args fun t3 args => popV args fun t4 args => popI .i64 args fun t5 args => endA args (S57_7 D m t0 t1 t2 t3 t4 t5 h)
theorem T57_3 (hE : FX x57 D m E) : S57_3 D m = e57_3 (E c57_3 []) := by unfold S57_3; rw [hE c57_3]; kernel_rfl
theorem T57_2 (hE : FX x57 D m E) : S57_2 D m = e57_2 (E c57_2 []) := by unfold S57_2; rw [T57_3 hE, hE c57_2]; kernel_rfl
theorem T57_1 (hE : FX x57 D m E) : S57_1 D m = e57_1 (E c57_1 []) := by unfold S57_1; rw [T57_2 hE, hE c57_1]; kernel_rfl
theorem T57_4b (hE : FX x57 D m E) (G4) : S57_4b D m (e57_4 G4) = e57_4 (E c57_4b [.lp v57_4 G4, .blk 1, .sj v57_1 c57_1]) := by unfold S57_4b; rw [T57_1 hE, hE c57_4b]; kernel_rfl
theorem T57_4 (hE : FX x57 D m E) : S57_4 D m = e57_4 (nrec (fun _ => none) (fun _ G4 st => E c57_4b [.lp v57_4 G4, .blk 1, .sj v57_1 c57_1] st) m) :=
  nrec_emb e57_4 (fun _ _ _ _ _ _ _ _ _ _ _ _ => none) (fun g => S57_4b D m g) (fun G4 st => E c57_4b [.lp v57_4 G4, .blk 1, .sj v57_1 c57_1] st) rfl (fun g => T57_4b hE g) m
theorem T57_0 (hE : FX x57 D m E) : S57_0 D m = e57_0 (E c57_0 []) := by unfold S57_0; rw [T57_4 hE, hE c57_0]; kernel_rfl
theorem T57_6 (hE : FX x57 D m E) : S57_6 D m = e57_6 (E c57_6 [.blk 0, .sj v57_0 c57_0]) := by unfold S57_6; rw [hE c57_6]; kernel_rfl
theorem T57_5 (hE : FX x57 D m E) : S57_5 D m = e57_5 (E c57_5 [.blk 0, .sj v57_0 c57_0]) := by unfold S57_5; rw [T57_6 hE, hE c57_5]; kernel_rfl
theorem T57_7 (hE : FX x57 D m E) : S57_7 D m = e57_7 (E c57_e []) := by unfold S57_7; rw [T57_5 hE, T57_0 hE, hE c57_e]; kernel_rfl
theorem X57 : XTie S57 x57 := X_of fun D m E hE args h u => by unfold S57; rw [T57_7 hE]; kernel_rfl
/- 59 -/
def c59_e : XC := (.sO [.al p2 (.box q0), .al p3 (.box q1)] (.sO [.fa p4 0 q2, .ld p5 q4 tI] (.block 0 (.sO [.bn p7 .eql q5 (ci 1) .b, .mv p6 q7 .b] (.cond q6 (.s (.oX [.fa p8 0 q3, .ld p9 q8 .v, .fa p10 1 q2, .ld p11 q10 tI, .fa p12 4 q2, .ld p13 q12 tW, .P p14 (.iaddr (.sl 1) q9 q11) .v, .st q14 q13])) (.sO [.bn p16 .eql q5 (ci 2) .b, .mv p15 q16 .b] (.cond q15 (.s (.ops true (XL.of [.fa p17 1 q3, .ld p18 q17 .v, .fa p19 1 q2, .ld p20 q19 tI, .fa p21 5 q2, .ld p22 q21 (.i .u64), .o ⟨(some p23), (.call (.fn 100) [q22]), none, [⟨none, .cell q17, p18⟩, ⟨none, .cell q19, p20⟩]⟩ (.i .u64), .P p24 (.iaddr (.sl 1) q18 q20) .v, .st q24 q23]))) (.sO [.bn p26 .eql q5 (ci 3) .b, .mv p25 q26 .b] (.cond q25 (.seq (.ops true (XL.of [.fa p27 0 q3, .ld p28 q27 .v, .fa p29 1 q2, .ld p30 q29 tI, .fa p31 0 q3, .ld p32 q31 .v, .fa p33 2 q2, .ld p34 q33 tI, .P p35 (.iaddr (.sl 1) q32 q34) .v, .ld p36 q35 tW, .P p37 (.iaddr (.sl 1) q28 q30) .v, .st q37 q36])) (.s (.ops true (XL.of [.fa p38 1 q3, .ld p39 q38 .v, .fa p40 1 q2, .ld p41 q40 tI, .fa p42 1 q3, .ld p43 q42 .v, .fa p44 2 q2, .ld p45 q44 tI, .P p46 (.iaddr (.sl 1) q43 q45) .v, .ld p47 q46 (.i .u64), .P p48 (.iaddr (.sl 1) q39 q41) .v, .st q48 q47])))) (.sO [.bn p50 .eql q5 (ci 4) .b, .mv p49 q50 .b] (.cond q49 (.s (.ops true (XL.of [.fa p52 0 q3, .ld p53 q52 .v, .fa p54 1 q2, .ld p55 q54 tI, .fa p56 4 q2, .ld p57 q56 tW, .P p58 (.conv (.ii .i64) q57) tI, .fa p59 0 q3, .ld p60 q59 .v, .fa p61 2 q2, .ld p62 q61 tI, .P p63 (.iaddr (.sl 1) q60 q62) .v, .ld p64 q63 tW, .fa p65 0 q3, .ld p66 q65 .v, .fa p67 3 q2, .ld p68 q67 tI, .P p69 (.iaddr (.sl 1) q66 q68) .v, .ld p70 q69 tW, .o ⟨(some p71), (.call (.fn 12) [q58, q64, q70]), none, [⟨none, .cell q52, p53⟩, ⟨none, .cell q54, p55⟩]⟩ .v, .mv p51 q71 .v, .P p72 (.ext q51 0) tW, .P p73 (.ext q51 1) .b, .P p74 (.iaddr (.sl 1) q53 q55) .v, .st q74 q72]))) (.sO [.bn p76 .eql q5 (ci 5) .b, .mv p75 q76 .b] (.cond q75 (.s (.ops true (XL.of [.fa p78 1 q3, .ld p79 q78 .v, .fa p80 1 q2, .ld p81 q80 tI, .fa p82 4 q2, .ld p83 q82 tW, .P p84 (.conv (.ii .i64) q83) tI, .fa p85 1 q3, .ld p86 q85 .v, .fa p87 2 q2, .ld p88 q87 tI, .P p89 (.iaddr (.sl 1) q86 q88) .v, .ld p90 q89 (.i .u64), .fa p91 1 q3, .ld p92 q91 .v, .fa p93 3 q2, .ld p94 q93 tI, .P p95 (.iaddr (.sl 1) q92 q94) .v, .ld p96 q95 (.i .u64), .o ⟨(some p97), (.call (.fn 14) [q84, q90, q96]), none, [⟨none, .cell q78, p79⟩, ⟨none, .cell q80, p81⟩]⟩ .v, .mv p77 q97 .v, .P p98 (.ext q77 0) (.i .u64), .P p99 (.ext q77 1) .b, .P p100 (.iaddr (.sl 1) q79 q81) .v, .st q100 q98]))) (.sO [.bn p102 .eql q5 (ci 6) .b, .mv p101 q102 .b] (.cond q101 (.s (.ops true (XL.of [.fa p104 0 q3, .ld p105 q104 .v, .fa p106 1 q2, .ld p107 q106 tI, .fa p108 4 q2, .ld p109 q108 tW, .P p110 (.conv (.ii .i64) q109) tI, .fa p111 1 q3, .ld p112 q111 .v, .fa p113 2 q2, .ld p114 q113 tI, .P p115 (.iaddr (.sl 1) q112 q114) .v, .ld p116 q115 (.i .u64), .fa p117 1 q3, .ld p118 q117 .v, .fa p119 3 q2, .ld p120 q119 tI, .P p121 (.iaddr (.sl 1) q118 q120) .v, .ld p122 q121 (.i .u64), .o ⟨(some p123), (.call (.fn 101) [q110, q116, q122]), none, [⟨none, .cell q104, p105⟩, ⟨none, .cell q106, p107⟩]⟩ .v, .mv p103 q123 .v, .P p124 (.ext q103 0) tW, .P p125 (.ext q103 1) .b, .P p126 (.iaddr (.sl 1) q105 q107) .v, .st q126 q124]))) (.sO [.bn p128 .eql q5 (ci 7) .b, .mv p127 q128 .b] (.cond q127 (.s (.ops true (XL.of [.fa p129 1 q3, .ld p130 q129 .v, .fa p131 1 q2, .ld p132 q131 tI, .fa p133 1 q3, .ld p134 q133 .v, .fa p135 2 q2, .ld p136 q135 tI, .P p137 (.iaddr (.sl 1) q134 q136) .v, .ld p138 q137 (.i .u64), .o ⟨(some p139), (.call (.fn 16) [q138]), none, [⟨none, .cell q129, p130⟩, ⟨none, .cell q131, p132⟩]⟩ (.i .u64), .P p140 (.iaddr (.sl 1) q130 q132) .v, .st q140 q139]))) (.sO [.bn p142 .eql q5 (ci 8) .b, .mv p141 q142 .b] (.cond q141 (.s (.ops true (XL.of [.fa p143 0 q3, .ld p144 q143 .v, .fa p145 1 q2, .ld p146 q145 tI, .fa p147 1 q3, .ld p148 q147 .v, .fa p149 2 q2, .ld p150 q149 tI, .P p151 (.iaddr (.sl 1) q148 q150) .v, .ld p152 q151 (.i .u64), .o ⟨(some p153), (.call (.fn 17) [q152]), none, [⟨none, .cell q143, p144⟩, ⟨none, .cell q145, p146⟩]⟩ tW, .P p154 (.iaddr (.sl 1) q144 q146) .v, .st q154 q153]))) (.sO [.bn p156 .eql q5 (ci 9) .b, .mv p155 q156 .b] (.cond q155 (.s (.ops true (XL.of [.fa p157 1 q3, .ld p158 q157 .v, .fa p159 1 q2, .ld p160 q159 tI, .fa p161 0 q3, .ld p162 q161 .v, .fa p163 2 q2, .ld p164 q163 tI, .P p165 (.iaddr (.sl 1) q162 q164) .v, .ld p166 q165 tW, .o ⟨(some p167), (.call (.fn 15) [q166]), none, [⟨none, .cell q157, p158⟩, ⟨none, .cell q159, p160⟩]⟩ (.i .u64), .P p168 (.iaddr (.sl 1) q158 q160) .v, .st q168 q167]))) (.s .skip))))))))))))))))))))))
def x59 : XFn := ⟨[.v, .v], false, [], c59_e⟩
def e59_0 (k t0 t1 h) := kN k [(p0, t0), (p1, t1)] h
def S59_0 (D : CallD) (m : Nat) (t0 t1 : AV) (h : HP) : Res2 :=
 let t2 := AV.ptr (HP.nxQ h) 0
 let h1 := HP.newQ h (.cells true (AV.cells t0))
 let t3 := AV.ptr (HP.nxQ h1) 0
 let h2 := HP.newQ h1 (.cells true (AV.cells t1))
 let t4 := (AV.ptr (HP.nxQ h) (Nat.add 0 0))
 ldI t4 h2 fun t5 =>
 let t7 := eqQ t5 (Int.ofNat 1)
 br t7 (
 let t8 := (AV.ptr (HP.nxQ h1) (Nat.add 0 0))
 cellC t8 h2 fun t9 =>
 let t10 := (AV.ptr (HP.nxQ h) (Nat.add 0 1))
 ldI t10 h2 fun t11 =>
 let t12 := (AV.ptr (HP.nxQ h) (Nat.add 0 4))
 ldW t12 h2 fun t13 =>
 iasC 1 t9 (vI t11) fun t14 =>
 stoC t14 (vW t13) h2 fun h3 =>
 some (.ret (.tup []) h3, .no)) (
 let t16 := eqQ t5 (Int.ofNat 2)
 br t16 (
 let t17 := (AV.ptr (HP.nxQ h1) (Nat.add 0 1))
 cellC t17 h2 fun t18 =>
 let t19 := (AV.ptr (HP.nxQ h) (Nat.add 0 1))
 ldI t19 h2 fun t20 =>
 let t21 := (AV.ptr (HP.nxQ h) (Nat.add 0 5))
 cellC t21 h2 fun vt22 => asI .u64 vt22 fun t22 =>
 cal D 100 [(AV.int .u64 t22)] h2 fun t23 h4 =>
 br (again [⟨none, .cell q17, p18⟩, ⟨none, .cell q19, p20⟩] (mkT [(p20, (vI t20)), (p19, t19), (p18, t18), (p17, t17)]) h4) (
 asI .u64 t23 fun t23a =>
 iasC 1 t18 (vI t20) fun t24 =>
 stoC t24 (AV.int .u64 t23a) h4 fun h5 =>
 some (.ret (.tup []) h5, .no)) none) (
 let t26 := eqQ t5 (Int.ofNat 3)
 br t26 (
 let t27 := (AV.ptr (HP.nxQ h1) (Nat.add 0 0))
 cellC t27 h2 fun t28 =>
 let t29 := (AV.ptr (HP.nxQ h) (Nat.add 0 1))
 ldI t29 h2 fun t30 =>
 let t31 := (AV.ptr (HP.nxQ h1) (Nat.add 0 0))
 cellC t31 h2 fun t32 =>
 let t33 := (AV.ptr (HP.nxQ h) (Nat.add 0 2))
 ldI t33 h2 fun t34 =>
 iasC 1 t32 (vI t34) fun t35 =>
 ldW t35 h2 fun t36 =>
 iasC 1 t28 (vI t30) fun t37 =>
 stoC t37 (vW t36) h2 fun h6 =>
 let t38 := (AV.ptr (HP.nxQ h1) (Nat.add 0 1))
 cellC t38 h6 fun t39 =>
 let t40 := (AV.ptr (HP.nxQ h) (Nat.add 0 1))
 ldI t40 h6 fun t41 =>
 let t42 := (AV.ptr (HP.nxQ h1) (Nat.add 0 1))
 cellC t42 h6 fun t43 =>
 let t44 := (AV.ptr (HP.nxQ h) (Nat.add 0 2))
 ldI t44 h6 fun t45 =>
 iasC 1 t43 (vI t45) fun t46 =>
 cellC t46 h6 fun vt47 => asI .u64 vt47 fun t47 =>
 iasC 1 t39 (vI t41) fun t48 =>
 stoC t48 (AV.int .u64 t47) h6 fun h7 =>
 some (.ret (.tup []) h7, .no)) (
 let t50 := eqQ t5 (Int.ofNat 4)
 br t50 (
 let t52 := (AV.ptr (HP.nxQ h1) (Nat.add 0 0))
 cellC t52 h2 fun t53 =>
 let t54 := (AV.ptr (HP.nxQ h) (Nat.add 0 1))
 ldI t54 h2 fun t55 =>
 let t56 := (AV.ptr (HP.nxQ h) (Nat.add 0 4))
 ldW t56 h2 fun t57 =>
 obI .i64 (convV (.ii .i64) (vW t57)) fun t58 =>
 let t59 := (AV.ptr (HP.nxQ h1) (Nat.add 0 0))
 cellC t59 h2 fun t60 =>
 let t61 := (AV.ptr (HP.nxQ h) (Nat.add 0 2))
 ldI t61 h2 fun t62 =>
 iasC 1 t60 (vI t62) fun t63 =>
 ldW t63 h2 fun t64 =>
 let t65 := (AV.ptr (HP.nxQ h1) (Nat.add 0 0))
 cellC t65 h2 fun t66 =>
 let t67 := (AV.ptr (HP.nxQ h) (Nat.add 0 3))
 ldI t67 h2 fun t68 =>
 iasC 1 t66 (vI t68) fun t69 =>
 ldW t69 h2 fun t70 =>
 cal D 12 [(vI t58), (vW t64), (vW t70)] h2 fun t71 h8 =>
 br (again [⟨none, .cell q52, p53⟩, ⟨none, .cell q54, p55⟩] (mkT [(p55, (vI t55)), (p54, t54), (p53, t53), (p52, t52)]) h8) (
 extC t71 0 fun vt72 => asI .u32 vt72 fun t72 =>
 extC t71 1 fun vt73 => asB vt73 fun t73 =>
 iasC 1 t53 (vI t55) fun t74 =>
 stoC t74 (vW t72) h8 fun h9 =>
 some (.ret (.tup []) h9, .no)) none) (
 let t76 := eqQ t5 (Int.ofNat 5)
 br t76 (
 let t78 := (AV.ptr (HP.nxQ h1) (Nat.add 0 1))
 cellC t78 h2 fun t79 =>
 let t80 := (AV.ptr (HP.nxQ h) (Nat.add 0 1))
 ldI t80 h2 fun t81 =>
 let t82 := (AV.ptr (HP.nxQ h) (Nat.add 0 4))
 ldW t82 h2 fun t83 =>
 obI .i64 (convV (.ii .i64) (vW t83)) fun t84 =>
 let t85 := (AV.ptr (HP.nxQ h1) (Nat.add 0 1))
 cellC t85 h2 fun t86 =>
 let t87 := (AV.ptr (HP.nxQ h) (Nat.add 0 2))
 ldI t87 h2 fun t88 =>
 iasC 1 t86 (vI t88) fun t89 =>
 cellC t89 h2 fun vt90 => asI .u64 vt90 fun t90 =>
 let t91 := (AV.ptr (HP.nxQ h1) (Nat.add 0 1))
 cellC t91 h2 fun t92 =>
 let t93 := (AV.ptr (HP.nxQ h) (Nat.add 0 3))
 ldI t93 h2 fun t94 =>
 iasC 1 t92 (vI t94) fun t95 =>
 cellC t95 h2 fun vt96 => asI .u64 vt96 fun t96 =>
 cal D 14 [(vI t84), (AV.int .u64 t90), (AV.int .u64 t96)] h2 fun t97 h10 =>
 br (again [⟨none, .cell q78, p79⟩, ⟨none, .cell q80, p81⟩] (mkT [(p81, (vI t81)), (p80, t80), (p79, t79), (p78, t78)]) h10) (
 extC t97 0 fun vt98 => asI .u64 vt98 fun t98 =>
 extC t97 1 fun vt99 => asB vt99 fun t99 =>
 iasC 1 t79 (vI t81) fun t100 =>
 stoC t100 (AV.int .u64 t98) h10 fun h11 =>
 some (.ret (.tup []) h11, .no)) none) (
 let t102 := eqQ t5 (Int.ofNat 6)
 br t102 (
 let t104 := (AV.ptr (HP.nxQ h1) (Nat.add 0 0))
 cellC t104 h2 fun t105 =>
 let t106 := (AV.ptr (HP.nxQ h) (Nat.add 0 1))
 ldI t106 h2 fun t107 =>
 let t108 := (AV.ptr (HP.nxQ h) (Nat.add 0 4))
 ldW t108 h2 fun t109 =>
 obI .i64 (convV (.ii .i64) (vW t109)) fun t110 =>
 let t111 := (AV.ptr (HP.nxQ h1) (Nat.add 0 1))
 cellC t111 h2 fun t112 =>
 let t113 := (AV.ptr (HP.nxQ h) (Nat.add 0 2))
 ldI t113 h2 fun t114 =>
 iasC 1 t112 (vI t114) fun t115 =>
 cellC t115 h2 fun vt116 => asI .u64 vt116 fun t116 =>
 let t117 := (AV.ptr (HP.nxQ h1) (Nat.add 0 1))
 cellC t117 h2 fun t118 =>
 let t119 := (AV.ptr (HP.nxQ h) (Nat.add 0 3))
 ldI t119 h2 fun t120 =>
 iasC 1 t118 (vI t120) fun t121 =>
 cellC t121 h2 fun vt122 => asI .u64 vt122 fun t122 =>
 cal D 101 [(vI t110), (AV.int .u64 t116), (AV.int .u64 t122)] h2 fun t123 h12 =>
 br (again [⟨none, .cell q104, p105⟩, ⟨none, .cell q106, p107⟩] (mkT [(p107, (vI t107)), (p106, t106), (p105, t105), (p104, t104)]) h12) (
 extC t123 0 fun vt124 => asI .u32 vt124 fun t124 =>
 extC t123 1 fun vt125 => asB vt125 fun t125 =>
 iasC 1 t105 (vI t107) fun t126 =>
 stoC t126 (vW t124) h12 fun h13 =>
 some (.ret (.tup []) h13, .no)) none) (
 let t128 := eqQ t5 (Int.ofNat 7)
 br t128 (
 let t129 := (AV.ptr (HP.nxQ h1) (Nat.add 0 1))
 cellC t129 h2 fun t130 =>
 let t131 := (AV.ptr (HP.nxQ h) (Nat.add 0 1))
 ldI t131 h2 fun t132 =>
 let t133 := (AV.ptr (HP.nxQ h1) (Nat.add 0 1))
 cellC t133 h2 fun t134 =>
 let t135 := (AV.ptr (HP.nxQ h) (Nat.add 0 2))
 ldI t135 h2 fun t136 =>
 iasC 1 t134 (vI t136) fun t137 =>
 cellC t137 h2 fun vt138 => asI .u64 vt138 fun t138 =>
 cal D 16 [(AV.int .u64 t138)] h2 fun t139 h14 =>
 br (again [⟨none, .cell q129, p130⟩, ⟨none, .cell q131, p132⟩] (mkT [(p132, (vI t132)), (p131, t131), (p130, t130), (p129, t129)]) h14) (
 asI .u64 t139 fun t139a =>
 iasC 1 t130 (vI t132) fun t140 =>
 stoC t140 (AV.int .u64 t139a) h14 fun h15 =>
 some (.ret (.tup []) h15, .no)) none) (
 let t142 := eqQ t5 (Int.ofNat 8)
 br t142 (
 let t143 := (AV.ptr (HP.nxQ h1) (Nat.add 0 0))
 cellC t143 h2 fun t144 =>
 let t145 := (AV.ptr (HP.nxQ h) (Nat.add 0 1))
 ldI t145 h2 fun t146 =>
 let t147 := (AV.ptr (HP.nxQ h1) (Nat.add 0 1))
 cellC t147 h2 fun t148 =>
 let t149 := (AV.ptr (HP.nxQ h) (Nat.add 0 2))
 ldI t149 h2 fun t150 =>
 iasC 1 t148 (vI t150) fun t151 =>
 cellC t151 h2 fun vt152 => asI .u64 vt152 fun t152 =>
 cal D 17 [(AV.int .u64 t152)] h2 fun t153 h16 =>
 br (again [⟨none, .cell q143, p144⟩, ⟨none, .cell q145, p146⟩] (mkT [(p146, (vI t146)), (p145, t145), (p144, t144), (p143, t143)]) h16) (
 asI .u32 t153 fun t153a =>
 iasC 1 t144 (vI t146) fun t154 =>
 stoC t154 (vW t153a) h16 fun h17 =>
 some (.ret (.tup []) h17, .no)) none) (
 let t156 := eqQ t5 (Int.ofNat 9)
 br t156 (
 let t157 := (AV.ptr (HP.nxQ h1) (Nat.add 0 1))
 cellC t157 h2 fun t158 =>
 let t159 := (AV.ptr (HP.nxQ h) (Nat.add 0 1))
 ldI t159 h2 fun t160 =>
 let t161 := (AV.ptr (HP.nxQ h1) (Nat.add 0 0))
 cellC t161 h2 fun t162 =>
 let t163 := (AV.ptr (HP.nxQ h) (Nat.add 0 2))
 ldI t163 h2 fun t164 =>
 iasC 1 t162 (vI t164) fun t165 =>
 ldW t165 h2 fun t166 =>
 cal D 15 [(vW t166)] h2 fun t167 h18 =>
 br (again [⟨none, .cell q157, p158⟩, ⟨none, .cell q159, p160⟩] (mkT [(p160, (vI t160)), (p159, t159), (p158, t158), (p157, t157)]) h18) (
 asI .u64 t167 fun t167a =>
 iasC 1 t158 (vI t160) fun t168 =>
 stoC t168 (AV.int .u64 t167a) h18 fun h19 =>
 some (.ret (.tup []) h19, .no)) none) (
 some (.ret (.tup []) h2, .no))))))))))
def S59 : SFn := fun D m args h u => nou u <| popV args fun t0 args => popV args fun t1 args => endA args (S59_0 D m t0 t1 h)
theorem T59_0 (hE : FX x59 D m E) : S59_0 D m = e59_0 (E c59_e []) := by unfold S59_0; rw [hE c59_e]; kernel_rfl
theorem X59 : XTie S59 x59 := X_of fun D m E hE args h u => by unfold S59; rw [T59_0 hE]; kernel_rfl
/- 60 -/
def v60_2 : List Pos := [p5]
def c60_2 : XC := (.sO [.mv p47 q5 .v, .mv p4 q47 .v] (.s .ret))
def v60_3 : List Pos := [p5, p9, p35, p36]
def c60_3b : XC := (.sO [.bn p37 .lss q36 q35 .b] (.seq (.cond q37 .skip (.exit 4)) (.seq (.block 5 (.seq (.oX [.mv p38 q36 tI, .mv p10 q38 tI]) (.oX [.mv p39 q5 .v, .mv p40 q9 .v, .mv p41 q10 tI, .P p42 (.iaddr (.sl 1) q40 q41) .v, .ld p43 q42 tI, .al p44 (.bsl [(kI 0)] 1 [⟨0, 1, q43⟩]), .o ⟨(some p45), (.e (.app 1 8 q39 q44)), none, []⟩ .v, .mv p5 q45 .v]))) (.s (.oX [.bn p46 .add q36 (ci 1) tI, .mv p36 q46 tI])))))
def v60_1 : List Pos := [p0, p5, p7]
def c60_1 : XC := (.sO [.mv p31 q0 .v, .mv p32 q7 tI, .cl p33 66 [q31, q32] .v, .mv p9 q33 .v] (.sj v60_2 (.sO [.mv p34 q9 .v, .P p35 (.lenl q34) tI, .mv p36 (ci 0) tI] (.block 4 (.loop v60_3 c60_3b))) c60_2))
def v60_4 : List Pos := [p0, p1, p5, p7, p8]
def c60_4b : XC := (.seq (.seq (.oX [.mv p23 q8 tI, .mv p24 q1 tI, .bn p25 .rem q24 (ci 16) tI, .bn p26 .lss q23 q25 .b]) (.cond q26 .skip (.exit 2))) (.seq (.block 3 (.oX [.mv p29 q7 tI, .bn p30 .mul q29 (ci 2) tI, .mv p7 q30 tI])) (.s (.oX [.mv p27 q8 tI, .bn p28 .add q27 (ci 1) tI, .mv p8 q28 tI]))))
def v60_0 : List Pos := [p0, p1, p5]
def c60_0 : XC := (.sO [.mv p7 (ci 1) tI] (.sj v60_1 (.sO [.mv p8 (ci 0) tI] (.block 2 (.loop v60_4 c60_4b))) c60_1))
def v60_5 : List Pos := [p0, p1, p5, p6]
def c60_5b : XC := (.seq (.seq (.oX [.mv p14 q6 tI, .mv p15 q1 tI, .bn p16 .quo q15 (ci 16) tI, .bn p17 .lss q14 q16 .b]) (.cond q17 .skip (.exit 0))) (.seq (.block 1 (.oX [.mv p20 q5 .v, .al p21 (.bsl [(kI 0)] 1 [⟨0, 1, (ci 0)⟩]), .o ⟨(some p22), (.e (.app 1 8 q20 q21)), none, []⟩ .v, .mv p5 q22 .v])) (.s (.oX [.mv p18 q6 tI, .bn p19 .add q18 (ci 1) tI, .mv p6 q19 tI]))))
def c60_e : XC := (.sO [.mv p4 (.c .nils) .v] (.seq (.seq (.oX [.mv p11 q0 .v, .P p12 (.lenl q11) tI, .bn p13 .eql q12 (ci 0) .b]) (.cond q13 (.seq (.oX [.mv p4 (.c .nils) .v]) .ret) .skip)) (.sO [.mv p5 (.c .nils) .v] (.sj v60_0 (.sO [.mv p6 (ci 0) tI] (.block 0 (.loop v60_5 c60_5b))) c60_0))))
def x60 : XFn := ⟨[.v, tI], false, [(.tmp p4)], c60_e⟩
def e60_2 (k t5 h) := kN k [(p5, t5)] h
def S60_2 (D : CallD) (m : Nat) (t5 : AV) (h : HP) : Res2 :=
 some (.ret t5 h, .no)
def e60_3 (k t5 t9 t35 t36 h) := kN k [(p5, t5), (p9, t9), (p35, (vI t35)), (p36, (vI t36))] h
def S60_3b (D : CallD) (m : Nat) (g3 : AV → AV → Int → Int → HP → Res2) (t5 t9 : AV) (t35 t36 : Int) (h : HP) : Res2 :=
 let t37 := ltQ t36 t35
 br t37 (
 iasC 1 t9 (vI t36) fun t42 =>
 ldI t42 h fun t43 =>
 let t44 := AV.slice (HP.nxQ h) 0 1 (.exact 1)
 let h8 := HP.newQ h (.cells true [(vI t43)])
 eff (.app 1 8 (.c t5) (.c t44)) h8 fun t45 h9 =>
 let t46 := wrQ .i64 (addQ t36 (Int.ofNat 1))
 g3 t45 t9 t35 t46 h9) (
 S60_2 D m t5 h)
def S60_3 (D : CallD) (m : Nat) : AV → AV → Int → Int → HP → Res2 := nrec (fun _ _ _ _ _ => none) (fun _ g => S60_3b D m g) m
def e60_1 (k t0 t5 t7 h) := kN k [(p0, t0), (p5, t5), (p7, (vI t7))] h
def S60_1 (D : CallD) (m : Nat) (t0 t5 : AV) (t7 : Int) (h : HP) : Res2 :=
 cal D 66 [t0, (vI t7)] h fun t33 h7 =>
 lenC t33 fun vt35 => asI .i64 vt35 fun t35 =>
 S60_3 D m t5 t33 t35 (Int.ofNat 0) h7
def e60_4 (k t0 t1 t5 t7 t8 h) := kN k [(p0, t0), (p1, (vI t1)), (p5, t5), (p7, (vI t7)), (p8, (vI t8))] h
def S60_4b (D : CallD) (m : Nat) (g4 : AV → Int → AV → Int → Int → HP → Res2) (t0 : AV) (t1 : Int) (t5 : AV) (t7 t8 : Int) (h : HP) : Res2 :=
 let t25 := Int.tmod t1 (Int.ofNat 16)
 let t26 := ltQ t8 t25
 br t26 (
 let t30 := wrQ .i64 (t7 * (Int.ofNat 2))
 let t28 := wrQ .i64 (addQ t8 (Int.ofNat 1))
 g4 t0 t1 t5 t30 t28 h) (
 S60_1 D m t0 t5 t7 h)
def S60_4 (D : CallD) (m : Nat) : AV → Int → AV → Int → Int → HP → Res2 := nrec (fun _ _ _ _ _ _ => none) (fun _ g => S60_4b D m g) m
def e60_0 (k t0 t1 t5 h) := kN k [(p0, t0), (p1, (vI t1)), (p5, t5)] h
def S60_0 (D : CallD) (m : Nat) (t0 : AV) (t1 : Int) (t5 : AV) (h : HP) : Res2 :=
 S60_4 D m t0 t1 t5 (Int.ofNat 1) (Int.ofNat 0) h
def e60_5 (k t0 t1 t5 t6 h) := kN k [(p0, t0), (p1, (vI t1)), (p5, t5), (p6, (vI t6))] h
def S60_5b (D : CallD) (m : Nat) (g5 : AV → Int → AV → Int → HP → Res2) (t0 : AV) (t1 : Int) (t5 : AV) (t6 : Int) (h : HP) : Res2 :=
 let t16 := wrapF .i64 (Int.tdiv t1 (Int.ofNat 16))
 let t17 := ltQ t6 t16
 br t17 (
 let t21 := AV.slice (HP.nxQ h) 0 1 (.exact 1)
 let h10 := HP.newQ h (.cells true [(vI (Int.ofNat 0))])
 eff (.app 1 8 (.c t5) (.c t21)) h10 fun t22 h11 =>
 let t19 := wrQ .i64 (addQ t6 (Int.ofNat 1))
 g5 t0 t1 t22 t19 h11) (
 S60_0 D m t0 t1 t5 h)
def S60_5 (D : CallD) (m : Nat) : AV → Int → AV → Int → HP → Res2 := nrec (fun _ _ _ _ _ => none) (fun _ g => S60_5b D m g) m
def e60_6 (k t0 t1 h) := kN k [(p0, t0), (p1, (vI t1))] h
def S60_6 (D : CallD) (m : Nat) (t0 : AV) (t1 : Int) (h : HP) : Res2 :=
 lenC t0 fun vt12 => asI .i64 vt12 fun t12 =>
 let t13 := eqQ t12 (Int.ofNat 0)
 br t13 (
 some (.ret (.nils : AV) h, .no)) (
 S60_5 D m t0 t1 (.nils : AV) (Int.ofNat 0) h)
def S60 : SFn := fun D m args h u => nou u <| popV args fun t0 args => popI .i64 args fun t1 args => endA args (S60_6 D m t0 t1 h)
theorem T60_2 (hE : FX x60 D m E) : S60_2 D m = e60_2 (E c60_2 []) := by unfold S60_2; rw [hE c60_2]; kernel_rfl
theorem T60_3b (hE : FX x60 D m E) (G3) : S60_3b D m (e60_3 G3) = e60_3 (E c60_3b [.lp v60_3 G3, .blk 4, .sj v60_2 c60_2]) := by unfold S60_3b; rw [T60_2 hE, hE c60_3b]; kernel_rfl
theorem T60_3 (hE : FX x60 D m E) : S60_3 D m = e60_3 (nrec (fun _ => none) (fun _ G3 st => E c60_3b [.lp v60_3 G3, .blk 4, .sj v60_2 c60_2] st) m) :=
  nrec_emb e60_3 (fun _ _ _ _ _ => none) (fun g => S60_3b D m g) (fun G3 st => E c60_3b [.lp v60_3 G3, .blk 4, .sj v60_2 c60_2] st) rfl (fun g => T60_3b hE g) m
theorem T60_1 (hE : FX x60 D m E) : S60_1 D m = e60_1 (E c60_1 []) := by unfold S60_1; rw [T60_3 hE, hE c60_1]; kernel_rfl
theorem T60_4b (hE : FX x60 D m E) (G4) : S60_4b D m (e60_4 G4) = e60_4 (E c60_4b [.lp v60_4 G4, .blk 2, .sj v60_1 c60_1]) := by unfold S60_4b; rw [T60_1 hE, hE c60_4b]; kernel_rfl
theorem T60_4 (hE : FX x60 D m E) : S60_4 D m = e60_4 (nrec (fun _ => none) (fun _ G4 st => E c60_4b [.lp v60_4 G4, .blk 2, .sj v60_1 c60_1] st) m) :=
  nrec_emb e60_4 (fun _ _ _ _ _ _ => none) (fun g => S60_4b D m g) (fun G4 st => E c60_4b [.lp v60_4 G4, .blk 2, .sj v60_1 c60_1] st) rfl (fun g => T60_4b hE g) m
theorem T60_0 (hE : FX x60 D m E) : S60_0 D m = e60_0 (E c60_0 []) := by unfold S60_0; rw [T60_4 hE, hE c60_0]; kernel_rfl
theorem T60_5b (hE : FX x60 D m E) (G5) : S60_5b D m (e60_5 G5) = e60_5 (E c60_5b [.lp v60_5 G5, .blk 0, .sj v60_0 c60_0]) := by unfold S60_5b; rw [T60_0 hE, hE c60_5b]; kernel_rfl
theorem T60_5 (hE : FX x60 D m E) : S60_5 D m = e60_5 (nrec (fun _ => none) (fun _ G5 st => E c60_5b [.lp v60_5 G5, .blk 0, .sj v60_0 c60_0] st) m) :=
  nrec_emb e60_5 (fun _ _ _ _ _ => none) (fun g => S60_5b D m g) (fun G5 st => E c60_5b [.lp v60_5 G5, .blk 0, .sj v60_0 c60_0] st) rfl (fun g => T60_5b hE g) m
theorem T60_6 (hE : FX x60 D m E) : S60_6 D m = e60_6 (E c60_e []) := by unfold S60_6; rw [T60_5 hE, hE c60_e]; kernel_rfl
theorem X60 : XTie S60 x60 := X_of fun D m E hE args h u => by unfold S60; rw [T60_6 hE]; kernel_rfl
/- 61 -/
def v61_0 : List Pos := [p5]
def c61_0 : XC := (.sO [.mv p41 q5 .v, .cl p42 103 [q41] .v, .mv p4 q42 .v] (.s .ret))
def v61_1 : List Pos := [p0, p1, p5, p6, p7]
def c61_1b : XC := (.seq (.seq (.oX [.mv p9 q7 tI, .mv p10 q0 .v, .P p11 (.lenl q10) tI, .bn p12 .lss q9 q11 .b, .mv p13 q12 .b, .ge p13 (XL.of [.G p13 false p14 (.mov q7) tI, .G p13 false p15 (.mov q1) .v, .G p13 false p16 (.lenl q15) tI, .G p13 false p17 (.bin .lss q14 q16) .b, .P p18 (.pick q13 (cb true) q17) .b]) p18 .b, .mv p19 q18 .b, .ge p19 (XL.of [.G p19 false p20 (.mov q6) tI, .G p19 false p21 (.bin .gtr q20 (ci 0)) .b, .P p22 (.pick q19 (cb true) q21) .b]) p22 .b]) (.cond q22 .skip (.exit 0))) (.seq (.block 1 (.seq (.oX [.mv p25 q0 .v, .mv p26 q7 tI, .cl p27 102 [q25, q26] tI, .mv p28 q1 .v, .mv p29 q7 tI, .cl p30 102 [q28, q29] tI, .bn p31 .add q27 q30 tI, .mv p32 q6 tI, .bn p33 .add q31 q32 tI, .mv p8 q33 tI]) (.seq (.oX [.mv p34 q5 .v, .mv p35 q8 tI, .bn p36 .rem q35 (ci 65536) tI, .al p37 (.bsl [(kI 0)] 1 [⟨0, 1, q36⟩]), .o ⟨(some p38), (.e (.app 1 8 q34 q37)), none, []⟩ .v, .mv p5 q38 .v]) (.oX [.mv p39 q8 tI, .bn p40 .quo q39 (ci 65536) tI, .mv p6 q40 tI])))) (.s (.oX [.mv p23 q7 tI, .bn p24 .add q23 (ci 1) tI, .mv p7 q24 tI]))))
def c61_e : XC := (.sO [.mv p4 (.c .nils) .v] (.sO [.mv p5 (.c .nils) .v] (.sO [.mv p6 (ci 0) tI] (.sj v61_0 (.sO [.mv p7 (ci 0) tI] (.block 0 (.loop v61_1 c61_1b))) c61_0))))
def x61 : XFn := ⟨[.v, .v], false, [(.tmp p4)], c61_e⟩
def e61_0 (k t5 h) := kN k [(p5, t5)] h
def S61_0 (D : CallD) (m : Nat) (t5 : AV) (h : HP) : Res2 :=
 cal D 103 [t5] h fun t42 h3 =>
 some (.ret t42 h3, .no)
def e61_1 (k t0 t1 t5 t6 t7 h) := kN k [(p0, t0), (p1, t1), (p5, t5), (p6, (vI t6)), (p7, (vI t7))] h
def S61_1b (D : CallD) (m : Nat) (g1 : AV → AV → AV → Int → Int → HP → Res2) (t0 t1 t5 : AV) (t6 t7 : Int) (h : HP) : Res2 :=
 lenC t0 fun vt11 => asI .i64 vt11 fun t11 =>
 let t12 := ltQ t7 t11
 obB (brV t12 (
 some (vB true)) (
 lenCV t1 fun vt16 => asIV .i64 vt16 fun t16 =>
 let t17 := ltQ t7 t16
 some (vB t17))) fun t18 =>
 obB (brV t18 (
 some (vB true)) (
 let t21 := ltQ (Int.ofNat 0) t6
 some (vB t21))) fun t22 =>
 br t22 (
 cal D 102 [t0, (vI t7)] h fun t27 h4 =>
 asI .i64 t27 fun t27a =>
 cal D 102 [t1, (vI t7)] h4 fun t30 h5 =>
 asI .i64 t30 fun t30a =>
 let t31 := wrQ .i64 (addQ t27a t30a)
 let t33 := wrQ .i64 (addQ t31 t6)
 let t36 := Int.tmod t33 (Int.ofNat 65536)
 let t37 := AV.slice (HP.nxQ h5) 0 1 (.exact 1)
 let h6 := HP.newQ h5 (.cells true [(vI t36)])
 eff (.app 1 8 (.c t5) (.c t37)) h6 fun t38 h7 =>
 let t40 := wrapF .i64 (Int.tdiv t33 (Int.ofNat 65536))
 let t24 := wrQ .i64 (addQ t7 (Int.ofNat 1))
 g1 t0 t1 t38 t40 t24 h7) (
 S61_0 D m t5 h)
def S61_1 (D : CallD) (m : Nat) : AV → AV → AV → Int → Int → HP → Res2 := nrec (fun _ _ _ _ _ _ => none) (fun _ g => S61_1b D m g) m
def e61_2 (k t0 t1 h) := kN k [(p0, t0), (p1, t1)] h
def S61_2 (D : CallD) (m : Nat) (t0 t1 : AV) (h : HP) : Res2 :=
 S61_1 D m t0 t1 (.nils : AV) (Int.ofNat 0) (Int.ofNat 0) h
def S61 : SFn := fun D m args h u => nou u <| popV args fun t0 args => popV args fun t1 args => endA args (S61_2 D m t0 t1 h)
theorem T61_0 (hE : FX x61 D m E) : S61_0 D m = e61_0 (E c61_0 []) := by unfold S61_0; rw [hE c61_0]; kernel_rfl
theorem T61_1b (hE : FX x61 D m E) (G1) : S61_1b D m (e61_1 G1) = e61_1 (E c61_1b [.lp v61_1 G1, .blk 0, .sj v61_0 c61_0]) := by unfold S61_1b; rw [T61_0 hE, hE c61_1b]; kernel_rfl
theorem T61_1 (hE : FX x61 D m E) : S61_1 D m = e61_1 (nrec (fun _ => none) (fun _ G1 st => E c61_1b [.lp v61_1 G1, .blk 0, .sj v61_0 c61_0] st) m) :=
  nrec_emb e61_1 (fun _ _ _ _ _ _ => none) (fun g => S61_1b D m g) (fun G1 st => E c61_1b [.lp v61_1 G1, .blk 0, .sj v61_0 c61_0] st) rfl (fun g => T61_1b hE g) m
theorem T61_2 (hE : FX x61 D m E) : S61_2 D m = e61_2 (E c61_e []) := by unfold S61_2; rw [T61_1 hE, hE c61_e]; kernel_rfl
theorem X61 : XTie S61 x61 := X_of fun D m E hE args h u => by unfold S61; rw [T61_2 hE]; kernel_rfl
/- 62 -/
def v62_1 : List Pos := []
def c62_1 : XC := (.sO [.mv p4 (ci 0) tI] (.s .ret))
def v62_2 : List Pos := [p0, p1, p6]
def c62_2b : XC := (.seq (.seq (.oX [.mv p19 q6 tI, .bn p20 .geq q19 (ci 0) .b]) (.cond q20 .skip (.exit 0))) (.seq (.block 1 (.seq (.oX [.mv p23 q0 .v, .mv p24 q6 tI, .cl p25 102 [q23, q24] tI, .mv p26 q1 .v, .mv p27 q6 tI, .cl p28 102 [q26, q27] tI, .mv p7 q25 tI, .mv p8 q28 tI]) (.seq (.seq (.oX [.mv p29 q7 tI, .mv p30 q8 tI, .bn p31 .lss q29 q30 .b]) (.cond q31 (.seq (.oX [.mv p4 (.c (.int .i64 (.negSucc 0))) tI]) .ret) .skip)) (.seq (.oX [.mv p32 q7 tI, .mv p33 q8 tI, .bn p34 .gtr q32 q33 .b]) (.cond q34 (.seq (.oX [.mv p4 (ci 1) tI]) .ret) .skip))))) (.s (.oX [.mv p21 q6 tI, .bn p22 .sub q21 (ci 1) tI, .mv p6 q22 tI]))))
def v62_0 : List Pos := [p0, p1, p5]
def c62_0 : XC := (.sj v62_1 (.sO [.mv p17 q5 tI, .bn p18 .sub q17 (ci 1) tI, .mv p6 q18 tI] (.block 0 (.loop v62_2 c62_2b))) c62_1)
def c62_e : XC := (.sO [.mv p4 (ci 0) tI] (.sO [.mv p9 q0 .v, .P p10 (.lenl q9) tI, .mv p5 q10 tI] (.sj v62_0 (.sO [.mv p11 q1 .v, .P p12 (.lenl q11) tI, .mv p13 q5 tI, .bn p14 .gtr q12 q13 .b] (.cond q14 (.s (.oX [.mv p15 q1 .v, .P p16 (.lenl q15) tI, .mv p5 q16 tI])) (.s .skip))) c62_0)))
def x62 : XFn := ⟨[.v, .v], false, [(.tmp p4)], c62_e⟩
def e62_1 (k h) := kN k [] h
def S62_1 (D : CallD) (m : Nat) (h : HP) : Res2 :=
 some (.ret (vI (Int.ofNat 0)) h, .no)
def e62_2 (k t0 t1 t6 h) := kN k [(p0, t0), (p1, t1), (p6, (vI t6))] h
def S62_2b (D : CallD) (m : Nat) (g2 : AV → AV → Int → HP → Res2) (t0 t1 : AV) (t6 : Int) (h : HP) : Res2 :=
 let t20 := leQ (Int.ofNat 0) t6
 br t20 (
 cal D 102 [t0, (vI t6)] h fun t25 h4 =>
 asI .i64 t25 fun t25a =>
 cal D 102 [t1, (vI t6)] h4 fun t28 h5 =>
 asI .i64 t28 fun t28a =>
 let t31 := ltQ t25a t28a
 br t31 (
 some (.ret (vI (Int.negSucc 0)) h5, .no)) (
 let t34 := ltQ t28a t25a
 br t34 (
 some (.ret (vI (Int.ofNat 1)) h5, .no)) (
 let t22 := wrQ .i64 (t6 - (Int.ofNat 1))
 g2 t0 t1 t22 h5))) (
 S62_1 D m h)
def S62_2 (D : CallD) (m : Nat) : AV → AV → Int → HP → Res2 := nrec (fun _ _ _ _ => none) (fun _ g => S62_2b D m g) m
def e62_0 (k t0 t1 t5 h) := kN k [(p0, t0), (p1, t1), (p5, (vI t5))] h
def S62_0 (D : CallD) (m : Nat) (t0 t1 : AV) (t5 : Int) (h : HP) : Res2 :=
 let t18 := wrQ .i64 (t5 - (Int.ofNat 1))
 S62_2 D m t0 t1 t18 h
def e62_3 (k t0 t1 h) := kN k [(p0, t0), (p1, t1)] h
def S62_3 (D : CallD) (m : Nat) (t0 t1 : AV) (h : HP) : Res2 :=
 lenC t0 fun vt10 => asI .i64 vt10 fun t10 =>
 lenC t1 fun vt12 => asI .i64 vt12 fun t12 =>
 let t14 := ltQ t10 t12
 br t14 (
 lenC t1 fun vt16 => asI .i64 vt16 fun t16 =>
 S62_0 D m t0 t1 t16 h) (
 S62_0 D m t0 t1 t10 h)
def S62 : SFn := fun D m args h u => nou u <| popV args fun t0 args => popV args fun t1 args => endA args (S62_3 D m t0 t1 h)
theorem T62_1 (hE : FX x62 D m E) : S62_1 D m = e62_1 (E c62_1 []) := by unfold S62_1; rw [hE c62_1]; kernel_rfl
theorem T62_2b (hE : FX x62 D m E) (G2) : S62_2b D m (e62_2 G2) = e62_2 (E c62_2b [.lp v62_2 G2, .blk 0, .sj v62_1 c62_1]) := by unfold S62_2b; rw [T62_1 hE, hE c62_2b]; kernel_rfl
theorem T62_2 (hE : FX x62 D m E) : S62_2 D m = e62_2 (nrec (fun _ => none) (fun _ G2 st => E c62_2b [.lp v62_2 G2, .blk 0, .sj v62_1 c62_1] st) m) :=
  nrec_emb e62_2 (fun _ _ _ _ => none) (fun g => S62_2b D m g) (fun G2 st => E c62_2b [.lp v62_2 G2, .blk 0, .sj v62_1 c62_1] st) rfl (fun g => T62_2b hE g) m
theorem T62_0 (hE : FX x62 D m E) : S62_0 D m = e62_0 (E c62_0 []) := by unfold S62_0; rw [T62_2 hE, hE c62_0]; kernel_rfl
theorem T62_3 (hE : FX x62 D m E) : S62_3 D m = e62_3 (E c62_e []) := by unfold S62_3; rw [T62_0 hE, hE c62_e]; kernel_rfl
theorem X62 : XTie S62 x62 := X_of fun D m E hE args h u => by unfold S62; rw [T62_3 hE]; kernel_rfl
/- 63 -/
def v63_0 : List Pos := [p5]
def c63_0 : XC := (.sO [.mv p33 q5 .v, .cl p34 103 [q33] .v, .mv p4 q34 .v] (.s .ret))
def v63_2 : List Pos := [p0, p1, p5, p6, p10, p11]
def c63_2 : XC := (.s (.oX [.bn p32 .add q11 (ci 1) tI, .mv p11 q32 tI]))
def v63_3 : List Pos := [p0, p1, p5, p6, p8, p10, p11]
def c63_3 : XC := (.s (.oX [.mv p28 q5 .v, .mv p29 q8 tI, .al p30 (.bsl [(kI 0)] 1 [⟨0, 1, q29⟩]), .o ⟨(some p31), (.e (.app 1 8 q28 q30)), none, []⟩ .v, .mv p5 q31 .v]))
def v63_1 : List Pos := [p0, p1, p5, p6, p10, p11]
def c63_1b : XC := (.sO [.bn p12 .lss q11 q10 .b] (.seq (.cond q12 .skip (.exit 0)) (.sj v63_2 (.block 1 (.sO [.mv p13 q11 tI, .mv p7 q13 tI] (.seq (.ops true (XL.of [.mv p14 q0 .v, .mv p15 q7 tI, .P p16 (.iaddr (.sl 1) q14 q15) .v, .ld p17 q16 tI, .mv p18 q1 .v, .mv p19 q7 tI, .mv p22 q6 tI, .o ⟨(some p20), (.call (.fn 102) [q18, q19]), none, [⟨none, .cell q16, p17⟩]⟩ tI, .bn p21 .sub q17 q20 tI, .bn p23 .sub q21 q22 tI, .mv p8 q23 tI])) (.sO [.mv p6 (ci 0) tI] (.sj v63_3 (.sO [.mv p24 q8 tI, .bn p25 .lss q24 (ci 0) .b] (.cond q25 (.sO [.mv p26 q8 tI, .bn p27 .add q26 (ci 65536) tI, .mv p8 q27 tI] (.s (.oX [.mv p6 (ci 1) tI]))) (.s .skip))) c63_3))))) c63_2)))
def c63_e : XC := (.sO [.mv p4 (.c .nils) .v] (.sO [.mv p5 (.c .nils) .v] (.sO [.mv p6 (ci 0) tI] (.sj v63_0 (.sO [.mv p9 q0 .v, .P p10 (.lenl q9) tI, .mv p11 (ci 0) tI] (.block 0 (.loop v63_1 c63_1b))) c63_0))))
def x63 : XFn := ⟨[.v, .v], false, [(.tmp p4)], c63_e⟩
def e63_0 (k t5 h) := kN k [(p5, t5)] h
def S63_0 (D : CallD) (m : Nat) (t5 : AV) (h : HP) : Res2 :=
 cal D 103 [t5] h fun t34 h5 =>
 some (.ret t34 h5, .no)
def e63_2 (k t0 t1 t5 t6 t10 t11 h) := kN k [(p0, t0), (p1, t1), (p5, t5), (p6, (vI t6)), (p10, (vI t10)), (p11, (vI t11))] h
def S63_2 (D : CallD) (m : Nat) (g1 : AV → AV → AV → Int → Int → Int → HP → Res2) (t0 t1 t5 : AV) (t6 t10 t11 : Int) (h : HP) : Res2 :=
 let t32 := wrQ .i64 (addQ t11 (Int.ofNat 1))
 g1 t0 t1 t5 t6 t10 t32 h
def e63_3 (k t0 t1 t5 t6 t8 t10 t11 h) := kN k [(p0, t0), (p1, t1), (p5, t5), (p6, (vI t6)), (p8, (vI t8)), (p10, (vI t10)), (p11, (vI t11))] h
def S63_3 (D : CallD) (m : Nat) (g1 : AV → AV → AV → Int → Int → Int → HP → Res2) (t0 t1 t5 : AV) (t6 t8 t10 t11 : Int) (h : HP) : Res2 :=
 let t30 := AV.slice (HP.nxQ h) 0 1 (.exact 1)
 let h7 := HP.newQ h (.cells true [(vI t8)])
 eff (.app 1 8 (.c t5) (.c t30)) h7 fun t31 h8 =>
 S63_2 D m g1 t0 t1 t31 t6 t10 t11 h8
def e63_1 (k t0 t1 t5 t6 t10 t11 h) := kN k [(p0, t0), (p1, t1), (p5, t5), (p6, (vI t6)), (p10, (vI t10)), (p11, (vI t11))] h
def S63_1b (D : CallD) (m : Nat) (g1 : AV → AV → AV → Int → Int → Int → HP → Res2) (t0 t1 t5 : AV) (t6 t10 t11 : Int) (h : HP) : Res2 :=
 let t12 := ltQ t11 t10
 br t12 (
 iasC 1 t0 (vI t11) fun t16 =>
 ldI t16 h fun t17 =>
 cal D 102 [t1, (vI t11)] h fun t20 h6 =>
 br (again [⟨none, .cell q16, p17⟩] (mkT [(p17, (vI t17)), (p16, t16)]) h6) (
 asI .i64 t20 fun t20a =>
 let t21 := wrQ .i64 (t17 - t20a)
 let t23 := wrQ .i64 (t21 - t6)
 let t25 := ltQ t23 (Int.ofNat 0)
 br t25 (
 let t27 := wrQ .i64 (addQ t23 (Int.ofNat 65536))
 S63_3 D m g1 t0 t1 t5 (Int.ofNat 1) t27 t10 t11 h6) (
 S63_3 D m g1 t0 t1 t5 (Int.ofNat 0) t23 t10 t11 h6)) none) (
 S63_0 D m t5 h)
def S63_1 (D : CallD) (m : Nat) : AV → AV → AV → Int → Int → Int → HP → Res2 := nrec (fun _ _ _ _ _ _ _ => none) (fun _ g => S63_1b D m g) m
def e63_4 (k t0 t1 h) := kN k [(p0, t0), (p1, t1)] h
def S63_4 (D : CallD) (m : Nat) (t0 t1 : AV) (h : HP) : Res2 :=
 lenC t0 fun vt10 => asI .i64 vt10 fun t10 =>
 S63_1 D m t0 t1 (.nils : AV) (Int.ofNat 0) t10 (Int.ofNat 0) h
def S63 : SFn := fun D m args h u => nou u <| popV args fun t0 args => popV args fun t1 args => endA args (S63_4 D m t0 t1 h)
theorem T63_0 (hE : FX x63 D m E) : S63_0 D m = e63_0 (E c63_0 []) := by unfold S63_0; rw [hE c63_0]; kernel_rfl
theorem T63_2 (hE : FX x63 D m E) (G1) : S63_2 D m (e63_1 G1) = e63_2 (E c63_2 [.lp v63_1 G1, .blk 0, .sj v63_0 c63_0]) := by unfold S63_2; rw [hE c63_2]; kernel_rfl
theorem T63_3 (hE : FX x63 D m E) (G1) : S63_3 D m (e63_1 G1) = e63_3 (E c63_3 [.blk 1, .sj v63_2 c63_2, .lp v63_1 G1, .blk 0, .sj v63_0 c63_0]) := by unfold S63_3; rw [T63_2 hE G1, hE c63_3]; kernel_rfl
theorem T63_1b (hE : FX x63 D m E) (G1) : S63_1b D m (e63_1 G1) = e63_1 (E c63_1b [.lp v63_1 G1, .blk 0, .sj v63_0 c63_0]) := by unfold S63_1b; rw [T63_3 hE G1, T63_0 hE, hE c63_1b]; kernel_rfl
theorem T63_1 (hE : FX x63 D m E) : S63_1 D m = e63_1 (nrec (fun _ => none) (fun _ G1 st => E c63_1b [.lp v63_1 G1, .blk 0, .sj v63_0 c63_0] st) m) :=
  nrec_emb e63_1 (fun _ _ _ _ _ _ _ => none) (fun g => S63_1b D m g) (fun G1 st => E c63_1b [.lp v63_1 G1, .blk 0, .sj v63_0 c63_0] st) rfl (fun g => T63_1b hE g) m
theorem T63_4 (hE : FX x63 D m E) : S63_4 D m = e63_4 (E c63_e []) := by unfold S63_4; rw [T63_1 hE, hE c63_e]; kernel_rfl
theorem X63 : XTie S63 x63 := X_of fun D m E hE args h u => by unfold S63; rw [T63_4 hE]; kernel_rfl
/- 64 -/
def v64_0 : List Pos := [p3]
def c64_0 : XC := (.sO [.mv p24 q3 tI, .mv p2 q24 tI] (.s .ret))
def v64_1 : List Pos := [p3, p4]
def c64_1b : XC := (.seq (.seq (.oX [.mv p18 q4 tI, .bn p19 .gtr q18 (ci 0) .b]) (.cond q19 .skip (.exit 0))) (.seq (.block 1 (.oX [.mv p22 q3 tI, .bn p23 .add q22 (ci 1) tI, .mv p3 q23 tI])) (.s (.oX [.mv p20 q4 tI, .bn p21 .quo q20 (ci 2) tI, .mv p4 q21 tI]))))
def c64_e : XC := (.sO [.mv p2 (ci 0) tI] (.seq (.seq (.oX [.mv p5 q0 .v, .P p6 (.lenl q5) tI, .bn p7 .eql q6 (ci 0) .b]) (.cond q7 (.seq (.oX [.mv p2 (ci 0) tI]) .ret) .skip)) (.sO [.mv p8 q0 .v, .P p9 (.lenl q8) tI, .bn p10 .sub q9 (ci 1) tI, .bn p11 .mul (ci 16) q10 tI, .mv p3 q11 tI] (.sj v64_0 (.sO [.mv p12 q0 .v, .mv p13 q0 .v, .P p14 (.lenl q13) tI, .bn p15 .sub q14 (ci 1) tI, .P p16 (.iaddr (.sl 1) q12 q15) .v, .ld p17 q16 tI, .mv p4 q17 tI] (.block 0 (.loop v64_1 c64_1b))) c64_0))))
def x64 : XFn := ⟨[.v], false, [(.tmp p2)], c64_e⟩
def e64_0 (k t3 h) := kN k [(p3, (vI t3))] h
def S64_0 (D : CallD) (m : Nat) (t3 : Int) (h : HP) : Res2 :=
 some (.ret (vI t3) h, .no)
def e64_1 (k t3 t4 h) := kN k [(p3, (vI t3)), (p4, (vI t4))] h
def S64_1b (D : CallD) (m : Nat) (g1 : Int → Int → HP → Res2) (t3 t4 : Int) (h : HP) : Res2 :=
 let t19 := ltQ (Int.ofNat 0) t4
 br t19 (
 let t23 := wrQ .i64 (addQ t3 (Int.ofNat 1))
 let t21 := wrapF .i64 (Int.tdiv t4 (Int.ofNat 2))
 g1 t23 t21 h) (
 S64_0 D m t3 h)
def S64_1 (D : CallD) (m : Nat) : Int → Int → HP → Res2 := nrec (fun _ _ _ => none) (fun _ g => S64_1b D m g) m
def e64_2 (k t0 h) := kN k [(p0, t0)] h
def S64_2 (D : CallD) (m : Nat) (t0 : AV) (h : HP) : Res2 :=
 lenC t0 fun vt6 => asI .i64 vt6 fun t6 =>
 let t7 := eqQ t6 (Int.ofNat 0)
 br t7 (
 some (.ret (vI (Int.ofNat 0)) h, .no)) (
 lenC t0 fun vt9 => asI .i64 vt9 fun t9 =>
 let t10 := wrQ .i64 (t9 - (Int.ofNat 1))
 let t11 := wrQ .i64 ((Int.ofNat 16) * t10)
 lenC t0 fun vt14 => asI .i64 vt14 fun t14 =>
 let t15 := wrQ .i64 (t14 - (Int.ofNat 1))
 iasC 1 t0 (vI t15) fun t16 =>
 ldI t16 h fun t17 =>
 S64_1 D m t11 t17 h)
def S64 : SFn := fun D m args h u => nou u <| popV args fun t0 args => endA args (S64_2 D m t0 h)
theorem T64_0 (hE : FX x64 D m E) : S64_0 D m = e64_0 (E c64_0 []) := by unfold S64_0; rw [hE c64_0]; kernel_rfl
theorem T64_1b (hE : FX x64 D m E) (G1) : S64_1b D m (e64_1 G1) = e64_1 (E c64_1b [.lp v64_1 G1, .blk 0, .sj v64_0 c64_0]) := by unfold S64_1b; rw [T64_0 hE, hE c64_1b]; kernel_rfl
theorem T64_1 (hE : FX x64 D m E) : S64_1 D m = e64_1 (nrec (fun _ => none) (fun _ G1 st => E c64_1b [.lp v64_1 G1, .blk 0, .sj v64_0 c64_0] st) m) :=
  nrec_emb e64_1 (fun _ _ _ => none) (fun g => S64_1b D m g) (fun G1 st => E c64_1b [.lp v64_1 G1, .blk 0, .sj v64_0 c64_0] st) rfl (fun g => T64_1b hE g) m
theorem T64_2 (hE : FX x64 D m E) : S64_2 D m = e64_2 (E c64_e []) := by unfold S64_2; rw [T64_1 hE, hE c64_e]; kernel_rfl
theorem X64 : XTie S64 x64 := X_of fun D m E hE args h u => by unfold S64; rw [T64_2 hE]; kernel_rfl
/- 65 -/
def v65_0 : List Pos := [p0, p6]
def c65_0 : XC := (.sO [.mv p27 q6 tI, .mv p28 q0 .v, .mv p4 q27 tI, .mv p5 q28 .v] (.s .ret))
def v65_2 : List Pos := [p0, p6, p7, p8]
def c65_2 : XC := (.sO [.mv p23 q8 .v, .cl p24 104 [q23] .v, .mv p8 q24 .v] (.s (.oX [.mv p25 q7 tI, .bn p26 .quo q25 (ci 2) tI, .mv p7 q26 tI])))
def v65_1 : List Pos := [p0, p6, p7, p8]
def c65_1b : XC := (.seq (.seq (.oX [.mv p11 q7 tI, .bn p12 .gtr q11 (ci 0) .b]) (.cond q12 .skip (.exit 0))) (.block 1 (.sj v65_2 (.sO [.mv p13 q0 .v, .mv p14 q8 .v, .cl p15 62 [q13, q14] tI, .bn p16 .geq q15 (ci 0) .b] (.cond q16 (.sO [.mv p17 q0 .v, .mv p18 q8 .v, .cl p19 63 [q17, q18] .v, .mv p0 q19 .v] (.s (.oX [.mv p20 q6 tI, .mv p21 q7 tI, .bn p22 .add q20 q21 tI, .mv p6 q22 tI]))) (.s .skip))) c65_2)))
def c65_e : XC := (.sO [.mv p4 (ci 0) tI, .mv p5 (.c .nils) .v] (.sO [.mv p6 (ci 0) tI, .mv p7 (ci 72057594037927936) tI] (.sO [.mv p9 q1 .v, .cl p10 60 [q9, (ci 56)] .v, .mv p8 q10 .v] (.sj v65_0 (.block 0 (.loop v65_1 c65_1b)) c65_0))))
def x65 : XFn := ⟨[.v, .v], false, [(.tmp p4), (.tmp p5)], c65_e⟩
def e65_0 (k t0 t6 h) := kN k [(p0, t0), (p6, (vI t6))] h
def S65_0 (D : CallD) (m : Nat) (t0 : AV) (t6 : Int) (h : HP) : Res2 :=
 some (.ret (.tup [(vI t6), t0]) h, .no)
def e65_2 (k t0 t6 t7 t8 h) := kN k [(p0, t0), (p6, (vI t6)), (p7, (vI t7)), (p8, t8)] h
def S65_2 (D : CallD) (m : Nat) (g1 : AV → Int → Int → AV → HP → Res2) (t0 : AV) (t6 t7 : Int) (t8 : AV) (h : HP) : Res2 :=
 cal D 104 [t8] h fun t24 h5 =>
 let t26 := wrapF .i64 (Int.tdiv t7 (Int.ofNat 2))
 g1 t0 t6 t26 t24 h5
def e65_1 (k t0 t6 t7 t8 h) := kN k [(p0, t0), (p6, (vI t6)), (p7, (vI t7)), (p8, t8)] h
def S65_1b (D : CallD) (m : Nat) (g1 : AV → Int → Int → AV → HP → Res2) (t0 : AV) (t6 t7 : Int) (t8 : AV) (h : HP) : Res2 :=
 let t12 := ltQ (Int.ofNat 0) t7
 br t12 (
 cal D 62 [t0, t8] h fun t15 h6 =>
 asI .i64 t15 fun t15a =>
 let t16 := leQ (Int.ofNat 0) t15a
 br t16 (
 cal D 63 [t0, t8] h6 fun t19 h7 =>
 let t22 := wrQ .i64 (addQ t6 t7)
 S65_2 D m g1 t19 t22 t7 t8 h7) (
 S65_2 D m g1 t0 t6 t7 t8 h6)) (
 S65_0 D m t0 t6 h)
def S65_1 (D : CallD) (m : Nat) : AV → Int → Int → AV → HP → Res2 := nrec (fun _ _ _ _ _ => none) (fun _ g => S65_1b D m g) m
def e65_3 (k t0 t1 h) := kN k [(p0, t0), (p1, t1)] h
def S65_3 (D : CallD) (m : Nat) (t0 t1 : AV) (h : HP) : Res2 :=
 cal D 60 [t1, (vI (Int.ofNat 56))] h fun t10 h4 =>
 S65_1 D m t0 (Int.ofNat 0) (Int.ofNat 72057594037927936) t10 h4
def S65 : SFn := fun D m args h u => nou u <| popV args fun t0 args => popV args fun t1 args => endA args (S65_3 D m t0 t1 h)
theorem T65_0 (hE : FX x65 D m E) : S65_0 D m = e65_0 (E c65_0 []) := by unfold S65_0; rw [hE c65_0]; kernel_rfl
theorem T65_2 (hE : FX x65 D m E) (G1) : S65_2 D m (e65_1 G1) = e65_2 (E c65_2 [.blk 1, .lp v65_1 G1, .blk 0, .sj v65_0 c65_0]) := by unfold S65_2; rw [hE c65_2]; kernel_rfl
theorem T65_1b (hE : FX x65 D m E) (G1) : S65_1b D m (e65_1 G1) = e65_1 (E c65_1b [.lp v65_1 G1, .blk 0, .sj v65_0 c65_0]) := by unfold S65_1b; rw [T65_2 hE G1, T65_0 hE, hE c65_1b]; kernel_rfl
theorem T65_1 (hE : FX x65 D m E) : S65_1 D m = e65_1 (nrec (fun _ => none) (fun _ G1 st => E c65_1b [.lp v65_1 G1, .blk 0, .sj v65_0 c65_0] st) m) :=
  nrec_emb e65_1 (fun _ _ _ _ _ => none) (fun g => S65_1b D m g) (fun G1 st => E c65_1b [.lp v65_1 G1, .blk 0, .sj v65_0 c65_0] st) rfl (fun g => T65_1b hE g) m
theorem T65_3 (hE : FX x65 D m E) : S65_3 D m = e65_3 (E c65_e []) := by unfold S65_3; rw [T65_1 hE, hE c65_e]; kernel_rfl
theorem X65 : XTie S65 x65 := X_of fun D m E hE args h u => by unfold S65; rw [T65_3 hE]; kernel_rfl
/- 66 -/
def v66_0 : List Pos := [p5]
def c66_0 : XC := (.sO [.mv p33 q5 .v, .cl p34 103 [q33] .v, .mv p4 q34 .v] (.s .ret))
def v66_1 : List Pos := [p0, p1, p5, p6, p7]
def c66_1b : XC := (.seq (.seq (.oX [.mv p9 q7 tI, .mv p10 q0 .v, .P p11 (.lenl q10) tI, .bn p12 .lss q9 q11 .b, .mv p13 q12 .b, .ge p13 (XL.of [.G p13 false p14 (.mov q6) tI, .G p13 false p15 (.bin .gtr q14 (ci 0)) .b, .P p16 (.pick q13 (cb true) q15) .b]) p16 .b]) (.cond q16 .skip (.exit 0))) (.seq (.block 1 (.seq (.oX [.mv p19 q0 .v, .mv p20 q7 tI, .cl p21 102 [q19, q20] tI, .mv p22 q1 tI, .bn p23 .mul q21 q22 tI, .mv p24 q6 tI, .bn p25 .add q23 q24 tI, .mv p8 q25 tI]) (.seq (.oX [.mv p26 q5 .v, .mv p27 q8 tI, .bn p28 .rem q27 (ci 65536) tI, .al p29 (.bsl [(kI 0)] 1 [⟨0, 1, q28⟩]), .o ⟨(some p30), (.e (.app 1 8 q26 q29)), none, []⟩ .v, .mv p5 q30 .v]) (.oX [.mv p31 q8 tI, .bn p32 .quo q31 (ci 65536) tI, .mv p6 q32 tI])))) (.s (.oX [.mv p17 q7 tI, .bn p18 .add q17 (ci 1) tI, .mv p7 q18 tI]))))
def c66_e : XC := (.sO [.mv p4 (.c .nils) .v] (.sO [.mv p5 (.c .nils) .v] (.sO [.mv p6 (ci 0) tI] (.sj v66_0 (.sO [.mv p7 (ci 0) tI] (.block 0 (.loop v66_1 c66_1b))) c66_0))))
def x66 : XFn := ⟨[.v, tI], false, [(.tmp p4)], c66_e⟩
def e66_0 (k t5 h) := kN k [(p5, t5)] h
def S66_0 (D : CallD) (m : Nat) (t5 : AV) (h : HP) : Res2 :=
 cal D 103 [t5] h fun t34 h3 =>
 some (.ret t34 h3, .no)
def e66_1 (k t0 t1 t5 t6 t7 h) := kN k [(p0, t0), (p1, (vI t1)), (p5, t5), (p6, (vI t6)), (p7, (vI t7))] h
def S66_1b (D : CallD) (m : Nat) (g1 : AV → Int → AV → Int → Int → HP → Res2) (t0 : AV) (t1 : Int) (t5 : AV) (t6 t7 : Int) (h : HP) : Res2 :=
 lenC t0 fun vt11 => asI .i64 vt11 fun t11 =>
 let t12 := ltQ t7 t11
 obB (brV t12 (
 some (vB true)) (
 let t15 := ltQ (Int.ofNat 0) t6
 some (vB t15))) fun t16 =>
 br t16 (
 cal D 102 [t0, (vI t7)] h fun t21 h4 =>
 asI .i64 t21 fun t21a =>
 let t23 := wrQ .i64 (t21a * t1)
 let t25 := wrQ .i64 (addQ t23 t6)
 let t28 := Int.tmod t25 (Int.ofNat 65536)
 let t29 := AV.slice (HP.nxQ h4) 0 1 (.exact 1)
 let h5 := HP.newQ h4 (.cells true [(vI t28)])
 eff (.app 1 8 (.c t5) (.c t29)) h5 fun t30 h6 =>
 let t32 := wrapF .i64 (Int.tdiv t25 (Int.ofNat 65536))
 let t18 := wrQ .i64 (addQ t7 (Int.ofNat 1))
 g1 t0 t1 t30 t32 t18 h6) (
 S66_0 D m t5 h)
def S66_1 (D : CallD) (m : Nat) : AV → Int → AV → Int → Int → HP → Res2 := nrec (fun _ _ _ _ _ _ => none) (fun _ g => S66_1b D m g) m
def e66_2 (k t0 t1 h) := kN k [(p0, t0), (p1, (vI t1))] h
def S66_2 (D : CallD) (m : Nat) (t0 : AV) (t1 : Int) (h : HP) : Res2 :=
 S66_1 D m t0 t1 (.nils : AV) (Int.ofNat 0) (Int.ofNat 0) h
def S66 : SFn := fun D m args h u => nou u <| popV args fun t0 args => popI .i64 args fun t1 args => endA args (S66_2 D m t0 t1 h)
theorem T66_0 (hE : FX x66 D m E) : S66_0 D m = e66_0 (E c66_0 []) := by unfold S66_0; rw [hE c66_0]; kernel_rfl
theorem T66_1b (hE : FX x66 D m E) (G1) : S66_1b D m (e66_1 G1) = e66_1 (E c66_1b [.lp v66_1 G1, .blk 0, .sj v66_0 c66_0]) := by unfold S66_1b; rw [T66_0 hE, hE c66_1b]; kernel_rfl
theorem T66_1 (hE : FX x66 D m E) : S66_1 D m = e66_1 (nrec (fun _ => none) (fun _ G1 st => E c66_1b [.lp v66_1 G1, .blk 0, .sj v66_0 c66_0] st) m) :=
  nrec_emb e66_1 (fun _ _ _ _ _ _ => none) (fun g => S66_1b D m g) (fun G1 st => E c66_1b [.lp v66_1 G1, .blk 0, .sj v66_0 c66_0] st) rfl (fun g => T66_1b hE g) m
theorem T66_2 (hE : FX x66 D m E) : S66_2 D m = e66_2 (E c66_e []) := by unfold S66_2; rw [T66_1 hE, hE c66_e]; kernel_rfl
theorem X66 : XTie S66 x66 := X_of fun D m E hE args h u => by unfold S66; rw [T66_2 hE]; kernel_rfl
/- 81 -/
def v81_0 : List Pos := [p0, p5, p6]
def c81_0b : XC := (.block 1 (.sO [.mv p7 (cb true) .b] (.sO [.mv p14 q0 .s, .mv p15 q6 tI, .cl p16 115 [q14, q15] .v, .mv p13 q16 .v, .P p17 (.ext q13 0) tI, .P p18 (.ext q13 1) .b, .mv p6 q17 tI, .mv p7 q18 .b] (.seq (.seq (.oX [.mv p19 q7 .b, .P p20 (.un .not q19) .b]) (.cond q20 (.seq (.oX [.mv p21 q6 tI, .mv p2 (.c .nils) .v, .mv p3 q21 tI, .mv p4 (ci 10) tI]) .ret) .skip)) (.seq (.seq (.oX [.mv p22 q6 tI, .mv p23 q0 .s, .P p24 (.lens q23) tI, .bn p25 .eql q22 q24 .b]) (.cond q25 (.seq (.oX [.mv p26 q5 .v, .mv p27 q6 tI, .P p28 (.build [(kI 0), (.str []), (kI 0)] [⟨2, 1, q27⟩]) .v, .al p29 (.bsl [(kI 0), (.str []), (kI 0)] 1 [⟨0, 3, q28⟩]), .o ⟨(some p30), (.e (.app 3 32 q26 q29)), none, []⟩ .v, .mv p2 q30 .v, .mv p3 (ci 0) tI, .mv p4 (ci 0) tI]) .ret) .skip)) (.sO [.mv p32 q0 .s, .mv p33 q6 tI, .cl p34 116 [q32, q33] .v, .mv p31 q34 .v, .P p35 (.ext q31 0) .v, .P p36 (.ext q31 1) tI, .al p8 (.new [(kI 0), (.str []), (kI 0)]), .ss 3 q8 q35, .mv p9 q36 tI] (.seq (.seq (.oX [.mv p37 q9 tI, .bn p38 .eql q37 (ci 0) .b]) (.cond q38 (.seq (.oX [.mv p39 q6 tI, .mv p2 (.c .nils) .v, .mv p3 q39 tI, .mv p4 (ci 10) tI]) .ret) .skip)) (.seq (.seq (.oX [.mv p40 q5 .v, .P p41 (.lenl q40) tI, .bn p42 .geq q41 (ci 2500) .b]) (.cond q42 (.seq (.oX [.mv p43 q6 tI, .mv p2 (.c .nils) .v, .mv p3 q43 tI, .mv p4 (ci 5) tI]) .ret) .skip)) (.sO [.mv p44 q5 .v, .L p45 (.cells 3 q8) .v, .al p46 (.bsl [(kI 0), (.str []), (kI 0)] 1 [⟨0, 3, q45⟩]), .o ⟨(some p47), (.e (.app 3 32 q44 q46)), none, []⟩ .v, .mv p5 q47 .v] (.s (.oX [.mv p48 q9 tI, .mv p6 q48 tI])))))))))))
def c81_e : XC := (.sO [.mv p2 (.c .nils) .v, .mv p3 (ci 0) tI, .mv p4 (ci 0) tI] (.seq (.seq (.oX [.mv p10 q0 .s, .P p11 (.lens q10) tI, .bn p12 .gtr q11 (ci 8192) .b]) (.cond q12 (.seq (.oX [.mv p2 (.c .nils) .v, .mv p3 (ci 0) tI, .mv p4 (ci 6) tI]) .ret) .skip)) (.sO [.mv p5 (.c .nils) .v] (.sO [.mv p6 (ci 0) tI] (.block 0 (.loop v81_0 c81_0b))))))
def x81 : XFn := ⟨[.s], false, [(.tmp p2), (.tmp p3), (.tmp p4)], c81_e⟩
def e81_0 (k t0 t5 t6 h) := kN k [(p0, (vS t0)), (p5, t5), (p6, (vI t6))] h
def S81_0b (D : CallD) (m : Nat) (g0 : LN → AV → Int → HP → Res2) (t0 : LN) (t5 : AV) (t6 : Int) (h : HP) : Res2 :=
 cal D 115 [(vS t0), (vI t6)] h fun t16 h2 =>
 extC t16 0 fun vt17 => asI .i64 vt17 fun t17 =>
 extC t16 1 fun vt18 => asB vt18 fun t18 =>
 let t20 := !t18
 br t20 (
 some (.ret (.tup [(.nils : AV), (vI t17), (vI (Int.ofNat 10))]) h2, .no)) (
 let t24 := Int.ofNat (lenL t0)
 let t25 := eqQ t17 t24
 br t25 (
 let t28 := (AV.agg [(vI (Int.ofNat 0)), (vS ([] : LN)), (vI t17)])
 let t29 := AV.slice (HP.nxQ h2) 0 1 (.exact 1)
 let h3 := HP.newQ h2 (.cells true [(vI (Int.ofNat 0)), (vS ([] : LN)), (vI t17)])
 eff (.app 3 32 (.c t5) (.c t29)) h3 fun t30 h4 =>
 some (.ret (.tup [t30, (vI (Int.ofNat 0)), (vI (Int.ofNat 0))]) h4, .no)) (
 cal D 116 [(vS t0), (vI t17)] h2 fun t34 h5 =>
 extC t34 0 fun t35 =>
 extC t34 1 fun vt36 => asI .i64 vt36 fun t36 =>
 let t8 := AV.ptr (HP.nxQ h5) 0
 let h6 := HP.newQ h5 (.cells true [(kI 0), (.str []), (kI 0)])
 stsC 3 t8 t35 h6 fun h7 =>
 let t38 := eqQ t36 (Int.ofNat 0)
 br t38 (
 some (.ret (.tup [(.nils : AV), (vI t17), (vI (Int.ofNat 10))]) h7, .no)) (
 lenC t5 fun vt41 => asI .i64 vt41 fun t41 =>
 let t42 := leQ (Int.ofNat 2500) t41
 br t42 (
 some (.ret (.tup [(.nils : AV), (vI t17), (vI (Int.ofNat 5))]) h7, .no)) (
 cellsC 3 t8 h7 fun t45 =>
 obQ (evA (.bsl [(kI 0), (.str []), (kI 0)] 1 [⟨0, 3, (.c t45)⟩]) .leaf) fun r8 =>
 let t46 := vkV r8.2 (HP.nxQ h7)
 let h9 := HP.newQ h7 r8.1
 eff (.app 3 32 (.c t5) (.c t46)) h9 fun t47 h10 =>
 g0 t0 t47 t36 h10))))
def S81_0 (D : CallD) (m : Nat) : LN → AV → Int → HP → Res2 := nrec (fun _ _ _ _ => none) (fun _ g => S81_0b D m g) m
def e81_1 (k t0 h) := kN k [(p0, (vS t0))] h
def S81_1 (D : CallD) (m : Nat) (t0 : LN) (h : HP) : Res2 :=
 let t11 := Int.ofNat (lenL t0)
 let t12 := ltQ (Int.ofNat 8192) t11
 br t12 (
 some (.ret (.tup [(.nils : AV), (vI (Int.ofNat 0)), (vI (Int.ofNat 6))]) h, .no)) (
 S81_0 D m t0 (.nils : AV) (Int.ofNat 0) h)
def S81 : SFn := fun D m args h u => nou u <| popS args fun t0 args => endA args (S81_1 D m t0 h)
theorem T81_0b (hE : FX x81 D m E) (G0) : S81_0b D m (e81_0 G0) = e81_0 (E c81_0b [.lp v81_0 G0, .blk 0]) := by unfold S81_0b; rw [hE c81_0b]; kernel_rfl
theorem T81_0 (hE : FX x81 D m E) : S81_0 D m = e81_0 (nrec (fun _ => none) (fun _ G0 st => E c81_0b [.lp v81_0 G0, .blk 0] st) m) :=
  nrec_emb e81_0 (fun _ _ _ _ => none) (fun g => S81_0b D m g) (fun G0 st => E c81_0b [.lp v81_0 G0, .blk 0] st) rfl (fun g => T81_0b hE g) m
theorem T81_1 (hE : FX x81 D m E) : S81_1 D m = e81_1 (E c81_e []) := by unfold S81_1; rw [T81_0 hE, hE c81_e]; kernel_rfl
theorem X81 : XTie S81 x81 := X_of fun D m E hE args h u => by unfold S81; rw [T81_1 hE]; kernel_rfl
/- 82 -/
def c82_e : XC := (.sO [.al p1 (.box q0), .al p2 (.new [(kI 0), (.str []), (kI 0)])] (.sO [.fa p3 0 q1, .ld p4 q3 .v, .fa p5 1 q1, .ld p6 q5 tI, .P p7 (.iaddr (.sl 3) q4 q6) .v, .L p8 (.cells 3 q7) .v, .ss 3 q2 q8] (.s .ret)))
def x82 : XFn := ⟨[.v], false, [(.cells 3 p2)], c82_e⟩
def e82_0 (k t0 h) := kN k [(p0, t0)] h
def S82_0 (D : CallD) (m : Nat) (t0 : AV) (h : HP) : Res2 :=
 let t1 := AV.ptr (HP.nxQ h) 0
 let h1 := HP.newQ h (.cells true (AV.cells t0))
 let t2 := AV.ptr (HP.nxQ h1) 0
 let h2 := HP.newQ h1 (.cells true [(kI 0), (.str []), (kI 0)])
 let t3 := (AV.ptr (HP.nxQ h) (Nat.add 0 0))
 cellC t3 h2 fun t4 =>
 let t5 := (AV.ptr (HP.nxQ h) (Nat.add 0 1))
 ldI t5 h2 fun t6 =>
 iasC 3 t4 (vI t6) fun t7 =>
 cellsC 3 t7 h2 fun t8 =>
 stsC 3 t2 t8 h2 fun h3 =>
 cellsC 3 t2 h3 fun t2a =>
 some (.ret t2a h3, .no)
def S82 : SFn := fun D m args h u => nou u <| popV args fun t0 args => endA args (S82_0 D m t0 h)
theorem T82_0 (hE : FX x82 D m E) : S82_0 D m = e82_0 (E c82_e []) := by unfold S82_0; rw [hE c82_e]; kernel_rfl
theorem X82 : XTie S82 x82 := X_of fun D m E hE args h u => by unfold S82; rw [T82_0 hE]; kernel_rfl
/- 83 -/
def v83_1 : List Pos := [p1, p2, p3, p4]
def c83_1 : XC := (.seq (.ops true (XL.of [.L p109 (.cells 5 q1) .v, .L p111 (.cells 17 q4) .v, .o ⟨(some p110), (.call (.fn 123) [q109, (.c (.str [59]))]), none, [⟨none, .cells 17 q4, p111⟩]⟩ .v, .o ⟨none, (.e (.stores 5 q2 q110)), none, [⟨none, .cells 17 q4, p111⟩]⟩ .v, .ss 17 q3 q111])) (.s .ret))
def v83_3 : List Pos := [p1, p2, p3, p4]
def c83_3 : XC := (.sO [.fa p104 5 q4, .ld p105 q104 tI, .bn p106 .gtr q105 (ci 0) .b] (.cond q106 (.s (.oX [.L p107 (.cells 5 q1) .v, .cl p108 123 [q107, (.c (.str [125]))] .v, .ss 5 q1 q108])) (.s .skip)))
def c83_6 : XC := (.sO [.mv p101 q5 .b] (.cond q101 (.s (.oX [.L p102 (.cells 5 q1) .v, .cl p103 118 [q102] .v, .ss 5 q1 q103])) (.s .skip)))
def l83_5 : XL := (XL.of [.mv p5 q100 .b])
def v83_4 : List Pos := [p1, p2, p3, p4, p5]
def c83_4b : XC := (.seq (.seq (.oX [.mv p76 q5 .b, .mv p77 q76 .b, .ge p77 (XL.of [.G p77 true p78 (.faddr 3 q1) .v, .o ⟨(some p79), (.l (.cell q78)), (some (p77, true)), []⟩ tI, .G p77 true p80 (.bin .eql q79 (ci 0)) .b, .P p81 (.pick q77 q80 (cb false)) .b]) p81 .b]) (.cond q81 .skip (.exit 0))) (.block 1 (.sO [.P p82 (.build [(kI 0), (.str []), (.str []), (.int .u32 (.ofNat 0)), (.int .u64 (.ofNat 0)), .nils, (kI 0), (kI 0)] []) .v, .al p6 (.new [(kI 0), (.str []), (.str []), (.int .u32 (.ofNat 0)), (.int .u64 (.ofNat 0)), .nils, (kI 0), (kI 0)]), .ss 8 q6 q82] (.sO [.L p84 (.cells 5 q1) .v, .cl p85 125 [q84] .v, .mv p83 q85 .v, .P p86 (.ext q83 0) .v, .P p87 (.ext q83 1) .v, .ss 5 q1 q86, .ss 8 q6 q87] (.sO [.fa p88 6 q4, .ld p89 q88 .v, .L p90 (.cells 8 q6) .v, .al p91 (.bsl [(kI 0), (.str []), (.str []), (.int .u32 (.ofNat 0)), (.int .u64 (.ofNat 0)), .nils, (kI 0), (kI 0)] 1 [⟨0, 8, q90⟩]), .o ⟨(some p92), (.e (.app 8 96 q89 q91)), none, []⟩ .v, .fa p93 6 q4, .st q93 q92] (.opq false (XL.pre [.fa p94 5 q4, .ld p95 q94 tI, .bn p96 .gtr q95 (ci 0) .b, .mv p97 q96 .b, .sp p97, .o ⟨(some p98), (.l (.cells 5 q1)), (some (p97, true)), []⟩ .v, .o ⟨(some p99), (.call (.fn 117) [q98, (.c (.str [44]))]), (some (p97, true)), []⟩ .b, .P p100 (.pick q97 q99 (cb false)) .b, .jn p97 [p1, p2, p3, p4, p100]] l83_5) c83_6))))))
def v83_2 : List Pos := [p1, p2, p3, p4]
def c83_2 : XC := (.sj v83_3 (.sO [.mv p5 (cb true) .b] (.block 0 (.loop v83_4 c83_4b))) c83_3)
def v83_0 : List Pos := [p1, p2, p3, p4]
def c83_0 : XC := (.sO [.L p20 (.cells 5 q1) .v, .cl p21 82 [q20] .v, .P p22 (.field 2 1 false q21) tI, .fa p23 16 q4, .st q23 q22] (.sO [.L p25 (.cells 5 q1) .v, .cl p26 119 [q25] .v, .mv p24 q26 .v, .P p27 (.ext q24 0) .v, .P p28 (.ext q24 1) tI, .ss 5 q1 q27, .fa p29 4 q4, .st q29 q28] (.sO [.L p31 (.cells 5 q1) .v, .cl p32 120 [q31, (ci 1)] .v, .mv p30 q32 .v, .P p33 (.ext q30 0) .v, .P p34 (.ext q30 1) .s, .ss 5 q1 q33, .fa p35 3 q4, .st q35 q34] (.seq (.seq (.oX [.L p36 (.cells 5 q1) .v, .cl p37 117 [q36, (.c (.str [40]))] .b]) (.cond q37 (.seq (.oX [.fa p38 0 q4, .st q38 (cb true)]) (.seq (.oX [.L p40 (.cells 5 q1) .v, .cl p41 118 [q40] .v, .cl p42 121 [q41] .v, .mv p39 q42 .v, .P p43 (.ext q39 0) .v, .P p44 (.ext q39 1) .v, .ss 5 q1 q43, .fa p45 8 q4, .st q45 q44]) (.seq (.seq (.oX [.L p46 (.cells 5 q1) .v, .cl p47 117 [q46, (.c (.str [123]))] .b]) (.cond q47 (.seq (.oX [.fa p48 7 q4, .st q48 (cb true)]) (.seq (.oX [.L p50 (.cells 5 q1) .v, .cl p51 122 [q50] .v, .mv p49 q51 .v, .P p52 (.ext q49 0) .v, .P p53 (.ext q49 1) .v, .ss 5 q1 q52, .fa p54 9 q4, .ss 7 q54 q53]) (.seq (.ops true (XL.of [.L p55 (.cells 5 q1) .v, .L p56 (.cells 17 q4) .v, .o ⟨none, (.e (.stores 5 q2 q55)), none, [⟨none, .cells 17 q4, p56⟩]⟩ .v, .ss 17 q3 q56])) .ret))) .skip)) (.seq (.ops true (XL.of [.L p57 (.cells 5 q1) .v, .L p59 (.cells 17 q4) .v, .o ⟨(some p58), (.call (.fn 123) [q57, (.c (.str [59]))]), none, [⟨none, .cells 17 q4, p59⟩]⟩ .v, .o ⟨none, (.e (.stores 5 q2 q58)), none, [⟨none, .cells 17 q4, p59⟩]⟩ .v, .ss 17 q3 q59])) .ret)))) .skip)) (.sO [.L p61 (.cells 5 q1) .v, .cl p62 124 [q61] .v, .mv p60 q62 .v, .P p63 (.ext q60 0) .v, .P p64 (.ext q60 1) tI, .ss 5 q1 q63, .fa p65 5 q4, .st q65 q64] (.sj v83_1 (.sO [.L p66 (.cells 5 q1) .v, .cl p67 117 [q66, (.c (.str [61]))] .b] (.cond q67 (.sO [.fa p68 7 q4, .st q68 (cb true)] (.sO [.L p69 (.cells 5 q1) .v, .cl p70 118 [q69] .v, .ss 5 q1 q70] (.sj v83_2 (.sO [.fa p71 5 q4, .ld p72 q71 tI, .bn p73 .gtr q72 (ci 0) .b] (.cond q73 (.s (.oX [.L p74 (.cells 5 q1) .v, .cl p75 123 [q74, (.c (.str [123]))] .v, .ss 5 q1 q75])) (.s .skip))) c83_2))) (.s .skip))) c83_1))))))
def c83_e : XC := (.sO [.al p1 (.box q0), .al p2 (.new [.nils, (kI 0), (kI 0), (kI 0), (kI 0)]), .al p3 (.new [(.bool false), (.bool false), (.bool false), (.str []), (kI 0), (kI 0), .nils, (.bool false), .nils, (kI 0), .nils, .nils, (.str []), (kI 0), (kI 0), (kI 0), (kI 0)])] (.seq (.ops true (XL.of [.L p7 (.cells 5 q1) .v, .L p9 (.cells 5 q1) .v, .al p4 (.new [(.bool false), (.bool false), (.bool false), (.str []), (kI 0), (kI 0), .nils, (.bool false), .nils, (kI 0), .nils, .nils, (.str []), (kI 0), (kI 0), (kI 0), (kI 0)]), .o ⟨(some p8), (.call (.fn 117) [q7, (.c (.str [115, 116, 97, 116, 105, 99]))]), none, [⟨none, .cells 5 q1, p9⟩]⟩ .b, .cl p10 117 [q9, (.c (.str [101, 120, 116, 101, 114, 110]))] .b, .P p11 (.build [(.bool false), (.bool false), (.bool false), (.str []), (kI 0), (kI 0), .nils, (.bool false), .nils, (kI 0), .nils, .nils, (.str []), (kI 0), (kI 0), (kI 0), (kI 0)] [⟨1, 1, q8⟩, ⟨2, 1, q10⟩]) .v, .ss 17 q4 q11])) (.sj v83_0 (.sO [.fa p12 1 q4, .ld p13 q12 .b, .mv p14 q13 .b, .ge p14 (XL.of [.G p14 false p15 (.faddr 2 q4) .v, .o ⟨(some p16), (.l (.cell q15)), (some (p14, false)), []⟩ .b, .P p17 (.pick q14 (cb true) q16) .b]) p17 .b] (.cond q17 (.s (.oX [.L p18 (.cells 5 q1) .v, .cl p19 118 [q18] .v, .ss 5 q1 q19])) (.s .skip))) c83_0)))
def x83 : XFn := ⟨[.v], false, [(.cells 5 p2), (.cells 17 p3)], c83_e⟩
def S83 : SFn := evFX x83
theorem X83 : XTie S83 x83 := fun _ _ _ _ _ => rfl
/- 84 -/
def c84_e : XC := (.sO [.al p0 (.new [.nils, (kI 0), (kI 0), (kI 0), (kI 0), (kI 0), (kI 0)])] (.sO [.P p2 (.build [.nils, (kI 0), (kI 0), (kI 0), (kI 0), (kI 0), (kI 0)] []) .v, .al p1 (.new [.nils, (kI 0), (kI 0), (kI 0), (kI 0), (kI 0), (kI 0)]), .ss 7 q1 q2] (.sO [.L p3 (.cells 7 q1) .v, .P p4 (.build [(.str []), (kI 0), (kI 0)] [⟨1, 1, (ci 1)⟩]) .v, .al p5 (.bsl [(.str []), (kI 0), (kI 0)] 1 [⟨0, 3, q4⟩]), .P p6 (.build [(.bool false), (.bool false), (.bool false), (.str []), (kI 0), (kI 0), .nils, (.bool false), .nils, (kI 0), .nils, .nils, (.str []), (kI 0), (kI 0), (kI 0), (kI 0)] [⟨0, 1, (cb true)⟩, ⟨3, 1, (.c (.str [112, 117, 116, 119]))⟩, ⟨8, 1, q5⟩]) .v, .cl p7 126 [q3, q6, (.c (.str [112, 117, 116, 119]))] .v, .ss 7 q1 q7] (.sO [.L p8 (.cells 7 q1) .v, .P p9 (.build [(.str []), (kI 0), (kI 0)] [⟨1, 1, (ci 2)⟩]) .v, .al p10 (.bsl [(.str []), (kI 0), (kI 0)] 1 [⟨0, 3, q9⟩]), .P p11 (.build [(.bool false), (.bool false), (.bool false), (.str []), (kI 0), (kI 0), .nils, (.bool false), .nils, (kI 0), .nils, .nils, (.str []), (kI 0), (kI 0), (kI 0), (kI 0)] [⟨0, 1, (cb true)⟩, ⟨3, 1, (.c (.str [112, 117, 116, 100]))⟩, ⟨8, 1, q10⟩]) .v, .cl p12 126 [q8, q11, (.c (.str [112, 117, 116, 100]))] .v, .ss 7 q1 q12] (.sO [.L p13 (.cells 7 q1) .v, .P p14 (.build [(.bool false), (.bool false), (.bool false), (.str []), (kI 0), (kI 0), .nils, (.bool false), .nils, (kI 0), .nils, .nils, (.str []), (kI 0), (kI 0), (kI 0), (kI 0)] [⟨0, 1, (cb true)⟩, ⟨3, 1, (.c (.str [103, 101, 116, 119]))⟩, ⟨4, 1, (ci 1)⟩]) .v, .cl p15 126 [q13, q14, (.c (.str [103, 101, 116, 119]))] .v, .ss 7 q1 q15] (.sO [.fa p16 1 q1, .st q16 (ci 1)] (.sO [.L p17 (.cells 7 q1) .v, .ss 7 q0 q17] (.s .ret))))))))
def x84 : XFn := ⟨[], false, [(.cells 7 p0)], c84_e⟩
def e84_0 (k h) := kN k [] h
def S84_0 (D : CallD) (m : Nat) (h : HP) : Res2 :=
 let t0 := AV.ptr (HP.nxQ h) 0
 let h1 := HP.newQ h (.cells true [.nils, (kI 0), (kI 0), (kI 0), (kI 0), (kI 0), (kI 0)])
 let t2 := (AV.agg [(.nils : AV), (vI (Int.ofNat 0)), (vI (Int.ofNat 0)), (vI (Int.ofNat 0)), (vI (Int.ofNat 0)), (vI (Int.ofNat 0)), (vI (Int.ofNat 0))])
 let t1 := AV.ptr (HP.nxQ h1) 0
 let h2 := HP.newQ h1 (.cells true [.nils, (kI 0), (kI 0), (kI 0), (kI 0), (kI 0), (kI 0)])
 stsC 7 t1 t2 h2 fun h3 =>
 cellsC 7 t1 h3 fun t3 =>
 let t4 := (AV.agg [(vS ([] : LN)), (vI (Int.ofNat 1)), (vI (Int.ofNat 0))])
 let t5 := AV.slice (HP.nxQ h3) 0 1 (.exact 1)
 let h4 := HP.newQ h3 (.cells true [(vS ([] : LN)), (vI (Int.ofNat 1)), (vI (Int.ofNat 0))])
 let t6 := (AV.agg [(vB true), (vB false), (vB false), (vS ([112, 117, 116, 119] : LN)), (vI (Int.ofNat 0)), (vI (Int.ofNat 0)), (.nils : AV), (vB false), t5, (vI (Int.ofNat 0)), (.nils : AV), (.nils : AV), (vS ([] : LN)), (vI (Int.ofNat 0)), (vI (Int.ofNat 0)), (vI (Int.ofNat 0)), (vI (Int.ofNat 0))])
 cal D 126 [t3, t6, (vS ([112, 117, 116, 119] : LN))] h4 fun t7 h5 =>
 stsC 7 t1 t7 h5 fun h6 =>
 cellsC 7 t1 h6 fun t8 =>
 let t9 := (AV.agg [(vS ([] : LN)), (vI (Int.ofNat 2)), (vI (Int.ofNat 0))])
 let t10 := AV.slice (HP.nxQ h6) 0 1 (.exact 1)
 let h7 := HP.newQ h6 (.cells true [(vS ([] : LN)), (vI (Int.ofNat 2)), (vI (Int.ofNat 0))])
 let t11 := (AV.agg [(vB true), (vB false), (vB false), (vS ([112, 117, 116, 100] : LN)), (vI (Int.ofNat 0)), (vI (Int.ofNat 0)), (.nils : AV), (vB false), t10, (vI (Int.ofNat 0)), (.nils : AV), (.nils : AV), (vS ([] : LN)), (vI (Int.ofNat 0)), (vI (Int.ofNat 0)), (vI (Int.ofNat 0)), (vI (Int.ofNat 0))])
 cal D 126 [t8, t11, (vS ([112, 117, 116, 100] : LN))] h7 fun t12 h8 =>
 stsC 7 t1 t12 h8 fun h9 =>
 cellsC 7 t1 h9 fun t13 =>
 let t14 := (AV.agg [(vB true), (vB false), (vB false), (vS ([103, 101, 116, 119] : LN)), (vI (Int.ofNat 1)), (vI (Int.ofNat 0)), (.nils : AV), (vB false), (.nils : AV), (vI (Int.ofNat 0)), (.nils : AV), (.nils : AV), (vS ([] : LN)), (vI (Int.ofNat 0)), (vI (Int.ofNat 0)), (vI (Int.ofNat 0)), (vI (Int.ofNat 0))])
 cal D 126 [t13, t14, (vS ([103, 101, 116, 119] : LN))] h9 fun t15 h10 =>
 stsC 7 t1 t15 h10 fun h11 =>
 let t16 := (AV.ptr (HP.nxQ h1) (Nat.add 0 1))
 stoC t16 (vI (Int.ofNat 1)) h11 fun h12 =>
 cellsC 7 t1 h12 fun t17 =>
 stsC 7 t0 t17 h12 fun h13 =>
 cellsC 7 t0 h13 fun t0a =>
 some (.ret t0a h13, .no)
def S84 : SFn := fun D m args h u => nou u <| endA args (S84_0 D m h)
theorem T84_0 (hE : FX x84 D m E) : S84_0 D m = e84_0 (E c84_e []) := by unfold S84_0; rw [hE c84_e]; kernel_rfl
theorem X84 : XTie S84 x84 := X_of fun D m E hE args h u => by unfold S84; rw [T84_0 hE]; kernel_rfl
/- 85 -/
def v85_7 : List Pos := [p3, p4, p6, p7]
def c85_7 : XC := (.seq (.ops true (XL.of [.L p280 (.cells 7 q3) .v, .L p282 (.cells 17 q4) .v, .o ⟨(some p281), (.call (.fn 134) [q280]), none, [⟨none, .cells 17 q4, p282⟩]⟩ .v, .o ⟨none, (.e (.stores 7 q6 q281)), none, [⟨none, .cells 17 q4, p282⟩]⟩ .v, .ss 17 q7 q282])) (.s .ret))
def v85_6 : List Pos := [p3, p4, p6, p7, p15]
def c85_6 : XC := (.sO [.mv p257 q15 .v, .fa p258 6 q4, .st q258 q257] (.sj v85_7 (.sO [.fa p259 0 q4, .ld p260 q259 .b, .mv p261 q260 .b, .ge p261 (XL.of [.G p261 true p262 (.faddr 7 q4) .v, .o ⟨(some p263), (.l (.cell q262)), (some (p261, true)), []⟩ .b, .P p264 (.pick q261 q263 (cb false)) .b]) p264 .b, .mv p265 q264 .b, .ge p265 (XL.of [.G p265 true p266 (.faddr 5 q3) .v, .o ⟨(some p267), (.l (.cell q266)), (some (p265, true)), []⟩ tI, .G p265 true p268 (.bin .eql q267 (ci 0)) .b, .P p269 (.pick q265 q268 (cb false)) .b]) p269 .b] (.cond q269 (.s (.oX [.L p271 (.cells 7 q3) .v, .fa p272 9 q4, .fa p273 2 q272, .ld p274 q273 .v, .cl p275 133 [q271, q274] .v, .mv p270 q275 .v, .P p276 (.ext q270 0) .v, .P p277 (.ext q270 1) .v, .ss 7 q3 q276, .fa p278 9 q4, .fa p279 2 q278, .st q279 q277])) (.s .skip))) c85_7))
def v85_9 : List Pos := [p3, p4, p6, p7, p15, p216, p217]
def c85_9 : XC := (.s (.oX [.bn p256 .add q217 (ci 1) tI, .mv p217 q256 tI]))
def v85_10 : List Pos := [p3, p4, p6, p7, p15, p17, p216, p217]
def c85_10 : XC := (.s (.oX [.mv p252 q15 .v, .L p253 (.cells 8 q17) .v, .al p254 (.bsl [(kI 0), (.str []), (.str []), (.int .u32 (.ofNat 0)), (.int .u64 (.ofNat 0)), .nils, (kI 0), (kI 0)] 1 [⟨0, 8, q253⟩]), .o ⟨(some p255), (.e (.app 8 96 q252 q254)), none, []⟩ .v, .mv p15 q255 .v]))
def v85_8 : List Pos := [p3, p4, p6, p7, p15, p216, p217]
def c85_8b : XC := (.sO [.bn p218 .lss q217 q216 .b] (.seq (.cond q218 .skip (.exit 6)) (.sj v85_9 (.block 7 (.sO [.mv p219 q217 tI, .mv p16 q219 tI] (.sO [.P p220 (.build [(kI 0), (.str []), (.str []), (.int .u32 (.ofNat 0)), (.int .u64 (.ofNat 0)), .nils, (kI 0), (kI 0)] []) .v, .al p17 (.new [(kI 0), (.str []), (.str []), (.int .u32 (.ofNat 0)), (.int .u64 (.ofNat 0)), .nils, (kI 0), (kI 0)]), .ss 8 q17 q220] (.seq (.ops true (XL.of [.L p222 (.cells 7 q3) .v, .fa p223 6 q4, .ld p224 q223 .v, .mv p225 q16 tI, .P p226 (.iaddr (.sl 8) q224 q225) .v, .L p227 (.cells 8 q226) .v, .fa p228 4 q4, .ld p229 q228 tI, .fa p230 6 q4, .ld p231 q230 .v, .mv p232 q16 tI, .P p233 (.iaddr (.sl 8) q231 q232) .v, .fa p234 7 q233, .ld p235 q234 tI, .cl p236 132 [q222, q227, q229, q235] .v, .mv p221 q236 .v, .P p237 (.ext q221 0) .v, .P p238 (.ext q221 1) .v, .ss 7 q3 q237, .ss 8 q17 q238])) (.sj v85_10 (.sO [.fa p239 5 q4, .ld p240 q239 tI, .bn p241 .gtr q240 (ci 0) .b, .mv p242 q241 .b, .ge p242 (XL.of [.G p242 true p243 (.mov q16) tI, .G p242 true p244 (.faddr 5 q4) .v, .o ⟨(some p245), (.l (.cell q244)), (some (p242, true)), []⟩ tI, .G p242 true p246 (.bin .geq q243 q245) .b, .P p247 (.pick q242 q246 (cb false)) .b]) p247 .b] (.cond q247 (.s (.oX [.L p248 (.cells 7 q3) .v, .fa p249 7 q17, .ld p250 q249 tI, .cl p251 86 [q248, (ci 1), q250] .v, .ss 7 q3 q251])) (.s .skip))) c85_10))))) c85_9)))
def v85_5 : List Pos := [p3, p4, p6, p7, p10]
def c85_5 : XC := (.sO [.mv p212 q10 .v, .fa p213 8 q4, .st q213 q212] (.sO [.mv p15 (.c .nils) .v] (.sj v85_6 (.sO [.fa p214 6 q4, .ld p215 q214 .v, .P p216 (.lenl q215) tI, .mv p217 (ci 0) tI] (.block 6 (.loop v85_8 c85_8b))) c85_6)))
def v85_12 : List Pos := [p3, p4, p6, p7, p10, p161, p162]
def c85_12 : XC := (.s (.oX [.bn p211 .add q162 (ci 1) tI, .mv p162 q211 tI]))
def v85_14 : List Pos := [p3, p4, p6, p7, p10, p12, p161, p162]
def c85_14 : XC := (.sO [.L p197 (.cells 7 q3) .v, .fa p198 0 q12, .ld p199 q198 .s, .fa p200 1 q12, .ld p201 q200 tI, .P p202 (.build [(.bool false), (.bool false), (.bool false), (.str []), (kI 0), (kI 0), .nils, (.bool false), .nils, (kI 0), .nils, .nils, (.str []), (kI 0), (kI 0), (kI 0), (kI 0)] [⟨3, 1, q199⟩, ⟨4, 1, q201⟩]) .v, .cl p203 131 [q197, q202] .v, .mv p196 q203 .v, .P p204 (.ext q196 0) .v, .P p205 (.ext q196 1) .s, .ss 7 q3 q204, .fa p206 0 q12, .st q206 q205] (.s (.oX [.mv p207 q10 .v, .L p208 (.cells 3 q12) .v, .al p209 (.bsl [(.str []), (kI 0), (kI 0)] 1 [⟨0, 3, q208⟩]), .o ⟨(some p210), (.e (.app 3 32 q207 q209)), none, []⟩ .v, .mv p10 q210 .v])))
def v85_13 : List Pos := [p3, p4, p6, p7, p10, p12, p161, p162]
def c85_13 : XC := (.sj v85_14 (.sO [.L p178 (.cells 7 q3) .v, .fa p179 0 q12, .ld p180 q179 .s, .cl p181 130 [q178, q180] .v, .mv p177 q181 .v, .P p182 (.ext q177 0) .v, .P p183 (.ext q177 1) .b, .al p13 (.new [(.bool false), (.bool false), (.bool false), (.str []), (kI 0), (kI 0), .nils, (.bool false), .nils, (kI 0), .nils, .nils, (.str []), (kI 0), (kI 0), (kI 0), (kI 0), (.str []), (kI 0)]), .ss 19 q13 q182, .mv p14 q183 .b] (.sO [.mv p184 q14 .b, .mv p185 q184 .b, .ge p185 (XL.of [.G p185 true p186 (.faddr 18 q13) .v, .o ⟨(some p187), (.l (.cell q186)), (some (p185, true)), []⟩ tI, .G p185 true p188 (.faddr 1 q3) .v, .o ⟨(some p189), (.l (.cell q188)), (some (p185, true)), []⟩ tI, .G p185 true p190 (.bin .eql q187 q189) .b, .P p191 (.pick q185 q190 (cb false)) .b]) p191 .b] (.cond q191 (.s (.oX [.L p192 (.cells 7 q3) .v, .fa p193 2 q12, .ld p194 q193 tI, .cl p195 86 [q192, (ci 13), q194] .v, .ss 7 q3 q195])) (.s .skip)))) c85_14)
def v85_11 : List Pos := [p3, p4, p6, p7, p10, p161, p162]
def c85_11b : XC := (.sO [.bn p163 .lss q162 q161 .b] (.seq (.cond q163 .skip (.exit 4)) (.sj v85_12 (.block 5 (.sO [.mv p164 q162 tI, .mv p11 q164 tI] (.sO [.fa p165 8 q4, .ld p166 q165 .v, .mv p167 q11 tI, .P p168 (.iaddr (.sl 3) q166 q167) .v, .L p169 (.cells 3 q168) .v, .al p12 (.new [(.str []), (kI 0), (kI 0)]), .ss 3 q12 q169] (.sj v85_13 (.sO [.fa p170 1 q12, .ld p171 q170 tI, .bn p172 .eql q171 (ci 0) .b] (.cond q172 (.s (.oX [.L p173 (.cells 7 q3) .v, .fa p174 2 q12, .ld p175 q174 tI, .cl p176 86 [q173, (ci 14), q175] .v, .ss 7 q3 q176])) (.s .skip))) c85_13)))) c85_12)))
def v85_4 : List Pos := [p3, p4, p6, p7]
def c85_4 : XC := (.sO [.L p149 (.cells 7 q3) .v, .L p150 (.cells 17 q4) .v, .fa p151 3 q4, .ld p152 q151 .s, .cl p153 126 [q149, q150, q152] .v, .cl p154 129 [q153] .v, .ss 7 q3 q154] (.sO [.fa p155 4 q4, .ld p156 q155 tI, .fa p157 2 q3, .st q157 q156] (.sO [.fa p158 3 q3, .st q158 (ci 0)] (.sO [.mv p10 (.c .nils) .v] (.sj v85_5 (.sO [.fa p159 8 q4, .ld p160 q159 .v, .P p161 (.lenl q160) tI, .mv p162 (ci 0) tI] (.block 4 (.loop v85_11 c85_11b))) c85_5)))))
def v85_3 : List Pos := [p3, p4, p6, p7]
def c85_3 : XC := (.sj v85_4 (.sO [.fa p122 3 q4, .ld p123 q122 .s, .bn p124 .eql q123 (.c (.str [109, 97, 105, 110])) .b, .mv p125 q124 .b, .ge p125 (XL.of [.G p125 true p126 (.faddr 0 q4) .v, .o ⟨(some p127), (.l (.cell q126)), (some (p125, true)), []⟩ .b, .G p125 true p128 (.un .not q127) .b, .G p125 true p129 (.mov q128) .b, .ge p129 (XL.of [.G p129 false p130 (.faddr 1 q4) .v, .o ⟨(some p131), (.l (.cell q130)), (some (p129, false)), []⟩ .b, .G p125 true p132 (.pick q129 (cb true) q131) .b]) p132 .b, .G p125 true p133 (.mov q132) .b, .ge p133 (XL.of [.G p133 false p134 (.faddr 4 q4) .v, .o ⟨(some p135), (.l (.cell q134)), (some (p133, false)), []⟩ tI, .G p133 false p136 (.bin .neq q135 (ci 1)) .b, .G p125 true p137 (.pick q133 (cb true) q136) .b]) p137 .b, .G p125 true p138 (.mov q137) .b, .ge p138 (XL.of [.G p138 false p139 (.faddr 8 q4) .v, .o ⟨(some p140), (.l (.cell q139)), (some (p138, false)), []⟩ .v, .G p138 false p141 (.lenl q140) tI, .G p138 false p142 (.bin .gtr q141 (ci 0)) .b, .G p125 true p143 (.pick q138 (cb true) q142) .b]) p143 .b, .P p144 (.pick q125 q143 (cb false)) .b]) p144 .b] (.cond q144 (.s (.oX [.L p145 (.cells 7 q3) .v, .fa p146 16 q4, .ld p147 q146 tI, .cl p148 86 [q145, (ci 14), q147] .v, .ss 7 q3 q148])) (.s .skip))) c85_4)
def c85_18 : XC := (.cond q117 (.s (.oX [.L p118 (.cells 7 q3) .v, .fa p119 16 q4, .ld p120 q119 tI, .cl p121 86 [q118, (ci 14), q120] .v, .ss 7 q3 q121])) (.s .skip))
def l85_17 : XL := (XL.of [])
def l85_16 : XL := (XL.pre [.G p94 true p109 (.mov q108) .b, .ge p109 (XL.of [.G p109 false p110 (.faddr 2 q4) .v, .o ⟨(some p111), (.l (.cell q110)), (some (p109, false)), []⟩ .b, .G p109 false p112 (.mov q111) .b, .ge p112 (XL.of [.G p112 true p113 (.faddr 7 q4) .v, .o ⟨(some p114), (.l (.cell q113)), (some (p112, true)), []⟩ .b, .G p109 false p115 (.pick q112 q114 (cb false)) .b]) p115 .b, .G p94 true p116 (.pick q109 (cb true) q115) .b]) p116 .b, .P p117 (.pick q94 q116 (cb false)) .b, .jn p94 [p3, p4, p6, p7, p117]] l85_17)
def l85_15 : XL := (XL.pre [.G p94 true p108 (.pick q98 (cb true) q107) .b, .jn p98 [p3, p4, p6, p7, p94, p108]] l85_16)
def v85_2 : List Pos := [p3, p4, p6, p7]
def c85_2 : XC := (.sj v85_3 (.opq false (XL.pre [.fa p91 0 q4, .ld p92 q91 .b, .P p93 (.un .not q92) .b, .mv p94 q93 .b, .sp p94, .G p94 true p95 (.faddr 4 q4) .v, .o ⟨(some p96), (.l (.cell q95)), (some (p94, true)), []⟩ tI, .G p94 true p97 (.bin .eql q96 (ci 0)) .b, .G p94 true p98 (.mov q97) .b, .sp p98, .G p98 false p99 (.faddr 5 q4) .v, .o ⟨(some p100), (.l (.cell q99)), (some (p98, false)), []⟩ tI, .G p98 false p101 (.bin .gtr q100 (ci 0)) .b, .G p98 false p102 (.mov q101) .b, .sp p102, .G p102 true p103 (.faddr 4 q4) .v, .o ⟨(some p104), (.l (.cell q103)), (some (p102, true)), []⟩ tI, .o ⟨(some p105), (.call (.fn 128) [q104]), (some (p102, true)), []⟩ .b, .G p102 true p106 (.un .not q105) .b, .G p98 false p107 (.pick q102 q106 (cb false)) .b, .jn p102 [p3, p4, p6, p7, p94, p98, p107]] l85_15) c85_18) c85_3)
def v85_20 : List Pos := [p2, p3, p4, p6, p7, p65, p66]
def c85_20 : XC := (.s (.oX [.bn p90 .add q66 (ci 1) tI, .mv p66 q90 tI]))
def c85_22 : XC := (.cond q85 (.s (.oX [.L p86 (.cells 7 q3) .v, .fa p87 16 q4, .ld p88 q87 tI, .cl p89 86 [q86, (ci 14), q88] .v, .ss 7 q3 q89])) (.s .skip))
def l85_21 : XL := (XL.of [])
def v85_19 : List Pos := [p2, p3, p4, p6, p7, p65, p66]
def c85_19b : XC := (.sO [.bn p67 .lss q66 q65 .b] (.seq (.cond q67 .skip (.exit 2)) (.sj v85_20 (.block 3 (.sO [.mv p68 q66 tI, .mv p9 q68 tI] (.opq true (XL.pre [.mv p69 q2 .v, .mv p70 q9 tI, .P p71 (.iaddr (.sl 17) q69 q70) .v, .fa p72 3 q71, .ld p73 q72 .s, .fa p74 3 q4, .ld p75 q74 .s, .bn p76 .eql q73 q75 .b, .mv p77 q76 .b, .sp p77, .G p77 true p78 (.mov q2) .v, .G p77 true p79 (.mov q9) tI, .G p77 true p80 (.iaddr (.sl 17) q78 q79) .v, .o ⟨(some p81), (.l (.cells 17 q80)), (some (p77, true)), []⟩ .v, .o ⟨(some p82), (.l (.cells 17 q4)), (some (p77, true)), []⟩ .v, .o ⟨(some p83), (.call (.fn 69) [q81, q82]), (some (p77, true)), []⟩ .b, .G p77 true p84 (.un .not q83) .b, .P p85 (.pick q77 q84 (cb false)) .b, .jn p77 [p2, p3, p4, p6, p7, p65, p66, p85]] l85_21) c85_22))) c85_20)))
def v85_1 : List Pos := [p2, p3, p4, p6, p7]
def c85_1 : XC := (.sj v85_2 (.sO [.mv p64 q2 .v, .P p65 (.lenl q64) tI, .mv p66 (ci 0) tI] (.block 2 (.loop v85_19 c85_19b))) c85_2)
def v85_24 : List Pos := [p2, p3, p4, p6, p7, p26, p27]
def c85_24 : XC := (.s (.oX [.bn p63 .add q27 (ci 1) tI, .mv p27 q63 tI]))
def c85_28 : XC := (.cond q58 (.s (.oX [.L p59 (.cells 7 q3) .v, .fa p60 16 q4, .ld p61 q60 tI, .cl p62 86 [q59, (ci 13), q61] .v, .ss 7 q3 q62])) (.s .skip))
def l85_27 : XL := (XL.of [])
def l85_26 : XL := (XL.pre [.P p58 (.pick q38 q57 (cb false)) .b, .jn p38 [p2, p3, p4, p6, p7, p26, p27, p58]] l85_27)
def l85_25 : XL := (XL.pre [.G p38 true p57 (.pick q47 (cb true) q56) .b, .jn p47 [p2, p3, p4, p6, p7, p26, p27, p38, p57]] l85_26)
def v85_23 : List Pos := [p2, p3, p4, p6, p7, p26, p27]
def c85_23b : XC := (.sO [.bn p28 .lss q27 q26 .b] (.seq (.cond q28 .skip (.exit 0)) (.sj v85_24 (.block 1 (.sO [.mv p29 q27 tI, .mv p8 q29 tI] (.opq true (XL.pre [.mv p30 q2 .v, .mv p31 q8 tI, .P p32 (.iaddr (.sl 17) q30 q31) .v, .fa p33 3 q32, .ld p34 q33 .s, .fa p35 3 q4, .ld p36 q35 .s, .bn p37 .eql q34 q36 .b, .mv p38 q37 .b, .sp p38, .G p38 true p39 (.mov q2) .v, .G p38 true p40 (.mov q8) tI, .G p38 true p41 (.iaddr (.sl 17) q39 q40) .v, .G p38 true p42 (.faddr 0 q41) .v, .o ⟨(some p43), (.l (.cell q42)), (some (p38, true)), []⟩ .b, .G p38 true p44 (.faddr 0 q4) .v, .o ⟨(some p45), (.l (.cell q44)), (some (p38, true)), []⟩ .b, .G p38 true p46 (.eqb true q43 q45) .b, .G p38 true p47 (.mov q46) .b, .sp p47, .G p47 false p48 (.mov q2) .v, .G p47 false p49 (.mov q8) tI, .G p47 false p50 (.iaddr (.sl 17) q48 q49) .v, .o ⟨(some p51), (.l (.cells 17 q50)), (some (p47, false)), []⟩ .v, .o ⟨(some p52), (.call (.fn 68) [q51]), (some (p47, false)), []⟩ .b, .G p47 false p53 (.mov q52) .b, .sp p53, .o ⟨(some p54), (.l (.cells 17 q4)), (some (p53, true)), []⟩ .v, .o ⟨(some p55), (.call (.fn 68) [q54]), (some (p53, true)), []⟩ .b, .G p47 false p56 (.pick q53 q55 (cb false)) .b, .jn p53 [p2, p3, p4, p6, p7, p26, p27, p38, p47, p56]] l85_25) c85_28))) c85_24)))
def v85_0 : List Pos := [p2, p3, p4, p6, p7]
def c85_0 : XC := (.sj v85_1 (.sO [.mv p25 q2 .v, .P p26 (.lenl q25) tI, .mv p27 (ci 0) tI] (.block 0 (.loop v85_23 c85_23b))) c85_1)
def c85_e : XC := (.sO [.al p3 (.box q0), .al p4 (.box q1), .al p6 (.new [.nils, (kI 0), (kI 0), (kI 0), (kI 0), (kI 0), (kI 0)]), .al p7 (.new [(.bool false), (.bool false), (.bool false), (.str []), (kI 0), (kI 0), .nils, (.bool false), .nils, (kI 0), .nils, .nils, (.str []), (kI 0), (kI 0), (kI 0), (kI 0)])] (.sj v85_0 (.sO [.fa p18 3 q4, .ld p19 q18 .s, .cl p20 127 [q19] .b] (.cond q20 (.s (.oX [.L p21 (.cells 7 q3) .v, .fa p22 16 q4, .ld p23 q22 tI, .cl p24 86 [q21, (ci 13), q23] .v, .ss 7 q3 q24])) (.s .skip))) c85_0))
def x85 : XFn := ⟨[.v, .v, .v], false, [(.cells 7 p6), (.cells 17 p7)], c85_e⟩
def S85 : SFn := evFX x85
theorem X85 : XTie S85 x85 := fun _ _ _ _ _ => rfl
/- 89 -/
def v89_0 : List Pos := [p1, p6, p7, p8]
def c89_0b : XC := (.sO [.bn p9 .lss q8 q7 .b] (.seq (.cond q9 .skip (.exit 0)) (.seq (.block 1 (.seq (.oX [.P p10 (.iaddr (.sl 7) q6 q8) .v, .L p11 (.cells 7 q10) .v, .al p5 (.new [(kI 0), .nils, .nils, (.str []), (kI 0), (kI 0), (kI 0)]), .ss 7 q5 q11]) (.seq (.oX [.fa p12 1 q5, .ld p13 q12 .v, .mv p14 q1 .v, .cl p15 137 [q13, q14] .v]) (.oX [.fa p16 2 q5, .ld p17 q16 .v, .mv p18 q1 .v, .cl p19 89 [q17, q18] .v])))) (.s (.oX [.bn p20 .add q8 (ci 1) tI, .mv p8 q20 tI])))))
def c89_e : XC := (.sO [.mv p6 q0 .v, .P p7 (.lenl q6) tI, .mv p8 (ci 0) tI] (.block 0 (.loop v89_0 c89_0b)))
def x89 : XFn := ⟨[.v, .v], false, [], c89_e⟩
def e89_0 (k t1 t6 t7 t8 h) := kN k [(p1, t1), (p6, t6), (p7, (vI t7)), (p8, (vI t8))] h
def S89_0b (D : CallD) (m : Nat) (g0 : AV → AV → Int → Int → HP → Res2) (t1 t6 : AV) (t7 t8 : Int) (h : HP) : Res2 :=
 let t9 := ltQ t8 t7
 br t9 (
 iasC 7 t6 (vI t8) fun t10 =>
 cellsC 7 t10 h fun t11 =>
 let t5 := AV.ptr (HP.nxQ h) 0
 let h2 := HP.newQ h (.cells true [(kI 0), .nils, .nils, (.str []), (kI 0), (kI 0), (kI 0)])
 stsC 7 t5 t11 h2 fun h3 =>
 let t12 := (AV.ptr (HP.nxQ h) (Nat.add 0 1))
 cellC t12 h3 fun t13 =>
 cal D 137 [t13, t1] h3 fun t15 h4 =>
 let t16 := (AV.ptr (HP.nxQ h) (Nat.add 0 2))
 cellC t16 h4 fun t17 =>
 cal D 89 [t17, t1] h4 fun t19 h5 =>
 let t20 := wrQ .i64 (addQ t8 (Int.ofNat 1))
 g0 t1 t6 t7 t20 h5) (
 some (.ret (.tup []) h, .no))
def S89_0 (D : CallD) (m : Nat) : AV → AV → Int → Int → HP → Res2 := nrec (fun _ _ _ _ _ => none) (fun _ g => S89_0b D m g) m
def e89_1 (k t0 t1 h) := kN k [(p0, t0), (p1, t1)] h
def S89_1 (D : CallD) (m : Nat) (t0 t1 : AV) (h : HP) : Res2 :=
 lenC t0 fun vt7 => asI .i64 vt7 fun t7 =>
 S89_0 D m t1 t0 t7 (Int.ofNat 0) h
def S89 : SFn := fun D m args h u => nou u <| popV args fun t0 args => popV args fun t1 args => endA args (S89_1 D m t0 t1 h)
theorem T89_0b (hE : FX x89 D m E) (G0) : S89_0b D m (e89_0 G0) = e89_0 (E c89_0b [.lp v89_0 G0, .blk 0]) := by unfold S89_0b; rw [hE c89_0b]; kernel_rfl
theorem T89_0 (hE : FX x89 D m E) : S89_0 D m = e89_0 (nrec (fun _ => none) (fun _ G0 st => E c89_0b [.lp v89_0 G0, .blk 0] st) m) :=
  nrec_emb e89_0 (fun _ _ _ _ _ => none) (fun g => S89_0b D m g) (fun G0 st => E c89_0b [.lp v89_0 G0, .blk 0] st) rfl (fun g => T89_0b hE g) m
theorem T89_1 (hE : FX x89 D m E) : S89_1 D m = e89_1 (E c89_e []) := by unfold S89_1; rw [T89_0 hE, hE c89_e]; kernel_rfl
theorem X89 : XTie S89 x89 := X_of fun D m E hE args h u => by unfold S89; rw [T89_1 hE]; kernel_rfl
/- 90 -/
def c90_e : XC := (.sO [.mv p4 (ci 0) tI] (.sO [.mv p5 q0 .v, .mv p6 q0 .v, .P p7 (.nilck q6) .v, .fa p8 0 q7, .fa p9 3 q8, .ld p10 q9 .v, .mv p11 q1 tI, .al p12 (.bsl [(kI 0)] 1 [⟨0, 1, q11⟩]), .o ⟨(some p13), (.e (.app 1 8 q10 q12)), none, []⟩ .v, .P p14 (.nilck q5) .v, .fa p15 0 q14, .fa p16 3 q15, .st q16 q13] (.sO [.mv p17 q0 .v, .P p18 (.nilck q17) .v, .fa p19 0 q18, .fa p20 3 q19, .ld p21 q20 .v, .P p22 (.lenl q21) tI, .bn p23 .sub q22 (ci 1) tI, .mv p4 q23 tI] (.s .ret))))
def x90 : XFn := ⟨[.v, tI], false, [(.tmp p4)], c90_e⟩
def e90_0 (k t0 t1 h) := kN k [(p0, t0), (p1, (vI t1))] h
def S90_0 (D : CallD) (m : Nat) (t0 : AV) (t1 : Int) (h : HP) : Res2 :=
 nilckC t0 fun t7 =>
 faC 0 t7 fun t8 =>
 faC 3 t8 fun t9 =>
 cellC t9 h fun t10 =>
 let t12 := AV.slice (HP.nxQ h) 0 1 (.exact 1)
 let h1 := HP.newQ h (.cells true [(vI t1)])
 eff (.app 1 8 (.c t10) (.c t12)) h1 fun t13 h2 =>
 nilckC t0 fun t14 =>
 faC 0 t14 fun t15 =>
 faC 3 t15 fun t16 =>
 stoC t16 t13 h2 fun h3 =>
 nilckC t0 fun t18 =>
 faC 0 t18 fun t19 =>
 faC 3 t19 fun t20 =>
 cellC t20 h3 fun t21 =>
 lenC t21 fun vt22 => asI .i64 vt22 fun t22 =>
 let t23 := wrQ .i64 (t22 - (Int.ofNat 1))
 some (.ret (vI t23) h3, .no)
def S90 : SFn := fun D m args h u => nou u <| popV args fun t0 args => popI .i64 args fun t1 args => endA args (S90_0 D m t0 t1 h)
theorem T90_0 (hE : FX x90 D m E) : S90_0 D m = e90_0 (E c90_e []) := by unfold S90_0; rw [hE c90_e]; kernel_rfl
theorem X90 : XTie S90 x90 := X_of fun D m E hE args h u => by unfold S90; rw [T90_0 hE]; kernel_rfl
/- 91 -/
def c91_e : XC := (.sO [.mv p2 (ci 0) tI] (.seq (.seq (.oX [.mv p3 q0 tI, .bn p4 .eql q3 (ci 2) .b]) (.cond q4 (.seq (.oX [.mv p2 (ci 2) tI]) .ret) .skip)) (.sO [.mv p2 (ci 1) tI] (.s .ret))))
def x91 : XFn := ⟨[tI], false, [(.tmp p2)], c91_e⟩
def e91_0 (k t0 h) := kN k [(p0, (vI t0))] h
def S91_0 (D : CallD) (m : Nat) (t0 : Int) (h : HP) : Res2 :=
 let t4 := eqQ t0 (Int.ofNat 2)
 br t4 (
 some (.ret (vI (Int.ofNat 2)) h, .no)) (
 some (.ret (vI (Int.ofNat 1)) h, .no))
def S91 : SFn := fun D m args h u => nou u <| popI .i64 args fun t0 args => endA args (S91_0 D m t0 h)
theorem T91_0 (hE : FX x91 D m E) : S91_0 D m = e91_0 (E c91_e []) := by unfold S91_0; rw [hE c91_e]; kernel_rfl
theorem X91 : XTie S91 x91 := X_of fun D m E hE args h u => by unfold S91; rw [T91_0 hE]; kernel_rfl
/- 92 -/
def v92_0 : List Pos := [p0, p4, p10]
def c92_0 : XC := (.s (.oX [.mv p29 q0 .v, .fa p30 0 q10, .ld p31 q30 tI, .mv p32 q4 tI, .P p33 (.build [(kI 0), (kI 0), (kI 0), (kI 0), (.int .u32 (.ofNat 0)), (.int .u64 (.ofNat 0)), (.str []), .nils, (kI 0)] [⟨0, 1, (ci 3)⟩, ⟨1, 1, q31⟩, ⟨2, 1, q32⟩]) .v, .cl p34 140 [q29, q33] .v]))
def v92_1 : List Pos := [p0, p2, p4, p11]
def c92_1 : XC := (.s (.oX [.mv p47 q0 .v, .mv p48 q2 tI, .mv p49 q11 tI, .mv p50 q4 tI, .cl p51 142 [q47, q48, q49, q50] .v]))
def c92_e : XC := (.sO [.mv p12 q0 .v, .mv p13 q1 .s, .mv p14 q2 tI, .mv p15 q3 tI, .cl p16 138 [q12, q13, q14, q15] .v, .al p10 (.new [(kI 0), (kI 0), (kI 0), (kI 0)]), .ss 4 q10 q16] (.block 0 (.sO [.fa p21 0 q10, .ld p22 q21 tI, .bn p23 .geq q22 (ci 0) .b, .mv p20 q23 .b] (.cond q20 (.sj v92_0 (.sO [.mv p24 q4 tI, .bn p25 .lss q24 (ci 0) .b] (.cond q25 (.s (.oX [.mv p26 q0 .v, .mv p27 q2 tI, .cl p28 139 [q26, q27] tI, .mv p4 q28 tI])) (.s .skip))) c92_0) (.sO [.mv p36 q3 tI, .bn p37 .eql q36 (ci 0) .b, .mv p35 q37 .b] (.cond q35 (.sO [.mv p38 q0 .v, .fa p39 1 q10, .ld p40 q39 tI, .cl p41 141 [q38, q40] tI, .mv p11 q41 tI] (.sj v92_1 (.sO [.mv p42 q4 tI, .bn p43 .lss q42 (ci 0) .b] (.cond q43 (.s (.oX [.mv p44 q0 .v, .mv p45 q2 tI, .cl p46 139 [q44, q45] tI, .mv p4 q46 tI])) (.s .skip))) c92_1)) (.s (.oX [.mv p17 q0 .v, .L p18 (.cells 4 q10) .v, .cl p19 143 [q17, q18] .v]))))))))
def x92 : XFn := ⟨[.v, .s, tI, tI, tI], false, [], c92_e⟩
def e92_0 (k t0 t4 t10 h) := kN k [(p0, t0), (p4, (vI t4)), (p10, t10)] h
def S92_0 (D : CallD) (m : Nat) (t0 : AV) (t4 : Int) (t10 : AV) (h : HP) : Res2 :=
 faC 0 t10 fun t30 =>
 ldI t30 h fun t31 =>
 let t33 := (AV.agg [(vI (Int.ofNat 3)), (vI t31), (vI t4), (vI (Int.ofNat 0)), (vW (Int.ofNat 0)), (AV.int .u64 (Int.ofNat 0)), (vS ([] : LN)), (.nils : AV), (vI (Int.ofNat 0))])
 cal D 140 [t0, t33] h fun t34 h6 =>
 some (.ret (.tup []) h6, .no)
def e92_1 (k t0 t2 t4 t11 h) := kN k [(p0, t0), (p2, (vI t2)), (p4, (vI t4)), (p11, (vI t11))] h
def S92_1 (D : CallD) (m : Nat) (t0 : AV) (t2 t4 t11 : Int) (h : HP) : Res2 :=
 cal D 142 [t0, (vI t2), (vI t11), (vI t4)] h fun t51 h9 =>
 some (.ret (.tup []) h9, .no)
def e92_2 (k t0 t1 t2 t3 t4 h) := kN k [(p0, t0), (p1, (vS t1)), (p2, (vI t2)), (p3, (vI t3)), (p4, (vI t4))] h
def S92_2 (D : CallD) (m : Nat) (t0 : AV) (t1 : LN) (t2 t3 t4 : Int) (h : HP) : Res2 :=
 cal D 138 [t0, (vS t1), (vI t2), (vI t3)] h fun t16 h3 =>
 let t10 := AV.ptr (HP.nxQ h3) 0
 let h4 := HP.newQ h3 (.cells true [(kI 0), (kI 0), (kI 0), (kI 0)])
 stsC 4 t10 t16 h4 fun h5 =>
 let t21 := (AV.ptr (HP.nxQ h3) (Nat.add 0 0))
 ldI t21 h5 fun t22 =>
 let t23 := leQ (Int.ofNat 0) t22
 br t23 (
 let t25 := ltQ t4 (Int.ofNat 0)
 br t25 (
 cal D 139 [t0, (vI t2)] h5 fun t28 h7 =>
 asI .i64 t28 fun t28a =>
 S92_0 D m t0 t28a t10 h7) (
 S92_0 D m t0 t4 t10 h5)) (
 let t37 := eqQ t3 (Int.ofNat 0)
 br t37 (
 let t39 := (AV.ptr (HP.nxQ h3) (Nat.add 0 1))
 ldI t39 h5 fun t40 =>
 cal D 141 [t0, (vI t40)] h5 fun t41 h8 =>
 asI .i64 t41 fun t41a =>
 let t43 := ltQ t4 (Int.ofNat 0)
 br t43 (
 cal D 139 [t0, (vI t2)] h8 fun t46 h10 =>
 asI .i64 t46 fun t46a =>
 S92_1 D m t0 t2 t46a t41a h10) (
 S92_1 D m t0 t2 t4 t41a h8)) (
 cellsC 4 t10 h5 fun t18 =>
 cal D 143 [t0, t18] h5 fun t19 h11 =>
 some (.ret (.tup []) h11, .no)))
def S92 : SFn := fun D m args h u => nou u <| popV args fun t0 args => popS args fun t1 args => popI .i64 args fun t2 args => popI .i64 args fun t3 args => popI .i64 args fun t4 args => endA args (S92_2 D m t0 t1 t2 t3 t4 h)
theorem T92_0 (hE : FX x92 D m E) : S92_0 D m = e92_0 (E c92_0 [.blk 0]) := by unfold S92_0; rw [hE c92_0]; kernel_rfl
theorem T92_1 (hE : FX x92 D m E) : S92_1 D m = e92_1 (E c92_1 [.blk 0]) := by unfold S92_1; rw [hE c92_1]; kernel_rfl
theorem T92_2 (hE : FX x92 D m E) : S92_2 D m = e92_2 (E c92_e []) := by unfold S92_2; rw [T92_0 hE, T92_1 hE, hE c92_e]; kernel_rfl
theorem X92 : XTie S92 x92 := X_of fun D m E hE args h u => by unfold S92; rw [T92_2 hE]; kernel_rfl
/- 93 -/
def v93_0 : List Pos := [p0, p6, p7, p8]
def c93_0b : XC := (.sO [.bn p9 .lss q8 q7 .b] (.seq (.cond q9 .skip (.exit 0)) (.seq (.block 1 (.seq (.oX [.P p10 (.iaddr (.sl 7) q6 q8) .v, .L p11 (.cells 7 q10) .v, .al p5 (.new [(kI 0), .nils, .nils, (.str []), (kI 0), (kI 0), (kI 0)]), .ss 7 q5 q11]) (.oX [.mv p12 q0 .v, .L p13 (.cells 7 q5) .v, .cl p14 144 [q12, q13] .v]))) (.s (.oX [.bn p15 .add q8 (ci 1) tI, .mv p8 q15 tI])))))
def c93_e : XC := (.sO [.mv p6 q1 .v, .P p7 (.lenl q6) tI, .mv p8 (ci 0) tI] (.block 0 (.loop v93_0 c93_0b)))
def x93 : XFn := ⟨[.v, .v], false, [], c93_e⟩
def e93_0 (k t0 t6 t7 t8 h) := kN k [(p0, t0), (p6, t6), (p7, (vI t7)), (p8, (vI t8))] h
def S93_0b (D : CallD) (m : Nat) (g0 : AV → AV → Int → Int → HP → Res2) (t0 t6 : AV) (t7 t8 : Int) (h : HP) : Res2 :=
 let t9 := ltQ t8 t7
 br t9 (
 iasC 7 t6 (vI t8) fun t10 =>
 cellsC 7 t10 h fun t11 =>
 let t5 := AV.ptr (HP.nxQ h) 0
 let h2 := HP.newQ h (.cells true [(kI 0), .nils, .nils, (.str []), (kI 0), (kI 0), (kI 0)])
 stsC 7 t5 t11 h2 fun h3 =>
 cellsC 7 t5 h3 fun t13 =>
 cal D 144 [t0, t13] h3 fun t14 h4 =>
 let t15 := wrQ .i64 (addQ t8 (Int.ofNat 1))
 g0 t0 t6 t7 t15 h4) (
 some (.ret (.tup []) h, .no))
def S93_0 (D : CallD) (m : Nat) : AV → AV → Int → Int → HP → Res2 := nrec (fun _ _ _ _ _ => none) (fun _ g => S93_0b D m g) m
def e93_1 (k t0 t1 h) := kN k [(p0, t0), (p1, t1)] h
def S93_1 (D : CallD) (m : Nat) (t0 t1 : AV) (h : HP) : Res2 :=
 lenC t1 fun vt7 => asI .i64 vt7 fun t7 =>
 S93_0 D m t0 t1 t7 (Int.ofNat 0) h
def S93 : SFn := fun D m args h u => nou u <| popV args fun t0 args => popV args fun t1 args => endA args (S93_1 D m t0 t1 h)
theorem T93_0b (hE : FX x93 D m E) (G0) : S93_0b D m (e93_0 G0) = e93_0 (E c93_0b [.lp v93_0 G0, .blk 0]) := by unfold S93_0b; rw [hE c93_0b]; kernel_rfl
theorem T93_0 (hE : FX x93 D m E) : S93_0 D m = e93_0 (nrec (fun _ => none) (fun _ G0 st => E c93_0b [.lp v93_0 G0, .blk 0] st) m) :=
  nrec_emb e93_0 (fun _ _ _ _ _ => none) (fun g => S93_0b D m g) (fun G0 st => E c93_0b [.lp v93_0 G0, .blk 0] st) rfl (fun g => T93_0b hE g) m
theorem T93_1 (hE : FX x93 D m E) : S93_1 D m = e93_1 (E c93_e []) := by unfold S93_1; rw [T93_0 hE, hE c93_e]; kernel_rfl
theorem X93 : XTie S93 x93 := X_of fun D m E hE args h u => by unfold S93; rw [T93_1 hE]; kernel_rfl
/- 94 -/
def v94_1 : List Pos := [p0, p4]
def c94_1 : XC := (.s (.oX [.mv p33 q0 .v, .mv p34 q4 tI, .P p35 (.build [(kI 0), (kI 0), (kI 0), (kI 0), (.int .u32 (.ofNat 0)), (.int .u64 (.ofNat 0)), (.str []), .nils, (kI 0)] [⟨0, 1, (ci 17)⟩, ⟨2, 1, q34⟩]) .v, .cl p36 140 [q33, q35] .v]))
def v94_0 : List Pos := [p0, p1, p4]
def c94_0 : XC := (.sj v94_1 (.sO [.mv p17 q1 .v, .P p18 (.lenl q17) tI, .bn p19 .eql q18 (ci 0) .b, .mv p20 q19 .b, .ge p20 (XL.of [.G p20 true p21 (.mov q0) .v, .G p20 true p22 (.nilck q21) .v, .G p20 true p23 (.faddr 8 q22) .v, .o ⟨(some p24), (.l (.cell q23)), (some (p20, true)), []⟩ tI, .G p20 true p25 (.bin .neq q24 (ci 0)) .b, .P p26 (.pick q20 q25 (cb false)) .b]) p26 .b] (.cond q26 (.s (.oX [.mv p27 q0 .v, .mv p28 q0 .v, .P p29 (.nilck q28) .v, .fa p30 8 q29, .ld p31 q30 tI, .cl p32 139 [q27, q31] tI, .mv p4 q32 tI])) (.s .skip))) c94_1)
def v94_2 : List Pos := [p0, p1, p4, p7, p8, p9]
def c94_2b : XC := (.sO [.bn p10 .lss q9 q8 .b] (.seq (.cond q10 .skip (.exit 0)) (.seq (.block 1 (.seq (.oX [.P p11 (.iaddr (.sl 8) q7 q9) .v, .L p12 (.cells 8 q11) .v, .al p6 (.new [(kI 0), (.str []), (.str []), (.int .u32 (.ofNat 0)), (.int .u64 (.ofNat 0)), .nils, (kI 0), (kI 0)]), .ss 8 q6 q12]) (.oX [.mv p13 q0 .v, .L p14 (.cells 8 q6) .v, .cl p15 145 [q13, q14] tI, .mv p4 q15 tI]))) (.s (.oX [.bn p16 .add q9 (ci 1) tI, .mv p9 q16 tI])))))
def c94_e : XC := (.sO [.mv p4 (.c (.int .i64 (.negSucc 0))) tI] (.sj v94_0 (.sO [.mv p7 q1 .v, .P p8 (.lenl q7) tI, .mv p9 (ci 0) tI] (.block 0 (.loop v94_2 c94_2b))) c94_0))
def x94 : XFn := ⟨[.v, .v], false, [], c94_e⟩
def e94_1 (k t0 t4 h) := kN k [(p0, t0), (p4, (vI t4))] h
def S94_1 (D : CallD) (m : Nat) (t0 : AV) (t4 : Int) (h : HP) : Res2 :=
 let t35 := (AV.agg [(vI (Int.ofNat 17)), (vI (Int.ofNat 0)), (vI t4), (vI (Int.ofNat 0)), (vW (Int.ofNat 0)), (AV.int .u64 (Int.ofNat 0)), (vS ([] : LN)), (.nils : AV), (vI (Int.ofNat 0))])
 cal D 140 [t0, t35] h fun t36 h4 =>
 some (.ret (.tup []) h4, .no)
def e94_0 (k t0 t1 t4 h) := kN k [(p0, t0), (p1, t1), (p4, (vI t4))] h
def S94_0 (D : CallD) (m : Nat) (t0 t1 : AV) (t4 : Int) (h : HP) : Res2 :=
 lenC t1 fun vt18 => asI .i64 vt18 fun t18 =>
 let t19 := eqQ t18 (Int.ofNat 0)
 obB (brV t19 (
 nilckCV t0 fun t22 =>
 faCV 8 t22 fun t23 =>
 ldIV t23 h fun t24 =>
 let t25 := notQ (eqQ t24 (Int.ofNat 0))
 some (vB t25)) (
 some (vB false))) fun t26 =>
 br t26 (
 nilckC t0 fun t29 =>
 faC 8 t29 fun t30 =>
 ldI t30 h fun t31 =>
 cal D 139 [t0, (vI t31)] h fun t32 h5 =>
 asI .i64 t32 fun t32a =>
 S94_1 D m t0 t32a h5) (
 S94_1 D m t0 t4 h)
def e94_2 (k t0 t1 t4 t7 t8 t9 h) := kN k [(p0, t0), (p1, t1), (p4, (vI t4)), (p7, t7), (p8, (vI t8)), (p9, (vI t9))] h
def S94_2b (D : CallD) (m : Nat) (g2 : AV → AV → Int → AV → Int → Int → HP → Res2) (t0 t1 : AV) (t4 : Int) (t7 : AV) (t8 t9 : Int) (h : HP) : Res2 :=
 let t10 := ltQ t9 t8
 br t10 (
 iasC 8 t7 (vI t9) fun t11 =>
 cellsC 8 t11 h fun t12 =>
 let t6 := AV.ptr (HP.nxQ h) 0
 let h6 := HP.newQ h (.cells true [(kI 0), (.str []), (.str []), (.int .u32 (.ofNat 0)), (.int .u64 (.ofNat 0)), .nils, (kI 0), (kI 0)])
 stsC 8 t6 t12 h6 fun h7 =>
 cellsC 8 t6 h7 fun t14 =>
 cal D 145 [t0, t14] h7 fun t15 h8 =>
 asI .i64 t15 fun t15a =>
 let t16 := wrQ .i64 (addQ t9 (Int.ofNat 1))
 g2 t0 t1 t15a t7 t8 t16 h8) (
 S94_0 D m t0 t1 t4 h)
def S94_2 (D : CallD) (m : Nat) : AV → AV → Int → AV → Int → Int → HP → Res2 := nrec (fun _ _ _ _ _ _ _ => none) (fun _ g => S94_2b D m g) m
def e94_3 (k t0 t1 h) := kN k [(p0, t0), (p1, t1)] h
def S94_3 (D : CallD) (m : Nat) (t0 t1 : AV) (h : HP) : Res2 :=
 lenC t1 fun vt8 => asI .i64 vt8 fun t8 =>
 S94_2 D m t0 t1 (Int.negSucc 0) t1 t8 (Int.ofNat 0) h
def S94 : SFn := fun D m args h u => nou u <| popV args fun t0 args => popV args fun t1 args => endA args (S94_3 D m t0 t1 h)
theorem T94_1 (hE : FX x94 D m E) : S94_1 D m = e94_1 (E c94_1 []) := by unfold S94_1; rw [hE c94_1]; kernel_rfl
theorem T94_0 (hE : FX x94 D m E) : S94_0 D m = e94_0 (E c94_0 []) := by unfold S94_0; rw [T94_1 hE, hE c94_0]; kernel_rfl
theorem T94_2b (hE : FX x94 D m E) (G2) : S94_2b D m (e94_2 G2) = e94_2 (E c94_2b [.lp v94_2 G2, .blk 0, .sj v94_0 c94_0]) := by unfold S94_2b; rw [T94_0 hE, hE c94_2b]; kernel_rfl
theorem T94_2 (hE : FX x94 D m E) : S94_2 D m = e94_2 (nrec (fun _ => none) (fun _ G2 st => E c94_2b [.lp v94_2 G2, .blk 0, .sj v94_0 c94_0] st) m) :=
  nrec_emb e94_2 (fun _ _ _ _ _ _ _ => none) (fun g => S94_2b D m g) (fun G2 st => E c94_2b [.lp v94_2 G2, .blk 0, .sj v94_0 c94_0] st) rfl (fun g => T94_2b hE g) m
theorem T94_3 (hE : FX x94 D m E) : S94_3 D m = e94_3 (E c94_e []) := by unfold S94_3; rw [T94_2 hE, hE c94_e]; kernel_rfl
theorem X94 : XTie S94 x94 := X_of fun D m E hE args h u => by unfold S94; rw [T94_3 hE]; kernel_rfl
/- 95 -/
def v95_2 : List Pos := []
def c95_2 : XC := (.sO [.mv p2 (cb true) .b] (.s .ret))
def v95_3 : List Pos := [p0, p7]
def c95_3b : XC := (.seq (.seq (.oX [.mv p57 q7 tI, .mv p58 q0 .s, .P p59 (.lens q58) tI, .bn p60 .lss q57 q59 .b]) (.cond q60 .skip (.exit 4))) (.seq (.block 5 (.seq (.oX [.mv p63 q0 .s, .mv p64 q7 tI, .P p65 (.idxs q63 q64) tC, .mv p8 q65 tC]) (.seq (.oX [.mv p66 q8 tC, .bn p67 .geq q66 (.c (.int .u8 (.ofNat 97))) .b, .mv p68 q67 .b, .ge p68 (XL.of [.G p68 true p69 (.mov q8) tC, .G p68 true p70 (.bin .leq q69 (.c (.int .u8 (.ofNat 122)))) .b, .P p71 (.pick q68 q70 (cb false)) .b]) p71 .b, .mv p72 q71 .b, .ge p72 (XL.of [.G p72 false p73 (.mov q8) tC, .G p72 false p74 (.bin .geq q73 (.c (.int .u8 (.ofNat 65)))) .b, .G p72 false p75 (.mov q74) .b, .ge p75 (XL.of [.G p75 true p76 (.mov q8) tC, .G p75 true p77 (.bin .leq q76 (.c (.int .u8 (.ofNat 90)))) .b, .G p72 false p78 (.pick q75 q77 (cb false)) .b]) p78 .b, .P p79 (.pick q72 (cb true) q78) .b]) p79 .b, .mv p80 q79 .b, .ge p80 (XL.of [.G p80 false p81 (.mov q8) tC, .G p80 false p82 (.bin .eql q81 (.c (.int .u8 (.ofNat 95)))) .b, .P p83 (.pick q80 (cb true) q82) .b]) p83 .b, .mv p84 q83 .b, .ge p84 (XL.of [.G p84 false p85 (.mov q7) tI, .G p84 false p86 (.bin .gtr q85 (ci 0)) .b, .G p84 false p87 (.mov q86) .b, .ge p87 (XL.of [.G p87 true p88 (.mov q8) tC, .G p87 true p89 (.bin .geq q88 (.c (.int .u8 (.ofNat 48)))) .b, .G p84 false p90 (.pick q87 q89 (cb false)) .b]) p90 .b, .G p84 false p91 (.mov q90) .b, .ge p91 (XL.of [.G p91 true p92 (.mov q8) tC, .G p91 true p93 (.bin .leq q92 (.c (.int .u8 (.ofNat 57)))) .b, .G p84 false p94 (.pick q91 q93 (cb false)) .b]) p94 .b, .P p95 (.pick q84 (cb true) q94) .b]) p95 .b, .P p96 (.un .not q95) .b]) (.cond q96 (.seq (.oX [.mv p2 (cb false) .b]) .ret) .skip)))) (.s (.oX [.mv p61 q7 tI, .bn p62 .add q61 (ci 1) tI, .mv p7 q62 tI]))))
def v95_1 : List Pos := [p0]
def c95_1 : XC := (.seq (.seq (.oX [.mv p49 q0 .s, .P p50 (.lens q49) tI, .bn p51 .lss q50 (ci 1) .b, .mv p52 q51 .b, .ge p52 (XL.of [.G p52 false p53 (.mov q0) .s, .G p52 false p54 (.lens q53) tI, .G p52 false p55 (.bin .gtr q54 (ci 40)) .b, .P p56 (.pick q52 (cb true) q55) .b]) p56 .b]) (.cond q56 (.seq (.oX [.mv p2 (cb false) .b]) .ret) .skip)) (.sj v95_2 (.sO [.mv p7 (ci 0) tI] (.block 4 (.loop v95_3 c95_3b))) c95_2))
def v95_4 : List Pos := [p0, p3, p5]
def c95_4 : XC := (.sO [.mv p44 q5 .b] (.cond q44 (.s (.oX [.mv p45 q0 .s, .mv p46 q3 tI, .bn p47 .add q46 (ci 1) tI, .P p48 (.slice .str q45 (some q47) none none) .s, .mv p0 q48 .s])) (.s .skip)))
def v95_5 : List Pos := [p0, p3, p5, p6]
def c95_5b : XC := (.seq (.seq (.oX [.mv p26 q6 tI, .mv p27 q3 tI, .bn p28 .lss q26 q27 .b]) (.cond q28 .skip (.exit 2))) (.seq (.block 3 (.oX [.mv p31 q5 .b, .mv p32 q31 .b, .ge p32 (XL.of [.G p32 true p33 (.mov q0) .s, .G p32 true p34 (.mov q6) tI, .G p32 true p35 (.idxs q33 q34) tC, .G p32 true p36 (.bin .geq q35 (.c (.int .u8 (.ofNat 48)))) .b, .P p37 (.pick q32 q36 (cb false)) .b]) p37 .b, .mv p38 q37 .b, .ge p38 (XL.of [.G p38 true p39 (.mov q0) .s, .G p38 true p40 (.mov q6) tI, .G p38 true p41 (.idxs q39 q40) tC, .G p38 true p42 (.bin .leq q41 (.c (.int .u8 (.ofNat 57)))) .b, .P p43 (.pick q38 q42 (cb false)) .b]) p43 .b, .mv p5 q43 .b])) (.s (.oX [.mv p29 q6 tI, .bn p30 .add q29 (ci 1) tI, .mv p6 q30 tI]))))
def v95_0 : List Pos := [p0, p3]
def c95_0 : XC := (.sj v95_1 (.sO [.mv p24 q3 tI, .bn p25 .gtr q24 (ci 0) .b] (.cond q25 (.sO [.mv p5 (cb true) .b] (.sj v95_4 (.sO [.mv p6 (ci 0) tI] (.block 2 (.loop v95_5 c95_5b))) c95_4)) (.s .skip))) c95_1)
def v95_7 : List Pos := [p0, p3, p4]
def c95_7 : XC := (.s (.oX [.mv p13 q4 tI, .bn p14 .add q13 (ci 1) tI, .mv p4 q14 tI]))
def v95_6 : List Pos := [p0, p3, p4]
def c95_6b : XC := (.seq (.seq (.oX [.mv p9 q4 tI, .mv p10 q0 .s, .P p11 (.lens q10) tI, .bn p12 .lss q9 q11 .b]) (.cond q12 .skip (.exit 0))) (.sj v95_7 (.block 1 (.sO [.mv p15 q0 .s, .mv p16 q4 tI, .P p17 (.idxs q15 q16) tC, .bn p18 .eql q17 (.c (.int .u8 (.ofNat 46))) .b, .mv p19 q18 .b, .ge p19 (XL.of [.G p19 true p20 (.mov q3) tI, .G p19 true p21 (.bin .lss q20 (ci 0)) .b, .P p22 (.pick q19 q21 (cb false)) .b]) p22 .b] (.cond q22 (.s (.oX [.mv p23 q4 tI, .mv p3 q23 tI])) (.s .skip)))) c95_7))
def c95_e : XC := (.sO [.mv p2 (cb false) .b] (.sO [.mv p3 (.c (.int .i64 (.negSucc 0))) tI] (.sj v95_0 (.sO [.mv p4 (ci 0) tI] (.block 0 (.loop v95_6 c95_6b))) c95_0)))
def x95 : XFn := ⟨[.s], false, [(.tmp p2)], c95_e⟩
def e95_2 (k h) := kN k [] h
def S95_2 (D : CallD) (m : Nat) (h : HP) : Res2 :=
 some (.ret (vB true) h, .no)
def e95_3 (k t0 t7 h) := kN k [(p0, (vS t0)), (p7, (vI t7))] h
def S95_3b (D : CallD) (m : Nat) (g3 : LN → Int → HP → Res2) (t0 : LN) (t7 : Int) (h : HP) : Res2 :=
 let t59 := Int.ofNat (lenL t0)
 let t60 := ltQ t7 t59
 br t60 (
 ixC (vS t0) (vI t7) fun vt65 => asI .u8 vt65 fun t65 =>
 let t67 := leQ (Int.ofNat 97) t65
 obB (brV t67 (
 let t70 := leQ t65 (Int.ofNat 122)
 some (vB t70)) (
 some (vB false))) fun t71 =>
 obB (brV t71 (
 some (vB true)) (
 let t74 := leQ (Int.ofNat 65) t65
 obBV (brV t74 (
 let t77 := leQ t65 (Int.ofNat 90)
 some (vB t77)) (
 some (vB false))) fun t78 =>
 some (vB t78))) fun t79 =>
 obB (brV t79 (
 some (vB true)) (
 let t82 := eqQ t65 (Int.ofNat 95)
 some (vB t82))) fun t83 =>
 obB (brV t83 (
 some (vB true)) (
 let t86 := ltQ (Int.ofNat 0) t7
 obBV (brV t86 (
 let t89 := leQ (Int.ofNat 48) t65
 some (vB t89)) (
 some (vB false))) fun t90 =>
 obBV (brV t90 (
 let t93 := leQ t65 (Int.ofNat 57)
 some (vB t93)) (
 some (vB false))) fun t94 =>
 some (vB t94))) fun t95 =>
 let t96 := !t95
 br t96 (
 some (.ret (vB false) h, .no)) (
 let t62 := wrQ .i64 (addQ t7 (Int.ofNat 1))
 g3 t0 t62 h)) (
 S95_2 D m h)
def S95_3 (D : CallD) (m : Nat) : LN → Int → HP → Res2 := nrec (fun _ _ _ => none) (fun _ g => S95_3b D m g) m
def e95_1 (k t0 h) := kN k [(p0, (vS t0))] h
def S95_1 (D : CallD) (m : Nat) (t0 : LN) (h : HP) : Res2 :=
 let t50 := Int.ofNat (lenL t0)
 let t51 := ltQ t50 (Int.ofNat 1)
 obB (brV t51 (
 some (vB true)) (
 let t54 := Int.ofNat (lenL t0)
 let t55 := ltQ (Int.ofNat 40) t54
 some (vB t55))) fun t56 =>
 br t56 (
 some (.ret (vB false) h, .no)) (
 S95_3 D m t0 (Int.ofNat 0) h)
def e95_4 (k t0 t3 t5 h) := kN k [(p0, (vS t0)), (p3, (vI t3)), (p5, (vB t5))] h
def S95_4 (D : CallD) (m : Nat) (t0 : LN) (t3 : Int) (t5 : Bool) (h : HP) : Res2 :=
 br t5 (
 let t47 := wrQ .i64 (addQ t3 (Int.ofNat 1))
 slC (vS t0) (some (vI t47)) none fun vt48 => asS vt48 fun t48 =>
 S95_1 D m t48 h) (
 S95_1 D m t0 h)
def e95_5 (k t0 t3 t5 t6 h) := kN k [(p0, (vS t0)), (p3, (vI t3)), (p5, (vB t5)), (p6, (vI t6))] h
def S95_5b (D : CallD) (m : Nat) (g5 : LN → Int → Bool → Int → HP → Res2) (t0 : LN) (t3 : Int) (t5 : Bool) (t6 : Int) (h : HP) : Res2 :=
 let t28 := ltQ t6 t3
 br t28 (
 obB (brV t5 (
 ixCV (vS t0) (vI t6) fun vt35 => asIV .u8 vt35 fun t35 =>
 let t36 := leQ (Int.ofNat 48) t35
 some (vB t36)) (
 some (vB false))) fun t37 =>
 obB (brV t37 (
 ixCV (vS t0) (vI t6) fun vt41 => asIV .u8 vt41 fun t41 =>
 let t42 := leQ t41 (Int.ofNat 57)
 some (vB t42)) (
 some (vB false))) fun t43 =>
 let t30 := wrQ .i64 (addQ t6 (Int.ofNat 1))
 g5 t0 t3 t43 t30 h) (
 S95_4 D m t0 t3 t5 h)
def S95_5 (D : CallD) (m : Nat) : LN → Int → Bool → Int → HP → Res2 := nrec (fun _ _ _ _ _ => none) (fun _ g => S95_5b D m g) m
def e95_0 (k t0 t3 h) := kN k [(p0, (vS t0)), (p3, (vI t3))] h
def S95_0 (D : CallD) (m : Nat) (t0 : LN) (t3 : Int) (h : HP) : Res2 :=
 let t25 := ltQ (Int.ofNat 0) t3
 br t25 (
 S95_5 D m t0 t3 true (Int.ofNat 0) h) (
 S95_1 D m t0 h)
def e95_7 (k t0 t3 t4 h) := kN k [(p0, (vS t0)), (p3, (vI t3)), (p4, (vI t4))] h
def S95_7 (D : CallD) (m : Nat) (g6 : LN → Int → Int → HP → Res2) (t0 : LN) (t3 t4 : Int) (h : HP) : Res2 :=
 let t14 := wrQ .i64 (addQ t4 (Int.ofNat 1))
 g6 t0 t3 t14 h
def e95_6 (k t0 t3 t4 h) := kN k [(p0, (vS t0)), (p3, (vI t3)), (p4, (vI t4))] h
def S95_6b (D : CallD) (m : Nat) (g6 : LN → Int → Int → HP → Res2) (t0 : LN) (t3 t4 : Int) (h : HP) : Res2 :=
 let t11 := Int.ofNat (lenL t0)
 let t12 := ltQ t4 t11
 br t12 (
 ixC (vS t0) (vI t4) fun vt17 => asI .u8 vt17 fun t17 =>
 let t18 := eqQ t17 (Int.ofNat 46)
 obB (brV t18 (
 let t21 := ltQ t3 (Int.ofNat 0)
 some (vB t21)) (
 some (vB false))) fun t22 =>
 br t22 (
 S95_7 D m g6 t0 t4 t4 h) (
 S95_7 D m g6 t0 t3 t4 h)) (
 S95_0 D m t0 t3 h)
def S95_6 (D : CallD) (m : Nat) : LN → Int → Int → HP → Res2 := nrec (fun _ _ _ _ => none) (fun _ g => S95_6b D m g) m
def e95_8 (k t0 h) := kN k [(p0, (vS t0))] h
def S95_8 (D : CallD) (m : Nat) (t0 : LN) (h : HP) : Res2 :=
 S95_6 D m t0 (Int.negSucc 0) (Int.ofNat 0) h
def S95 : SFn := fun D m args h u => nou u <| popS args fun t0 args => endA args (S95_8 D m t0 h)
theorem T95_2 (hE : FX x95 D m E) : S95_2 D m = e95_2 (E c95_2 []) := by unfold S95_2; rw [hE c95_2]; kernel_rfl
theorem T95_3b (hE : FX x95 D m E) (G3) : S95_3b D m (e95_3 G3) = e95_3 (E c95_3b [.lp v95_3 G3, .blk 4, .sj v95_2 c95_2]) := by unfold S95_3b; rw [T95_2 hE, hE c95_3b]; kernel_rfl
theorem T95_3 (hE : FX x95 D m E) : S95_3 D m = e95_3 (nrec (fun _ => none) (fun _ G3 st => E c95_3b [.lp v95_3 G3, .blk 4, .sj v95_2 c95_2] st) m) :=
  nrec_emb e95_3 (fun _ _ _ => none) (fun g => S95_3b D m g) (fun G3 st => E c95_3b [.lp v95_3 G3, .blk 4, .sj v95_2 c95_2] st) rfl (fun g => T95_3b hE g) m
theorem T95_1 (hE : FX x95 D m E) : S95_1 D m = e95_1 (E c95_1 []) := by unfold S95_1; rw [T95_3 hE, hE c95_1]; kernel_rfl
theorem T95_4 (hE : FX x95 D m E) : S95_4 D m = e95_4 (E c95_4 [.sj v95_1 c95_1]) := by unfold S95_4; rw [T95_1 hE, hE c95_4]; kernel_rfl
theorem T95_5b (hE : FX x95 D m E) (G5) : S95_5b D m (e95_5 G5) = e95_5 (E c95_5b [.lp v95_5 G5, .blk 2, .sj v95_4 c95_4, .sj v95_1 c95_1]) := by unfold S95_5b; rw [T95_4 hE, hE c95_5b]; kernel_rfl
theorem T95_5 (hE : FX x95 D m E) : S95_5 D m = e95_5 (nrec (fun _ => none) (fun _ G5 st => E c95_5b [.lp v95_5 G5, .blk 2, .sj v95_4 c95_4, .sj v95_1 c95_1] st) m) :=
  nrec_emb e95_5 (fun _ _ _ _ _ => none) (fun g => S95_5b D m g) (fun G5 st => E c95_5b [.lp v95_5 G5, .blk 2, .sj v95_4 c95_4, .sj v95_1 c95_1] st) rfl (fun g => T95_5b hE g) m
theorem T95_0 (hE : FX x95 D m E) : S95_0 D m = e95_0 (E c95_0 []) := by unfold S95_0; rw [T95_5 hE, T95_1 hE, hE c95_0]; kernel_rfl
theorem T95_7 (hE : FX x95 D m E) (G6) : S95_7 D m (e95_6 G6) = e95_7 (E c95_7 [.lp v95_6 G6, .blk 0, .sj v95_0 c95_0]) := by unfold S95_7; rw [hE c95_7]; kernel_rfl
theorem T95_6b (hE : FX x95 D m E) (G6) : S95_6b D m (e95_6 G6) = e95_6 (E c95_6b [.lp v95_6 G6, .blk 0, .sj v95_0 c95_0]) := by unfold S95_6b; rw [T95_7 hE G6, T95_0 hE, hE c95_6b]; kernel_rfl
theorem T95_6 (hE : FX x95 D m E) : S95_6 D m = e95_6 (nrec (fun _ => none) (fun _ G6 st => E c95_6b [.lp v95_6 G6, .blk 0, .sj v95_0 c95_0] st) m) :=
  nrec_emb e95_6 (fun _ _ _ _ => none) (fun g => S95_6b D m g) (fun G6 st => E c95_6b [.lp v95_6 G6, .blk 0, .sj v95_0 c95_0] st) rfl (fun g => T95_6b hE g) m
theorem T95_8 (hE : FX x95 D m E) : S95_8 D m = e95_8 (E c95_e []) := by unfold S95_8; rw [T95_6 hE, hE c95_e]; kernel_rfl
theorem X95 : XTie S95 x95 := X_of fun D m E hE args h u => by unfold S95; rw [T95_8 hE]; kernel_rfl
/- 96 -/
def c96_e : XC := (.sO [.al p2 (.box q0), .mv p4 (ci 0) tI] (.seq (.seq (.oX [.mv p5 q1 tI, .bn p6 .lss q5 (ci 0) .b, .mv p7 q6 .b, .ge p7 (XL.of [.G p7 false p8 (.mov q1) tI, .G p7 false p9 (.faddr 3 q2) .v, .o ⟨(some p10), (.l (.cell q9)), (some (p7, false)), []⟩ .v, .G p7 false p11 (.lenl q10) tI, .G p7 false p12 (.bin .geq q8 q11) .b, .P p13 (.pick q7 (cb true) q12) .b]) p13 .b]) (.cond q13 (.seq (.oX [.mv p4 (ci 0) tI]) .ret) .skip)) (.sO [.fa p14 3 q2, .ld p15 q14 .v, .mv p16 q1 tI, .P p17 (.iaddr (.sl 1) q15 q16) .v, .ld p18 q17 tI, .mv p4 q18 tI] (.s .ret))))
def x96 : XFn := ⟨[.v, tI], false, [(.tmp p4)], c96_e⟩
def e96_0 (k t0 t1 h) := kN k [(p0, t0), (p1, (vI t1))] h
def S96_0 (D : CallD) (m : Nat) (t0 : AV) (t1 : Int) (h : HP) : Res2 :=
 let t2 := AV.ptr (HP.nxQ h) 0
 let h1 := HP.newQ h (.cells true (AV.cells t0))
 let t6 := ltQ t1 (Int.ofNat 0)
 obB (brV t6 (
 some (vB true)) (
 let t9 := (AV.ptr (HP.nxQ h) (Nat.add 0 3))
 cellCV t9 h1 fun t10 =>
 lenCV t10 fun vt11 => asIV .i64 vt11 fun t11 =>
 let t12 := leQ t11 t1
 some (vB t12))) fun t13 =>
 br t13 (
 some (.ret (vI (Int.ofNat 0)) h1, .no)) (
 let t14 := (AV.ptr (HP.nxQ h) (Nat.add 0 3))
 cellC t14 h1 fun t15 =>
 iasC 1 t15 (vI t1) fun t17 =>
 ldI t17 h1 fun t18 =>
 some (.ret (vI t18) h1, .no))
def S96 : SFn := fun D m args h u => nou u <| popV args fun t0 args => popI .i64 args fun t1 args => endA args (S96_0 D m t0 t1 h)
theorem T96_0 (hE : FX x96 D m E) : S96_0 D m = e96_0 (E c96_e []) := by unfold S96_0; rw [hE c96_e]; kernel_rfl
theorem X96 : XTie S96 x96 := X_of fun D m E hE args h u => by unfold S96; rw [T96_0 hE]; kernel_rfl
/- 97 -/
def c97_8 : XC := (.s .ret)
def l97_7 : XL := (XL.of [.mv p4 q238 .b])
def l97_6 : XL := (XL.pre [.P p238 (.pick q223 q237 (cb false)) .b, .jn p223 [p238]] l97_7)
def l97_5 : XL := (XL.pre [.mv p223 q222 .b, .sp p223, .G p223 true p224 (.faddr 0 q3) .v, .o ⟨(some p225), (.l (.cell q224)), (some (p223, true)), []⟩ tI, .G p223 true p226 (.bin .neq q225 (ci 3)) .b, .G p223 true p227 (.mov q226) .b, .sp p227, .o ⟨(some p228), (.l (.cells 6 q2)), (some (p227, false)), []⟩ .v, .G p227 false p229 (.faddr 2 q3) .v, .o ⟨(some p230), (.l (.cell q229)), (some (p227, false)), []⟩ tI, .o ⟨(some p232), (.l (.cells 6 q2)), (some (p227, false)), []⟩ .v, .G p227 false p233 (.faddr 1 q3) .v, .o ⟨(some p234), (.l (.cell q233)), (some (p227, false)), []⟩ tI, .o ⟨(some p231), (.call (.fn 96) [q228, q230]), (some (p227, false)), [⟨(some (p227, false)), .cells 6 q2, p232⟩, ⟨(some (p227, false)), .cell q233, p234⟩]⟩ tI, .o ⟨(some p235), (.call (.fn 96) [q232, q234]), (some (p227, false)), []⟩ tI, .G p227 false p236 (.bin .eql q231 q235) .b, .G p223 true p237 (.pick q227 (cb true) q236) .b, .jn p227 [p223, p237]] l97_6)
def l97_4 : XL := (XL.pre [.mv p215 q214 .b, .sp p215, .o ⟨(some p216), (.l (.cells 6 q2)), (some (p215, true)), []⟩ .v, .G p215 true p217 (.faddr 3 q3) .v, .o ⟨(some p218), (.l (.cell q217)), (some (p215, true)), []⟩ tI, .G p215 true p219 (.iaddr (.arr 3 1) q6 (ci 2)) .v, .o ⟨(some p220), (.l (.cell q219)), (some (p215, true)), []⟩ tI, .o ⟨(some p221), (.call (.fn 147) [q216, q218, q220]), (some (p215, true)), []⟩ .b, .P p222 (.pick q215 q221 (cb false)) .b, .jn p215 [p2, p3, p222]] l97_5)
def v97_3 : List Pos := [p2, p3]
def c97_3 : XC := (.sO [.fa p198 0 q3, .ld p199 q198 tI, .cl p200 146 [q199] .v, .al p6 (.new [(kI 0), (kI 0), (kI 0)]), .ss 3 q6 q200] (.opq true (XL.pre [.L p201 (.cells 6 q2) .v, .fa p202 1 q3, .ld p203 q202 tI, .P p204 (.iaddr (.arr 3 1) q6 (ci 0)) .v, .ld p205 q204 tI, .cl p206 147 [q201, q203, q205] .b, .mv p207 q206 .b, .sp p207, .o ⟨(some p208), (.l (.cells 6 q2)), (some (p207, true)), []⟩ .v, .G p207 true p209 (.faddr 2 q3) .v, .o ⟨(some p210), (.l (.cell q209)), (some (p207, true)), []⟩ tI, .G p207 true p211 (.iaddr (.arr 3 1) q6 (ci 1)) .v, .o ⟨(some p212), (.l (.cell q211)), (some (p207, true)), []⟩ tI, .o ⟨(some p213), (.call (.fn 147) [q208, q210, q212]), (some (p207, true)), []⟩ .b, .P p214 (.pick q207 q213 (cb false)) .b, .jn p207 [p2, p3, p6, p214]] l97_4) c97_8))
def c97_11 : XC := (.s .ret)
def l97_10 : XL := (XL.of [.mv p4 q197 .b])
def l97_9 : XL := (XL.pre [.P p197 (.pick q186 q196 (cb false)) .b, .jn p186 [p197]] l97_10)
def v97_2 : List Pos := [p2, p3]
def c97_2 : XC := (.sj v97_3 (.sO [.fa p175 0 q3, .ld p176 q175 tI, .bn p177 .eql q176 (ci 17) .b] (.cond q177 (.opq false (XL.pre [.fa p178 1 q3, .ld p179 q178 tI, .bn p180 .eql q179 (ci 0) .b, .mv p181 q180 .b, .ge p181 (XL.of [.G p181 true p182 (.faddr 3 q3) .v, .o ⟨(some p183), (.l (.cell q182)), (some (p181, true)), []⟩ tI, .G p181 true p184 (.bin .eql q183 (ci 0)) .b, .P p185 (.pick q181 q184 (cb false)) .b]) p185 .b, .mv p186 q185 .b, .sp p186, .G p186 true p187 (.faddr 2 q3) .v, .o ⟨(some p188), (.l (.cell q187)), (some (p186, true)), []⟩ tI, .G p186 true p189 (.bin .eql q188 (.c (.int .i64 (.negSucc 0)))) .b, .G p186 true p190 (.mov q189) .b, .sp p190, .o ⟨(some p191), (.l (.cells 6 q2)), (some (p190, false)), []⟩ .v, .G p190 false p192 (.faddr 2 q3) .v, .o ⟨(some p193), (.l (.cell q192)), (some (p190, false)), []⟩ tI, .o ⟨(some p194), (.call (.fn 96) [q191, q193]), (some (p190, false)), []⟩ tI, .G p190 false p195 (.bin .neq q194 (ci 0)) .b, .G p186 true p196 (.pick q190 (cb true) q195) .b, .jn p190 [p186, p196]] l97_9) c97_11) (.s .skip))) c97_3)
def c97_15 : XC := (.s .ret)
def l97_14 : XL := (XL.of [.mv p4 q174 .b])
def l97_13 : XL := (XL.pre [.P p174 (.pick q163 q173 (cb false)) .b, .jn p163 [p174]] l97_14)
def v97_12 : List Pos := [p2, p3]
def c97_12 : XC := (.opq false (XL.pre [.fa p155 2 q3, .ld p156 q155 tI, .bn p157 .eql q156 (ci 0) .b, .mv p158 q157 .b, .ge p158 (XL.of [.G p158 true p159 (.faddr 3 q3) .v, .o ⟨(some p160), (.l (.cell q159)), (some (p158, true)), []⟩ tI, .G p158 true p161 (.bin .eql q160 (ci 0)) .b, .P p162 (.pick q158 q161 (cb false)) .b]) p162 .b, .mv p163 q162 .b, .sp p163, .G p163 true p164 (.faddr 1 q3) .v, .o ⟨(some p165), (.l (.cell q164)), (some (p163, true)), []⟩ tI, .G p163 true p166 (.bin .eql q165 (.c (.int .i64 (.negSucc 0)))) .b, .G p163 true p167 (.mov q166) .b, .sp p167, .o ⟨(some p168), (.l (.cells 6 q2)), (some (p167, false)), []⟩ .v, .G p167 false p169 (.faddr 1 q3) .v, .o ⟨(some p170), (.l (.cell q169)), (some (p167, false)), []⟩ tI, .o ⟨(some p171), (.call (.fn 96) [q168, q170]), (some (p167, false)), []⟩ tI, .G p167 false p172 (.bin .neq q171 (ci 0)) .b, .G p163 true p173 (.pick q167 (cb true) q172) .b, .jn p167 [p163, p173]] l97_13) c97_15)
def v97_16 : List Pos := [p2, p3, p142, p143]
def c97_16b : XC := (.sO [.bn p144 .lss q143 q142 .b] (.seq (.cond q144 .skip (.exit 1)) (.seq (.block 2 (.seq (.oX [.mv p145 q143 tI, .mv p5 q145 tI]) (.seq (.ops true (XL.of [.L p146 (.cells 6 q2) .v, .fa p147 7 q3, .ld p148 q147 .v, .mv p149 q5 tI, .P p150 (.iaddr (.sl 1) q148 q149) .v, .ld p151 q150 tI, .cl p152 96 [q146, q151] tI, .bn p153 .eql q152 (ci 0) .b])) (.cond q153 (.seq (.oX [.mv p4 (cb false) .b]) .ret) .skip)))) (.s (.oX [.bn p154 .add q143 (ci 1) tI, .mv p143 q154 tI])))))
def v97_1 : List Pos := [p2, p3]
def c97_1 : XC := (.sj v97_2 (.sO [.fa p137 0 q3, .ld p138 q137 tI, .bn p139 .eql q138 (ci 16) .b] (.cond q139 (.sj v97_12 (.sO [.fa p140 7 q3, .ld p141 q140 .v, .P p142 (.lenl q141) tI, .mv p143 (ci 0) tI] (.block 1 (.loop v97_16 c97_16b))) c97_12) (.s .skip))) c97_2)
def v97_0 : List Pos := [p2, p3]
def c97_0 : XC := (.seq (.seq (.oX [.fa p65 0 q3, .ld p66 q65 tI, .bn p67 .neq q66 (ci 18) .b, .mv p68 q67 .b, .ge p68 (XL.of [.G p68 true p69 (.faddr 0 q3) .v, .o ⟨(some p70), (.l (.cell q69)), (some (p68, true)), []⟩ tI, .G p68 true p71 (.bin .neq q70 (ci 19)) .b, .P p72 (.pick q68 q71 (cb false)) .b]) p72 .b, .mv p73 q72 .b, .ge p73 (XL.of [.G p73 true p74 (.faddr 8 q3) .v, .o ⟨(some p75), (.l (.cell q74)), (some (p73, true)), []⟩ tI, .G p73 true p76 (.bin .neq q75 (ci 0)) .b, .P p77 (.pick q73 q76 (cb false)) .b]) p77 .b, .mv p78 q77 .b, .ge p78 (XL.of [.G p78 false p79 (.faddr 8 q3) .v, .o ⟨(some p80), (.l (.cell q79)), (some (p78, false)), []⟩ tI, .G p78 false p81 (.bin .lss q80 (ci 0)) .b, .P p82 (.pick q78 (cb true) q81) .b]) p82 .b, .mv p83 q82 .b, .ge p83 (XL.of [.G p83 false p84 (.faddr 8 q3) .v, .o ⟨(some p85), (.l (.cell q84)), (some (p83, false)), []⟩ tI, .G p83 false p86 (.faddr 5 q2) .v, .o ⟨(some p87), (.l (.cell q86)), (some (p83, false)), []⟩ .v, .G p83 false p88 (.lenl q87) tI, .G p83 false p89 (.bin .geq q85 q88) .b, .P p90 (.pick q83 (cb true) q89) .b]) p90 .b]) (.cond q90 (.seq (.oX [.mv p4 (cb false) .b]) .ret) .skip)) (.sj v97_1 (.sO [.fa p91 0 q3, .ld p92 q91 tI] (.block 0 (.sO [.bn p97 .eql q92 (ci 1) .b, .mv p96 q97 .b] (.cond q96 (.s .skip) (.sO [.bn p99 .eql q92 (ci 4) .b, .mv p98 q99 .b] (.cond q98 (.sO [.fa p100 4 q3, .ld p101 q100 tW, .bn p102 .lss q101 (.c (.int .u32 (.ofNat 1))) .b, .mv p103 q102 .b, .ge p103 (XL.of [.G p103 false p104 (.faddr 4 q3) .v, .o ⟨(some p105), (.l (.cell q104)), (some (p103, false)), []⟩ tW, .G p103 false p106 (.bin .gtr q105 (.c (.int .u32 (.ofNat 17)))) .b, .P p107 (.pick q103 (cb true) q106) .b]) p107 .b] (.cond q107 (.sO [.mv p4 (cb false) .b] (.s .ret)) (.s .skip))) (.sO [.bn p109 .eql q92 (ci 5) .b, .mv p108 q109 .b] (.cond q108 (.sO [.fa p110 4 q3, .ld p111 q110 tW, .bn p112 .lss q111 (.c (.int .u32 (.ofNat 45))) .b, .mv p113 q112 .b, .ge p113 (XL.of [.G p113 false p114 (.faddr 4 q3) .v, .o ⟨(some p115), (.l (.cell q114)), (some (p113, false)), []⟩ tW, .G p113 false p116 (.bin .gtr q115 (.c (.int .u32 (.ofNat 48)))) .b, .P p117 (.pick q113 (cb true) q116) .b]) p117 .b] (.cond q117 (.sO [.mv p4 (cb false) .b] (.s .ret)) (.s .skip))) (.sO [.bn p119 .eql q92 (ci 6) .b, .mv p118 q119 .b] (.cond q118 (.sO [.fa p120 4 q3, .ld p121 q120 tW, .bn p122 .lss q121 (.c (.int .u32 (.ofNat 51))) .b, .mv p123 q122 .b, .ge p123 (XL.of [.G p123 false p124 (.faddr 4 q3) .v, .o ⟨(some p125), (.l (.cell q124)), (some (p123, false)), []⟩ tW, .G p123 false p126 (.bin .gtr q125 (.c (.int .u32 (.ofNat 53)))) .b, .P p127 (.pick q123 (cb true) q126) .b]) p127 .b] (.cond q127 (.sO [.mv p4 (cb false) .b] (.s .ret)) (.s .skip))) (.sO [.bn p129 .eql q92 (ci 11) .b, .mv p128 q129 .b] (.cond q128 (.sO [.fa p130 4 q3, .ld p131 q130 tW, .P p132 (.conv (.ii .i64) q131) tI, .fa p133 4 q2, .ld p134 q133 .v, .P p135 (.lenl q134) tI, .bn p136 .geq q132 q135 .b] (.cond q136 (.sO [.mv p4 (cb false) .b] (.s .ret)) (.s .skip))) (.sO [.fa p93 4 q3, .ld p94 q93 tW, .bn p95 .neq q94 (.c (.int .u32 (.ofNat 0))) .b] (.cond q95 (.sO [.mv p4 (cb false) .b] (.s .ret)) (.s .skip))))))))))))))) c97_1))
def c97_19 : XC := (.cond q64 (.sO [.mv p4 (cb false) .b] (.s .ret)) (.s .skip))
def l97_18 : XL := (XL.of [])
def l97_17 : XL := (XL.pre [.P p64 (.pick q49 (cb true) q63) .b, .jn p49 [p2, p3, p64]] l97_18)
def c97_e : XC := (.sO [.al p2 (.box q0), .al p3 (.box q1), .mv p4 (cb false) .b] (.seq (.seq (.oX [.fa p7 0 q3, .ld p8 q7 tI, .bn p9 .lss q8 (ci 1) .b, .mv p10 q9 .b, .ge p10 (XL.of [.G p10 false p11 (.faddr 0 q3) .v, .o ⟨(some p12), (.l (.cell q11)), (some (p10, false)), []⟩ tI, .G p10 false p13 (.bin .gtr q12 (ci 19)) .b, .P p14 (.pick q10 (cb true) q13) .b]) p14 .b, .mv p15 q14 .b, .ge p15 (XL.of [.G p15 false p16 (.faddr 0 q3) .v, .o ⟨(some p17), (.l (.cell q16)), (some (p15, false)), []⟩ tI, .G p15 false p18 (.bin .neq q17 (ci 2)) .b, .G p15 false p19 (.mov q18) .b, .ge p19 (XL.of [.G p19 true p20 (.faddr 5 q3) .v, .o ⟨(some p21), (.l (.cell q20)), (some (p19, true)), []⟩ (.i .u64), .G p19 true p22 (.bin .neq q21 (.c (.int .u64 (.ofNat 0)))) .b, .G p15 false p23 (.pick q19 q22 (cb false)) .b]) p23 .b, .P p24 (.pick q15 (cb true) q23) .b]) p24 .b, .mv p25 q24 .b, .ge p25 (XL.of [.G p25 false p26 (.faddr 0 q3) .v, .o ⟨(some p27), (.l (.cell q26)), (some (p25, false)), []⟩ tI, .G p25 false p28 (.bin .neq q27 (ci 16)) .b, .G p25 false p29 (.mov q28) .b, .ge p29 (XL.of [.G p29 true p30 (.faddr 7 q3) .v, .o ⟨(some p31), (.l (.cell q30)), (some (p29, true)), []⟩ .v, .G p29 true p32 (.lenl q31) tI, .G p29 true p33 (.bin .gtr q32 (ci 0)) .b, .G p25 false p34 (.pick q29 q33 (cb false)) .b]) p34 .b, .P p35 (.pick q25 (cb true) q34) .b]) p35 .b]) (.cond q35 (.seq (.oX [.mv p4 (cb false) .b]) .ret) .skip)) (.sj v97_0 (.opq false (XL.pre [.fa p36 0 q3, .ld p37 q36 tI, .bn p38 .neq q37 (ci 10) .b, .mv p39 q38 .b, .ge p39 (XL.of [.G p39 true p40 (.faddr 0 q3) .v, .o ⟨(some p41), (.l (.cell q40)), (some (p39, true)), []⟩ tI, .G p39 true p42 (.bin .neq q41 (ci 16)) .b, .P p43 (.pick q39 q42 (cb false)) .b]) p43 .b, .mv p44 q43 .b, .ge p44 (XL.of [.G p44 true p45 (.faddr 6 q3) .v, .o ⟨(some p46), (.l (.cell q45)), (some (p44, true)), []⟩ .s, .G p44 true p47 (.bin .neq q46 (.c (.str []))) .b, .P p48 (.pick q44 q47 (cb false)) .b]) p48 .b, .mv p49 q48 .b, .sp p49, .G p49 false p50 (.faddr 0 q3) .v, .o ⟨(some p51), (.l (.cell q50)), (some (p49, false)), []⟩ tI, .G p49 false p52 (.bin .eql q51 (ci 10)) .b, .G p49 false p53 (.mov q52) .b, .ge p53 (XL.of [.G p53 false p54 (.faddr 0 q3) .v, .o ⟨(some p55), (.l (.cell q54)), (some (p53, false)), []⟩ tI, .G p53 false p56 (.bin .eql q55 (ci 16)) .b, .G p49 false p57 (.pick q53 (cb true) q56) .b]) p57 .b, .G p49 false p58 (.mov q57) .b, .sp p58, .G p58 true p59 (.faddr 6 q3) .v, .o ⟨(some p60), (.l (.cell q59)), (some (p58, true)), []⟩ .s, .o ⟨(some p61), (.call (.fn 95) [q60]), (some (p58, true)), []⟩ .b, .G p58 true p62 (.un .not q61) .b, .G p49 false p63 (.pick q58 q62 (cb false)) .b, .jn p58 [p2, p3, p49, p63]] l97_17) c97_19) c97_0)))
def x97 : XFn := ⟨[.v, .v], false, [(.tmp p4)], c97_e⟩
def e97_7 (k t238 h) := kN k [(p238, (vB t238))] h
def S97_7 (D : CallD) (m : Nat) (t238 : Bool) (h : HP) : Res2 :=
 some (.ret (vB t238) h, .no)
def e97_6 (k t223 t237 h) := kN k [(p223, (vB t223)), (p237, (vB t237))] h
def S97_6 (D : CallD) (m : Nat) (t223 t237 : Bool) (h : HP) : Res2 :=
 obB (brV t223 (some (vB t237)) (some (vB false))) fun t238 =>
 S97_7 D m t238 h
def e97_5 (k t2 t3 t222 h) := kN k [(p2, t2), (p3, t3), (p222, (vB t222))] h
def S97_5 (D : CallD) (m : Nat) (t2 t3 : AV) (t222 : Bool) (h : HP) : Res2 :=
 br t222 (
 faC 0 t3 fun t224 =>
 ldI t224 h fun t225 =>
 let t226 := notQ (eqQ t225 (Int.ofNat 3))
 br t226 (
 S97_6 D m true true h) (
 cellsC 6 t2 h fun t228 =>
 faC 2 t3 fun t229 =>
 ldI t229 h fun t230 =>
 cellsC 6 t2 h fun t232 =>
 faC 1 t3 fun t233 =>
 ldI t233 h fun t234 =>
 cal D 96 [t228, (vI t230)] h fun t231 h29 =>
 br (again [⟨(some (p227, false)), .cells 6 q2, p232⟩, ⟨(some (p227, false)), .cell q233, p234⟩] (mkT [(p234, (vI t234)), (p233, t233), (p232, t232), (p227, (vB false)), (p2, t2)]) h29) (
 asI .i64 t231 fun t231a =>
 cal D 96 [t232, (vI t234)] h29 fun t235 h30 =>
 asI .i64 t235 fun t235a =>
 let t236 := eqQ t231a t235a
 S97_6 D m true t236 h30) none)) (
 S97_7 D m false h)
def e97_4 (k t2 t3 t6 t214 h) := kN k [(p2, t2), (p3, t3), (p6, t6), (p214, (vB t214))] h
def S97_4 (D : CallD) (m : Nat) (t2 t3 t6 : AV) (t214 : Bool) (h : HP) : Res2 :=
 br t214 (
 cellsC 6 t2 h fun t216 =>
 faC 3 t3 fun t217 =>
 ldI t217 h fun t218 =>
 iarC 3 1 t6 (vI (Int.ofNat 2)) fun t219 =>
 ldI t219 h fun t220 =>
 cal D 147 [t216, (vI t218), (vI t220)] h fun t221 h28 =>
 asB t221 fun t221a =>
 S97_5 D m t2 t3 t221a h28) (
 S97_5 D m t2 t3 false h)
def e97_3 (k t2 t3 h) := kN k [(p2, t2), (p3, t3)] h
def S97_3 (D : CallD) (m : Nat) (t2 t3 : AV) (h : HP) : Res2 :=
 faC 0 t3 fun t198 =>
 ldI t198 h fun t199 =>
 cal D 146 [(vI t199)] h fun t200 h23 =>
 let t6 := AV.ptr (HP.nxQ h23) 0
 let h24 := HP.newQ h23 (.cells true [(kI 0), (kI 0), (kI 0)])
 stsC 3 t6 t200 h24 fun h25 =>
 cellsC 6 t2 h25 fun t201 =>
 faC 1 t3 fun t202 =>
 ldI t202 h25 fun t203 =>
 let t204 := (AV.ptr (HP.nxQ h23) (Nat.add 0 (Nat.mul 0 1)))
 ldI t204 h25 fun t205 =>
 cal D 147 [t201, (vI t203), (vI t205)] h25 fun t206 h26 =>
 asB t206 fun t206a =>
 br t206a (
 cellsC 6 t2 h26 fun t208 =>
 faC 2 t3 fun t209 =>
 ldI t209 h26 fun t210 =>
 let t211 := (AV.ptr (HP.nxQ h23) (Nat.add 0 (Nat.mul 1 1)))
 ldI t211 h26 fun t212 =>
 cal D 147 [t208, (vI t210), (vI t212)] h26 fun t213 h27 =>
 asB t213 fun t213a =>
 S97_4 D m t2 t3 t6 t213a h27) (
 S97_4 D m t2 t3 t6 false h26)
def e97_10 (k t197 h) := kN k [(p197, (vB t197))] h
def S97_10 (D : CallD) (m : Nat) (t197 : Bool) (h : HP) : Res2 :=
 some (.ret (vB t197) h, .no)
def e97_9 (k t186 t196 h) := kN k [(p186, (vB t186)), (p196, (vB t196))] h
def S97_9 (D : CallD) (m : Nat) (t186 t196 : Bool) (h : HP) : Res2 :=
 obB (brV t186 (some (vB t196)) (some (vB false))) fun t197 =>
 S97_10 D m t197 h
def e97_2 (k t2 t3 h) := kN k [(p2, t2), (p3, t3)] h
def S97_2 (D : CallD) (m : Nat) (t2 t3 : AV) (h : HP) : Res2 :=
 faC 0 t3 fun t175 =>
 ldI t175 h fun t176 =>
 let t177 := eqQ t176 (Int.ofNat 17)
 br t177 (
 faC 1 t3 fun t178 =>
 ldI t178 h fun t179 =>
 let t180 := eqQ t179 (Int.ofNat 0)
 obB (brV t180 (
 faCV 3 t3 fun t182 =>
 ldIV t182 h fun t183 =>
 let t184 := eqQ t183 (Int.ofNat 0)
 some (vB t184)) (
 some (vB false))) fun t185 =>
 br t185 (
 faC 2 t3 fun t187 =>
 ldI t187 h fun t188 =>
 let t189 := eqQ t188 (Int.negSucc 0)
 br t189 (
 S97_9 D m true true h) (
 cellsC 6 t2 h fun t191 =>
 faC 2 t3 fun t192 =>
 ldI t192 h fun t193 =>
 cal D 96 [t191, (vI t193)] h fun t194 h31 =>
 asI .i64 t194 fun t194a =>
 let t195 := notQ (eqQ t194a (Int.ofNat 0))
 S97_9 D m true t195 h31)) (
 S97_10 D m false h)) (
 S97_3 D m t2 t3 h)
def e97_14 (k t174 h) := kN k [(p174, (vB t174))] h
def S97_14 (D : CallD) (m : Nat) (t174 : Bool) (h : HP) : Res2 :=
 some (.ret (vB t174) h, .no)
def e97_13 (k t163 t173 h) := kN k [(p163, (vB t163)), (p173, (vB t173))] h
def S97_13 (D : CallD) (m : Nat) (t163 t173 : Bool) (h : HP) : Res2 :=
 obB (brV t163 (some (vB t173)) (some (vB false))) fun t174 =>
 S97_14 D m t174 h
def e97_12 (k t2 t3 h) := kN k [(p2, t2), (p3, t3)] h
def S97_12 (D : CallD) (m : Nat) (t2 t3 : AV) (h : HP) : Res2 :=
 faC 2 t3 fun t155 =>
 ldI t155 h fun t156 =>
 let t157 := eqQ t156 (Int.ofNat 0)
 obB (brV t157 (
 faCV 3 t3 fun t159 =>
 ldIV t159 h fun t160 =>
 let t161 := eqQ t160 (Int.ofNat 0)
 some (vB t161)) (
 some (vB false))) fun t162 =>
 br t162 (
 faC 1 t3 fun t164 =>
 ldI t164 h fun t165 =>
 let t166 := eqQ t165 (Int.negSucc 0)
 br t166 (
 S97_13 D m true true h) (
 cellsC 6 t2 h fun t168 =>
 faC 1 t3 fun t169 =>
 ldI t169 h fun t170 =>
 cal D 96 [t168, (vI t170)] h fun t171 h32 =>
 asI .i64 t171 fun t171a =>
 let t172 := notQ (eqQ t171a (Int.ofNat 0))
 S97_13 D m true t172 h32)) (
 S97_14 D m false h)
def e97_16 (k t2 t3 t142 t143 h) := kN k [(p2, t2), (p3, t3), (p142, (vI t142)), (p143, (vI t143))] h
def S97_16b (D : CallD) (m : Nat) (g16 : AV → AV → Int → Int → HP → Res2) (t2 t3 : AV) (t142 t143 : Int) (h : HP) : Res2 :=
 let t144 := ltQ t143 t142
 br t144 (
 cellsC 6 t2 h fun t146 =>
 faC 7 t3 fun t147 =>
 cellC t147 h fun t148 =>
 iasC 1 t148 (vI t143) fun t150 =>
 ldI t150 h fun t151 =>
 cal D 96 [t146, (vI t151)] h fun t152 h33 =>
 asI .i64 t152 fun t152a =>
 let t153 := eqQ t152a (Int.ofNat 0)
 br t153 (
 some (.ret (vB false) h33, .no)) (
 let t154 := wrQ .i64 (addQ t143 (Int.ofNat 1))
 g16 t2 t3 t142 t154 h33)) (
 S97_12 D m t2 t3 h)
def S97_16 (D : CallD) (m : Nat) : AV → AV → Int → Int → HP → Res2 := nrec (fun _ _ _ _ _ => none) (fun _ g => S97_16b D m g) m
def e97_1 (k t2 t3 h) := kN k [(p2, t2), (p3, t3)] h
def S97_1 (D : CallD) (m : Nat) (t2 t3 : AV) (h : HP) : Res2 :=
 faC 0 t3 fun t137 =>
 ldI t137 h fun t138 =>
 let t139 := eqQ t138 (Int.ofNat 16)
 br t139 (
 faC 7 t3 fun t140 =>
 cellC t140 h fun t141 =>
 lenC t141 fun vt142 => asI .i64 vt142 fun t142 =>
 S97_16 D m t2 t3 t142 (Int.ofNat 0) h) (
 S97_2 D m t2 t3 h)
def e97_0 (k t2 t3 h) := kN k [(p2, t2), (p3, t3)] h
def S97_0 (D : CallD) (m : Nat) (t2 t3 : AV) (h : HP) : Res2 :=
 faC 0 t3 fun t65 =>
 ldI t65 h fun t66 =>
 let t67 := notQ (eqQ t66 (Int.ofNat 18))
 obB (brV t67 (
 faCV 0 t3 fun t69 =>
 ldIV t69 h fun t70 =>
 let t71 := notQ (eqQ t70 (Int.ofNat 19))
 some (vB t71)) (
 some (vB false))) fun t72 =>
 obB (brV t72 (
 faCV 8 t3 fun t74 =>
 ldIV t74 h fun t75 =>
 let t76 := notQ (eqQ t75 (Int.ofNat 0))
 some (vB t76)) (
 some (vB false))) fun t77 =>
 obB (brV t77 (
 some (vB true)) (
 faCV 8 t3 fun t79 =>
 ldIV t79 h fun t80 =>
 let t81 := ltQ t80 (Int.ofNat 0)
 some (vB t81))) fun t82 =>
 obB (brV t82 (
 some (vB true)) (
 faCV 8 t3 fun t84 =>
 ldIV t84 h fun t85 =>
 faCV 5 t2 fun t86 =>
 cellCV t86 h fun t87 =>
 lenCV t87 fun vt88 => asIV .i64 vt88 fun t88 =>
 let t89 := leQ t88 t85
 some (vB t89))) fun t90 =>
 br t90 (
 some (.ret (vB false) h, .no)) (
 faC 0 t3 fun t91 =>
 ldI t91 h fun t92 =>
 let t97 := eqQ t92 (Int.ofNat 1)
 br t97 (
 S97_1 D m t2 t3 h) (
 let t99 := eqQ t92 (Int.ofNat 4)
 br t99 (
 faC 4 t3 fun t100 =>
 ldW t100 h fun t101 =>
 binC .lss (vW t101) (vW (Int.ofNat 1)) fun vt102 => asB vt102 fun t102 =>
 obB (brV t102 (
 some (vB true)) (
 faCV 4 t3 fun t104 =>
 ldWV t104 h fun t105 =>
 binCV .gtr (vW t105) (vW (Int.ofNat 17)) fun vt106 => asBV vt106 fun t106 =>
 some (vB t106))) fun t107 =>
 br t107 (
 some (.ret (vB false) h, .no)) (
 S97_1 D m t2 t3 h)) (
 let t109 := eqQ t92 (Int.ofNat 5)
 br t109 (
 faC 4 t3 fun t110 =>
 ldW t110 h fun t111 =>
 binC .lss (vW t111) (vW (Int.ofNat 45)) fun vt112 => asB vt112 fun t112 =>
 obB (brV t112 (
 some (vB true)) (
 faCV 4 t3 fun t114 =>
 ldWV t114 h fun t115 =>
 binCV .gtr (vW t115) (vW (Int.ofNat 48)) fun vt116 => asBV vt116 fun t116 =>
 some (vB t116))) fun t117 =>
 br t117 (
 some (.ret (vB false) h, .no)) (
 S97_1 D m t2 t3 h)) (
 let t119 := eqQ t92 (Int.ofNat 6)
 br t119 (
 faC 4 t3 fun t120 =>
 ldW t120 h fun t121 =>
 binC .lss (vW t121) (vW (Int.ofNat 51)) fun vt122 => asB vt122 fun t122 =>
 obB (brV t122 (
 some (vB true)) (
 faCV 4 t3 fun t124 =>
 ldWV t124 h fun t125 =>
 binCV .gtr (vW t125) (vW (Int.ofNat 53)) fun vt126 => asBV vt126 fun t126 =>
 some (vB t126))) fun t127 =>
 br t127 (
 some (.ret (vB false) h, .no)) (
 S97_1 D m t2 t3 h)) (
 let t129 := eqQ t92 (Int.ofNat 11)
 br t129 (
 faC 4 t3 fun t130 =>
 ldW t130 h fun t131 =>
 obI .i64 (convV (.ii .i64) (vW t131)) fun t132 =>
 faC 4 t2 fun t133 =>
 cellC t133 h fun t134 =>
 lenC t134 fun vt135 => asI .i64 vt135 fun t135 =>
 let t136 := leQ t135 t132
 br t136 (
 some (.ret (vB false) h, .no)) (
 S97_1 D m t2 t3 h)) (
 faC 4 t3 fun t93 =>
 ldW t93 h fun t94 =>
 binC .neq (vW t94) (vW (Int.ofNat 0)) fun vt95 => asB vt95 fun t95 =>
 br t95 (
 some (.ret (vB false) h, .no)) (
 S97_1 D m t2 t3 h)))))))
def e97_18 (k t2 t3 t64 h) := kN k [(p2, t2), (p3, t3), (p64, (vB t64))] h
def S97_18 (D : CallD) (m : Nat) (t2 t3 : AV) (t64 : Bool) (h : HP) : Res2 :=
 br t64 (
 some (.ret (vB false) h, .no)) (
 S97_0 D m t2 t3 h)
def e97_17 (k t2 t3 t49 t63 h) := kN k [(p2, t2), (p3, t3), (p49, (vB t49)), (p63, (vB t63))] h
def S97_17 (D : CallD) (m : Nat) (t2 t3 : AV) (t49 t63 : Bool) (h : HP) : Res2 :=
 obB (brV t49 (some (vB true)) (some (vB t63))) fun t64 =>
 S97_18 D m t2 t3 t64 h
def e97_20 (k t0 t1 h) := kN k [(p0, t0), (p1, t1)] h
def S97_20 (D : CallD) (m : Nat) (t0 t1 : AV) (h : HP) : Res2 :=
 let t2 := AV.ptr (HP.nxQ h) 0
 let h21 := HP.newQ h (.cells true (AV.cells t0))
 let t3 := AV.ptr (HP.nxQ h21) 0
 let h22 := HP.newQ h21 (.cells true (AV.cells t1))
 let t7 := (AV.ptr (HP.nxQ h21) (Nat.add 0 0))
 ldI t7 h22 fun t8 =>
 let t9 := ltQ t8 (Int.ofNat 1)
 obB (brV t9 (
 some (vB true)) (
 let t11 := (AV.ptr (HP.nxQ h21) (Nat.add 0 0))
 ldIV t11 h22 fun t12 =>
 let t13 := ltQ (Int.ofNat 19) t12
 some (vB t13))) fun t14 =>
 obB (brV t14 (
 some (vB true)) (
 let t16 := (AV.ptr (HP.nxQ h21) (Nat.add 0 0))
 ldIV t16 h22 fun t17 =>
 let t18 := notQ (eqQ t17 (Int.ofNat 2))
 obBV (brV t18 (
 let t20 := (AV.ptr (HP.nxQ h21) (Nat.add 0 5))
 cellCV t20 h22 fun vt21 => asIV .u64 vt21 fun t21 =>
 binCV .neq (AV.int .u64 t21) (AV.int .u64 (Int.ofNat 0)) fun vt22 => asBV vt22 fun t22 =>
 some (vB t22)) (
 some (vB false))) fun t23 =>
 some (vB t23))) fun t24 =>
 obB (brV t24 (
 some (vB true)) (
 let t26 := (AV.ptr (HP.nxQ h21) (Nat.add 0 0))
 ldIV t26 h22 fun t27 =>
 let t28 := notQ (eqQ t27 (Int.ofNat 16))
 obBV (brV t28 (
 let t30 := (AV.ptr (HP.nxQ h21) (Nat.add 0 7))
 cellCV t30 h22 fun t31 =>
 lenCV t31 fun vt32 => asIV .i64 vt32 fun t32 =>
 let t33 := ltQ (Int.ofNat 0) t32
 some (vB t33)) (
 some (vB false))) fun t34 =>
 some (vB t34))) fun t35 =>
 br t35 (
 some (.ret (vB false) h22, .no)) (
 let t36 := (AV.ptr (HP.nxQ h21) (Nat.add 0 0))
 ldI t36 h22 fun t37 =>
 let t38 := notQ (eqQ t37 (Int.ofNat 10))
 obB (brV t38 (
 let t40 := (AV.ptr (HP.nxQ h21) (Nat.add 0 0))
 ldIV t40 h22 fun t41 =>
 let t42 := notQ (eqQ t41 (Int.ofNat 16))
 some (vB t42)) (
 some (vB false))) fun t43 =>
 obB (brV t43 (
 let t45 := (AV.ptr (HP.nxQ h21) (Nat.add 0 6))
 ldSV t45 h22 fun t46 =>
 let t47 := !(eqL t46 ([] : LN))
 some (vB t47)) (
 some (vB false))) fun t48 =>
 br t48 (
 S97_18 D m t2 t3 true h22) (
 let t50 := (AV.ptr (HP.nxQ h21) (Nat.add 0 0))
 ldI t50 h22 fun t51 =>
 let t52 := eqQ t51 (Int.ofNat 10)
 obB (brV t52 (
 some (vB true)) (
 let t54 := (AV.ptr (HP.nxQ h21) (Nat.add 0 0))
 ldIV t54 h22 fun t55 =>
 let t56 := eqQ t55 (Int.ofNat 16)
 some (vB t56))) fun t57 =>
 br t57 (
 let t59 := (AV.ptr (HP.nxQ h21) (Nat.add 0 6))
 ldS t59 h22 fun t60 =>
 cal D 95 [(vS t60)] h22 fun t61 h34 =>
 asB t61 fun t61a =>
 let t62 := !t61a
 S97_17 D m t2 t3 false t62 h34) (
 S97_17 D m t2 t3 false false h22)))
def S97 : SFn := fun D m args h u => nou u <| popV args fun t0 args => popV args fun t1 args => endA args (S97_20 D m t0 t1 h)
theorem T97_7 (hE : FX x97 D m E) : S97_7 D m = e97_7 (E (.opq true l97_7 c97_8) []) := by unfold S97_7; rw [hE (.opq true l97_7 c97_8)]; kernel_rfl
theorem T97_6 (hE : FX x97 D m E) : S97_6 D m = e97_6 (E (.opq true l97_6 c97_8) []) := by unfold S97_6; rw [T97_7 hE, hE (.opq true l97_6 c97_8)]; kernel_rfl
theorem T97_5 (hE : FX x97 D m E) : S97_5 D m = e97_5 (E (.opq true l97_5 c97_8) []) := by unfold S97_5; rw [T97_6 hE, T97_7 hE, hE (.opq true l97_5 c97_8)]; kernel_rfl
theorem T97_4 (hE : FX x97 D m E) : S97_4 D m = e97_4 (E (.opq true l97_4 c97_8) []) := by unfold S97_4; rw [T97_5 hE, hE (.opq true l97_4 c97_8)]; kernel_rfl
theorem T97_3 (hE : FX x97 D m E) : S97_3 D m = e97_3 (E c97_3 []) := by unfold S97_3; rw [T97_4 hE, hE c97_3]; kernel_rfl
theorem T97_10 (hE : FX x97 D m E) : S97_10 D m = e97_10 (E (.opq false l97_10 c97_11) [.sj v97_3 c97_3]) := by unfold S97_10; rw [hE (.opq false l97_10 c97_11)]; kernel_rfl
theorem T97_9 (hE : FX x97 D m E) : S97_9 D m = e97_9 (E (.opq false l97_9 c97_11) [.sj v97_3 c97_3]) := by unfold S97_9; rw [T97_10 hE, hE (.opq false l97_9 c97_11)]; kernel_rfl
theorem T97_2 (hE : FX x97 D m E) : S97_2 D m = e97_2 (E c97_2 []) := by unfold S97_2; rw [T97_9 hE, T97_10 hE, T97_3 hE, hE c97_2]; kernel_rfl
theorem T97_14 (hE : FX x97 D m E) : S97_14 D m = e97_14 (E (.opq false l97_14 c97_15) [.sj v97_2 c97_2]) := by unfold S97_14; rw [hE (.opq false l97_14 c97_15)]; kernel_rfl
theorem T97_13 (hE : FX x97 D m E) : S97_13 D m = e97_13 (E (.opq false l97_13 c97_15) [.sj v97_2 c97_2]) := by unfold S97_13; rw [T97_14 hE, hE (.opq false l97_13 c97_15)]; kernel_rfl
theorem T97_12 (hE : FX x97 D m E) : S97_12 D m = e97_12 (E c97_12 [.sj v97_2 c97_2]) := by unfold S97_12; rw [T97_13 hE, T97_14 hE, hE c97_12]; kernel_rfl
theorem T97_16b (hE : FX x97 D m E) (G16) : S97_16b D m (e97_16 G16) = e97_16 (E c97_16b [.lp v97_16 G16, .blk 1, .sj v97_12 c97_12, .sj v97_2 c97_2]) := by unfold S97_16b; rw [T97_12 hE, hE c97_16b]; kernel_rfl
theorem T97_16 (hE : FX x97 D m E) : S97_16 D m = e97_16 (nrec (fun _ => none) (fun _ G16 st => E c97_16b [.lp v97_16 G16, .blk 1, .sj v97_12 c97_12, .sj v97_2 c97_2] st) m) :=
  nrec_emb e97_16 (fun _ _ _ _ _ => none) (fun g => S97_16b D m g) (fun G16 st => E c97_16b [.lp v97_16 G16, .blk 1, .sj v97_12 c97_12, .sj v97_2 c97_2] st) rfl (fun g => T97_16b hE g) m
theorem T97_1 (hE : FX x97 D m E) : S97_1 D m = e97_1 (E c97_1 []) := by unfold S97_1; rw [T97_16 hE, T97_2 hE, hE c97_1]; kernel_rfl
theorem T97_0 (hE : FX x97 D m E) : S97_0 D m = e97_0 (E c97_0 []) := by unfold S97_0; rw [T97_1 hE, hE c97_0]; kernel_rfl
theorem T97_18 (hE : FX x97 D m E) : S97_18 D m = e97_18 (E (.opq false l97_18 c97_19) [.sj v97_0 c97_0]) := by unfold S97_18; rw [T97_0 hE, hE (.opq false l97_18 c97_19)]; kernel_rfl
theorem T97_17 (hE : FX x97 D m E) : S97_17 D m = e97_17 (E (.opq false l97_17 c97_19) [.sj v97_0 c97_0]) := by unfold S97_17; rw [T97_18 hE, hE (.opq false l97_17 c97_19)]; kernel_rfl
theorem T97_20 (hE : FX x97 D m E) : S97_20 D m = e97_20 (E c97_e []) := by unfold S97_20; rw [T97_18 hE, T97_17 hE, hE c97_e]; kernel_rfl
theorem X97 : XTie S97 x97 := X_of fun D m E hE args h u => by unfold S97; rw [T97_20 hE]; kernel_rfl
/- 98 -/
def v98_0 : List Pos := []
def c98_0 : XC := (.sO [.mv p6 (cb true) .b] (.s .ret))
def v98_1 : List Pos := [p1, p2, p3, p14, p15]
def c98_1b : XC := (.sO [.bn p16 .lss q15 q14 .b] (.seq (.cond q16 .skip (.exit 0)) (.seq (.block 1 (.seq (.oX [.mv p17 q15 tI, .mv p7 q17 tI]) (.seq (.ops true (XL.of [.fa p18 3 q3, .ld p19 q18 .v, .mv p20 q1 .v, .mv p21 q7 tI, .P p22 (.iaddr (.sl 1) q20 q21) .v, .ld p23 q22 tI, .P p24 (.iaddr (.sl 1) q19 q23) .v, .ld p25 q24 tI, .mv p26 q2 .v, .mv p27 q7 tI, .P p28 (.iaddr (.sl 1) q26 q27) .v, .ld p29 q28 tI, .bn p30 .neq q25 q29 .b])) (.cond q30 (.seq (.oX [.mv p6 (cb false) .b]) .ret) .skip)))) (.s (.oX [.bn p31 .add q15 (ci 1) tI, .mv p15 q31 tI])))))
def c98_e : XC := (.sO [.al p3 (.box q0), .mv p6 (cb false) .b] (.seq (.seq (.oX [.mv p8 q1 .v, .P p9 (.lenl q8) tI, .mv p10 q2 .v, .P p11 (.lenl q10) tI, .bn p12 .neq q9 q11 .b]) (.cond q12 (.seq (.oX [.mv p6 (cb false) .b]) .ret) .skip)) (.sj v98_0 (.sO [.mv p13 q1 .v, .P p14 (.lenl q13) tI, .mv p15 (ci 0) tI] (.block 0 (.loop v98_1 c98_1b))) c98_0)))
def x98 : XFn := ⟨[.v, .v, .v], false, [(.tmp p6)], c98_e⟩
def e98_0 (k h) := kN k [] h
def S98_0 (D : CallD) (m : Nat) (h : HP) : Res2 :=
 some (.ret (vB true) h, .no)
def e98_1 (k t1 t2 t3 t14 t15 h) := kN k [(p1, t1), (p2, t2), (p3, t3), (p14, (vI t14)), (p15, (vI t15))] h
def S98_1b (D : CallD) (m : Nat) (g1 : AV → AV → AV → Int → Int → HP → Res2) (t1 t2 t3 : AV) (t14 t15 : Int) (h : HP) : Res2 :=
 let t16 := ltQ t15 t14
 br t16 (
 faC 3 t3 fun t18 =>
 cellC t18 h fun t19 =>
 iasC 1 t1 (vI t15) fun t22 =>
 ldI t22 h fun t23 =>
 iasC 1 t19 (vI t23) fun t24 =>
 ldI t24 h fun t25 =>
 iasC 1 t2 (vI t15) fun t28 =>
 ldI t28 h fun t29 =>
 let t30 := notQ (eqQ t25 t29)
 br t30 (
 some (.ret (vB false) h, .no)) (
 let t31 := wrQ .i64 (addQ t15 (Int.ofNat 1))
 g1 t1 t2 t3 t14 t31 h)) (
 S98_0 D m h)
def S98_1 (D : CallD) (m : Nat) : AV → AV → AV → Int → Int → HP → Res2 := nrec (fun _ _ _ _ _ _ => none) (fun _ g => S98_1b D m g) m
def e98_2 (k t0 t1 t2 h) := kN k [(p0, t0), (p1, t1), (p2, t2)] h
def S98_2 (D : CallD) (m : Nat) (t0 t1 t2 : AV) (h : HP) : Res2 :=
 let t3 := AV.ptr (HP.nxQ h) 0
 let h3 := HP.newQ h (.cells true (AV.cells t0))
 lenC t1 fun vt9 => asI .i64 vt9 fun t9 =>
 lenC t2 fun vt11 => asI .i64 vt11 fun t11 =>
 let t12 := notQ (eqQ t9 t11)
 br t12 (
 some (.ret (vB false) h3, .no)) (
 lenC t1 fun vt14 => asI .i64 vt14 fun t14 =>
 S98_1 D m t1 t2 t3 t14 (Int.ofNat 0) h3)
def S98 : SFn := fun D m args h u => nou u <| popV args fun t0 args => popV args fun t1 args => popV args fun t2 args => endA args (S98_2 D m t0 t1 t2 h)
theorem T98_0 (hE : FX x98 D m E) : S98_0 D m = e98_0 (E c98_0 []) := by unfold S98_0; rw [hE c98_0]; kernel_rfl
theorem T98_1b (hE : FX x98 D m E) (G1) : S98_1b D m (e98_1 G1) = e98_1 (E c98_1b [.lp v98_1 G1, .blk 0, .sj v98_0 c98_0]) := by unfold S98_1b; rw [T98_0 hE, hE c98_1b]; kernel_rfl
theorem T98_1 (hE : FX x98 D m E) : S98_1 D m = e98_1 (nrec (fun _ => none) (fun _ G1 st => E c98_1b [.lp v98_1 G1, .blk 0, .sj v98_0 c98_0] st) m) :=
  nrec_emb e98_1 (fun _ _ _ _ _ _ => none) (fun g => S98_1b D m g) (fun G1 st => E c98_1b [.lp v98_1 G1, .blk 0, .sj v98_0 c98_0] st) rfl (fun g => T98_1b hE g) m
theorem T98_2 (hE : FX x98 D m E) : S98_2 D m = e98_2 (E c98_e []) := by unfold S98_2; rw [T98_1 hE, hE c98_e]; kernel_rfl
theorem X98 : XTie S98 x98 := X_of fun D m E hE args h u => by unfold S98; rw [T98_2 hE]; kernel_rfl
/- 102 -/
def c102_e : XC := (.sO [.mv p4 (ci 0) tI] (.seq (.seq (.oX [.mv p5 q1 tI, .mv p6 q0 .v, .P p7 (.lenl q6) tI, .bn p8 .lss q5 q7 .b]) (.cond q8 (.seq (.oX [.mv p9 q0 .v, .mv p10 q1 tI, .P p11 (.iaddr (.sl 1) q9 q10) .v, .ld p12 q11 tI, .mv p4 q12 tI]) .ret) .skip)) (.sO [.mv p4 (ci 0) tI] (.s .ret))))
def x102 : XFn := ⟨[.v, tI], false, [(.tmp p4)], c102_e⟩
def e102_0 (k t0 t1 h) := kN k [(p0, t0), (p1, (vI t1))] h
def S102_0 (D : CallD) (m : Nat) (t0 : AV) (t1 : Int) (h : HP) : Res2 :=
 lenC t0 fun vt7 => asI .i64 vt7 fun t7 =>
 let t8 := ltQ t1 t7
 br t8 (
 iasC 1 t0 (vI t1) fun t11 =>
 ldI t11 h fun t12 =>
 some (.ret (vI t12) h, .no)) (
 some (.ret (vI (Int.ofNat 0)) h, .no))
def S102 : SFn := fun D m args h u => nou u <| popV args fun t0 args => popI .i64 args fun t1 args => endA args (S102_0 D m t0 t1 h)
theorem T102_0 (hE : FX x102 D m E) : S102_0 D m = e102_0 (E c102_e []) := by unfold S102_0; rw [hE c102_e]; kernel_rfl
theorem X102 : XTie S102 x102 := X_of fun D m E hE args h u => by unfold S102; rw [T102_0 hE]; kernel_rfl
/- 103 -/
def v103_0 : List Pos := [p0, p3]
def c103_0 : XC := (.sO [.mv p18 q0 .v, .mv p19 q3 tI, .P p20 (.slice (.sl 1) q18 none (some q19) none) .v, .mv p2 q20 .v] (.s .ret))
def v103_1 : List Pos := [p0, p3]
def c103_1b : XC := (.seq (.seq (.oX [.mv p6 q3 tI, .bn p7 .gtr q6 (ci 0) .b, .mv p8 q7 .b, .ge p8 (XL.of [.G p8 true p9 (.mov q0) .v, .G p8 true p10 (.mov q3) tI, .G p8 true p11 (.bin .sub q10 (ci 1)) tI, .G p8 true p12 (.iaddr (.sl 1) q9 q11) .v, .o ⟨(some p13), (.l (.cell q12)), (some (p8, true)), []⟩ tI, .G p8 true p14 (.bin .eql q13 (ci 0)) .b, .P p15 (.pick q8 q14 (cb false)) .b]) p15 .b]) (.cond q15 .skip (.exit 0))) (.block 1 (.s (.oX [.mv p16 q3 tI, .bn p17 .sub q16 (ci 1) tI, .mv p3 q17 tI]))))
def c103_e : XC := (.sO [.mv p2 (.c .nils) .v] (.sO [.mv p4 q0 .v, .P p5 (.lenl q4) tI, .mv p3 q5 tI] (.sj v103_0 (.block 0 (.loop v103_1 c103_1b)) c103_0)))
def x103 : XFn := ⟨[.v], false, [(.tmp p2)], c103_e⟩
def e103_0 (k t0 t3 h) := kN k [(p0, t0), (p3, (vI t3))] h
def S103_0 (D : CallD) (m : Nat) (t0 : AV) (t3 : Int) (h : HP) : Res2 :=
 obQ (evP (.slice (.sl 1) (.c t0) none (some (.c (vI t3))) none) .leaf) fun t20 =>
 some (.ret t20 h, .no)
def e103_1 (k t0 t3 h) := kN k [(p0, t0), (p3, (vI t3))] h
def S103_1b (D : CallD) (m : Nat) (g1 : AV → Int → HP → Res2) (t0 : AV) (t3 : Int) (h : HP) : Res2 :=
 let t7 := ltQ (Int.ofNat 0) t3
 obB (brV t7 (
 let t11 := wrQ .i64 (t3 - (Int.ofNat 1))
 iasCV 1 t0 (vI t11) fun t12 =>
 ldIV t12 h fun t13 =>
 let t14 := eqQ t13 (Int.ofNat 0)
 some (vB t14)) (
 some (vB false))) fun t15 =>
 br t15 (
 let t17 := wrQ .i64 (t3 - (Int.ofNat 1))
 g1 t0 t17 h) (
 S103_0 D m t0 t3 h)
def S103_1 (D : CallD) (m : Nat) : AV → Int → HP → Res2 := nrec (fun _ _ _ => none) (fun _ g => S103_1b D m g) m
def e103_2 (k t0 h) := kN k [(p0, t0)] h
def S103_2 (D : CallD) (m : Nat) (t0 : AV) (h : HP) : Res2 :=
 lenC t0 fun vt5 => asI .i64 vt5 fun t5 =>
 S103_1 D m t0 t5 h
def S103 : SFn := fun D m args h u => nou u <| popV args fun t0 args => endA args (S103_2 D m t0 h)
theorem T103_0 (hE : FX x103 D m E) : S103_0 D m = e103_0 (E c103_0 []) := by unfold S103_0; rw [hE c103_0]; kernel_rfl
theorem T103_1b (hE : FX x103 D m E) (G1) : S103_1b D m (e103_1 G1) = e103_1 (E c103_1b [.lp v103_1 G1, .blk 0, .sj v103_0 c103_0]) := by unfold S103_1b; rw [T103_0 hE, hE c103_1b]; kernel_rfl
theorem T103_1 (hE : FX x103 D m E) : S103_1 D m = e103_1 (nrec (fun _ => none) (fun _ G1 st => E c103_1b [.lp v103_1 G1, .blk 0, .sj v103_0 c103_0] st) m) :=
  nrec_emb e103_1 (fun _ _ _ => none) (fun g => S103_1b D m g) (fun G1 st => E c103_1b [.lp v103_1 G1, .blk 0, .sj v103_0 c103_0] st) rfl (fun g => T103_1b hE g) m
theorem T103_2 (hE : FX x103 D m E) : S103_2 D m = e103_2 (E c103_e []) := by unfold S103_2; rw [T103_1 hE, hE c103_e]; kernel_rfl
theorem X103 : XTie S103 x103 := X_of fun D m E hE args h u => by unfold S103; rw [T103_2 hE]; kernel_rfl
/- 104 -/
def v104_0 : List Pos := [p3]
def c104_0 : XC := (.sO [.mv p26 q3 .v, .cl p27 103 [q26] .v, .mv p2 q27 .v] (.s .ret))
def v104_1 : List Pos := [p0, p3, p6, p7]
def c104_1b : XC := (.sO [.bn p8 .lss q7 q6 .b] (.seq (.cond q8 .skip (.exit 0)) (.seq (.block 1 (.seq (.oX [.mv p9 q7 tI, .mv p4 q9 tI]) (.ops true (XL.of [.mv p10 q3 .v, .mv p11 q0 .v, .mv p12 q4 tI, .P p13 (.iaddr (.sl 1) q11 q12) .v, .ld p14 q13 tI, .bn p15 .quo q14 (ci 2) tI, .mv p16 q0 .v, .mv p17 q4 tI, .bn p18 .add q17 (ci 1) tI, .o ⟨(some p19), (.call (.fn 102) [q16, q18]), none, [⟨none, .cell q13, p14⟩]⟩ tI, .bn p20 .rem q19 (ci 2) tI, .bn p21 .mul q20 (ci 32768) tI, .bn p22 .add q15 q21 tI, .al p23 (.bsl [(kI 0)] 1 [⟨0, 1, q22⟩]), .o ⟨(some p24), (.e (.app 1 8 q10 q23)), none, []⟩ .v, .mv p3 q24 .v])))) (.s (.oX [.bn p25 .add q7 (ci 1) tI, .mv p7 q25 tI])))))
def c104_e : XC := (.sO [.mv p2 (.c .nils) .v] (.sO [.mv p3 (.c .nils) .v] (.sj v104_0 (.sO [.mv p5 q0 .v, .P p6 (.lenl q5) tI, .mv p7 (ci 0) tI] (.block 0 (.loop v104_1 c104_1b))) c104_0)))
def x104 : XFn := ⟨[.v], false, [(.tmp p2)], c104_e⟩
def e104_0 (k t3 h) := kN k [(p3, t3)] h
def S104_0 (D : CallD) (m : Nat) (t3 : AV) (h : HP) : Res2 :=
 cal D 103 [t3] h fun t27 h3 =>
 some (.ret t27 h3, .no)
def e104_1 (k t0 t3 t6 t7 h) := kN k [(p0, t0), (p3, t3), (p6, (vI t6)), (p7, (vI t7))] h
def S104_1b (D : CallD) (m : Nat) (g1 : AV → AV → Int → Int → HP → Res2) (t0 t3 : AV) (t6 t7 : Int) (h : HP) : Res2 :=
 let t8 := ltQ t7 t6
 br t8 (
 iasC 1 t0 (vI t7) fun t13 =>
 ldI t13 h fun t14 =>
 let t15 := wrapF .i64 (Int.tdiv t14 (Int.ofNat 2))
 let t18 := wrQ .i64 (addQ t7 (Int.ofNat 1))
 cal D 102 [t0, (vI t18)] h fun t19 h4 =>
 br (again [⟨none, .cell q13, p14⟩] (mkT [(p14, (vI t14)), (p13, t13)]) h4) (
 asI .i64 t19 fun t19a =>
 let t20 := Int.tmod t19a (Int.ofNat 2)
 let t21 := wrQ .i64 (t20 * (Int.ofNat 32768))
 let t22 := wrQ .i64 (addQ t15 t21)
 let t23 := AV.slice (HP.nxQ h4) 0 1 (.exact 1)
 let h5 := HP.newQ h4 (.cells true [(vI t22)])
 eff (.app 1 8 (.c t3) (.c t23)) h5 fun t24 h6 =>
 let t25 := wrQ .i64 (addQ t7 (Int.ofNat 1))
 g1 t0 t24 t6 t25 h6) none) (
 S104_0 D m t3 h)
def S104_1 (D : CallD) (m : Nat) : AV → AV → Int → Int → HP → Res2 := nrec (fun _ _ _ _ _ => none) (fun _ g => S104_1b D m g) m
def e104_2 (k t0 h) := kN k [(p0, t0)] h
def S104_2 (D : CallD) (m : Nat) (t0 : AV) (h : HP) : Res2 :=
 lenC t0 fun vt6 => asI .i64 vt6 fun t6 =>
 S104_1 D m t0 (.nils : AV) t6 (Int.ofNat 0) h
def S104 : SFn := fun D m args h u => nou u <| popV args fun t0 args => endA args (S104_2 D m t0 h)
theorem T104_0 (hE : FX x104 D m E) : S104_0 D m = e104_0 (E c104_0 []) := by unfold S104_0; rw [hE c104_0]; kernel_rfl
theorem T104_1b (hE : FX x104 D m E) (G1) : S104_1b D m (e104_1 G1) = e104_1 (E c104_1b [.lp v104_1 G1, .blk 0, .sj v104_0 c104_0]) := by unfold S104_1b; rw [T104_0 hE, hE c104_1b]; kernel_rfl
theorem T104_1 (hE : FX x104 D m E) : S104_1 D m = e104_1 (nrec (fun _ => none) (fun _ G1 st => E c104_1b [.lp v104_1 G1, .blk 0, .sj v104_0 c104_0] st) m) :=
  nrec_emb e104_1 (fun _ _ _ _ _ => none) (fun g => S104_1b D m g) (fun G1 st => E c104_1b [.lp v104_1 G1, .blk 0, .sj v104_0 c104_0] st) rfl (fun g => T104_1b hE g) m
theorem T104_2 (hE : FX x104 D m E) : S104_2 D m = e104_2 (E c104_e []) := by unfold S104_2; rw [T104_1 hE, hE c104_e]; kernel_rfl
theorem X104 : XTie S104 x104 := X_of fun D m E hE args h u => by unfold S104; rw [T104_2 hE]; kernel_rfl
/- 115 -/
def v115_0 : List Pos := [p1]
def c115_0 : XC := (.sO [.mv p75 q1 tI, .mv p4 q75 tI, .mv p5 (cb true) .b] (.s .ret))
def v115_2 : List Pos := [p0, p1]
def c115_2b : XC := (.seq (.seq (.oX [.mv p38 q1 tI, .mv p39 q0 .s, .P p40 (.lens q39) tI, .bn p41 .lss q38 q40 .b, .mv p42 q41 .b, .ge p42 (XL.of [.G p42 true p43 (.mov q0) .s, .G p42 true p44 (.mov q1) tI, .G p42 true p45 (.idxs q43 q44) tC, .G p42 true p46 (.bin .neq q45 (.c (.int .u8 (.ofNat 10)))) .b, .P p47 (.pick q42 q46 (cb false)) .b]) p47 .b]) (.cond q47 .skip (.exit 2))) (.block 3 (.s (.oX [.mv p48 q1 tI, .bn p49 .add q48 (ci 1) tI, .mv p1 q49 tI]))))
def v115_3 : List Pos := [p0, p1, p6]
def c115_3 : XC := (.seq (.seq (.oX [.mv p67 q6 tI, .mv p68 q0 .s, .P p69 (.lens q68) tI, .bn p70 .geq q67 q69 .b]) (.cond q70 (.seq (.oX [.mv p71 q1 tI, .mv p4 q71 tI, .mv p5 (cb false) .b]) .ret) .skip)) (.s (.oX [.mv p72 q6 tI, .bn p73 .add q72 (ci 2) tI, .mv p1 q73 tI])))
def v115_5 : List Pos := [p0, p1, p6]
def c115_5 : XC := (.block 5 (.s (.oX [.mv p65 q6 tI, .bn p66 .add q65 (ci 1) tI, .mv p6 q66 tI])))
def c115_7 : XC := (.cond q64 (.s .skip) (.s (.exit 4)))
def l115_6 : XL := (XL.of [])
def v115_4 : List Pos := [p0, p1, p6]
def c115_4b : XC := (.sj v115_5 (.opq false (XL.pre [.mv p55 q6 tI, .mv p56 q0 .s, .P p57 (.lens q56) tI, .bn p58 .lss q55 q57 .b, .mv p59 q58 .b, .sp p59, .G p59 true p60 (.mov q0) .s, .G p59 true p61 (.mov q6) tI, .o ⟨(some p62), (.call (.fn 156) [q60, q61, (.c (.str [42, 47]))]), (some (p59, true)), []⟩ .b, .G p59 true p63 (.un .not q62) .b, .P p64 (.pick q59 q63 (cb false)) .b, .jn p59 [p0, p1, p6, p64]] l115_6) c115_7) c115_5)
def v115_1 : List Pos := [p0, p1]
def c115_1b : XC := (.seq (.seq (.oX [.mv p7 q1 tI, .mv p8 q0 .s, .P p9 (.lens q8) tI, .bn p10 .lss q7 q9 .b]) (.cond q10 .skip (.exit 0))) (.block 1 (.sO [.mv p11 q0 .s, .mv p12 q1 tI, .P p13 (.idxs q11 q12) tC, .bn p14 .eql q13 (.c (.int .u8 (.ofNat 32))) .b, .mv p15 q14 .b, .ge p15 (XL.of [.G p15 false p16 (.mov q0) .s, .G p15 false p17 (.mov q1) tI, .G p15 false p18 (.idxs q16 q17) tC, .G p15 false p19 (.bin .eql q18 (.c (.int .u8 (.ofNat 9)))) .b, .P p20 (.pick q15 (cb true) q19) .b]) p20 .b, .mv p21 q20 .b, .ge p21 (XL.of [.G p21 false p22 (.mov q0) .s, .G p21 false p23 (.mov q1) tI, .G p21 false p24 (.idxs q22 q23) tC, .G p21 false p25 (.bin .eql q24 (.c (.int .u8 (.ofNat 10)))) .b, .P p26 (.pick q21 (cb true) q25) .b]) p26 .b, .mv p27 q26 .b, .ge p27 (XL.of [.G p27 false p28 (.mov q0) .s, .G p27 false p29 (.mov q1) tI, .G p27 false p30 (.idxs q28 q29) tC, .G p27 false p31 (.bin .eql q30 (.c (.int .u8 (.ofNat 13)))) .b, .P p32 (.pick q27 (cb true) q31) .b]) p32 .b] (.cond q32 (.s (.oX [.mv p33 q1 tI, .bn p34 .add q33 (ci 1) tI, .mv p1 q34 tI])) (.sO [.mv p35 q0 .s, .mv p36 q1 tI, .cl p37 156 [q35, q36, (.c (.str [47, 47]))] .b] (.cond q37 (.block 2 (.loop v115_2 c115_2b)) (.sO [.mv p50 q0 .s, .mv p51 q1 tI, .cl p52 156 [q50, q51, (.c (.str [47, 42]))] .b] (.cond q52 (.sO [.mv p53 q1 tI, .bn p54 .add q53 (ci 2) tI, .mv p6 q54 tI] (.sj v115_3 (.block 4 (.loop v115_4 c115_4b)) c115_3)) (.sO [.mv p74 q1 tI, .mv p4 q74 tI, .mv p5 (cb true) .b] (.s .ret))))))))))
def c115_e : XC := (.sO [.mv p4 (ci 0) tI, .mv p5 (cb false) .b] (.sj v115_0 (.block 0 (.loop v115_1 c115_1b)) c115_0))
def x115 : XFn := ⟨[.s, tI], false, [(.tmp p4), (.tmp p5)], c115_e⟩
def e115_0 (k t1 h) := kN k [(p1, (vI t1))] h
def S115_0 (D : CallD) (m : Nat) (t1 : Int) (h : HP) : Res2 :=
 some (.ret (.tup [(vI t1), (vB true)]) h, .no)
def e115_2 (k t0 t1 h) := kN k [(p0, (vS t0)), (p1, (vI t1))] h
def S115_2b (D : CallD) (m : Nat) (g2 : LN → Int → HP → Res2) (g1 : LN → Int → HP → Res2) (t0 : LN) (t1 : Int) (h : HP) : Res2 :=
 let t40 := Int.ofNat (lenL t0)
 let t41 := ltQ t1 t40
 obB (brV t41 (
 ixCV (vS t0) (vI t1) fun vt45 => asIV .u8 vt45 fun t45 =>
 let t46 := notQ (eqQ t45 (Int.ofNat 10))
 some (vB t46)) (
 some (vB false))) fun t47 =>
 br t47 (
 let t49 := wrQ .i64 (addQ t1 (Int.ofNat 1))
 g2 t0 t49 h) (
 g1 t0 t1 h)
def S115_2 (D : CallD) (m : Nat) (g1 : LN → Int → HP → Res2) : LN → Int → HP → Res2 := nrec (fun _ _ _ => none) (fun _ g => S115_2b D m g g1) m
def e115_3 (k t0 t1 t6 h) := kN k [(p0, (vS t0)), (p1, (vI t1)), (p6, (vI t6))] h
def S115_3 (D : CallD) (m : Nat) (g1 : LN → Int → HP → Res2) (t0 : LN) (t1 t6 : Int) (h : HP) : Res2 :=
 let t69 := Int.ofNat (lenL t0)
 let t70 := leQ t69 t6
 br t70 (
 some (.ret (.tup [(vI t1), (vB false)]) h, .no)) (
 let t73 := wrQ .i64 (addQ t6 (Int.ofNat 2))
 g1 t0 t73 h)
def e115_5 (k t0 t1 t6 h) := kN k [(p0, (vS t0)), (p1, (vI t1)), (p6, (vI t6))] h
def S115_5 (D : CallD) (m : Nat) (g4 : LN → Int → Int → HP → Res2) (g1 : LN → Int → HP → Res2) (t0 : LN) (t1 t6 : Int) (h : HP) : Res2 :=
 let t66 := wrQ .i64 (addQ t6 (Int.ofNat 1))
 g4 t0 t1 t66 h
def e115_6 (k t0 t1 t6 t64 h) := kN k [(p0, (vS t0)), (p1, (vI t1)), (p6, (vI t6)), (p64, (vB t64))] h
def S115_6 (D : CallD) (m : Nat) (g4 : LN → Int → Int → HP → Res2) (g1 : LN → Int → HP → Res2) (t0 : LN) (t1 t6 : Int) (t64 : Bool) (h : HP) : Res2 :=
 br t64 (
 S115_5 D m g4 g1 t0 t1 t6 h) (
 S115_3 D m g1 t0 t1 t6 h)
def e115_4 (k t0 t1 t6 h) := kN k [(p0, (vS t0)), (p1, (vI t1)), (p6, (vI t6))] h
def S115_4b (D : CallD) (m : Nat) (g4 : LN → Int → Int → HP → Res2) (g1 : LN → Int → HP → Res2) (t0 : LN) (t1 t6 : Int) (h : HP) : Res2 :=
 let t57 := Int.ofNat (lenL t0)
 let t58 := ltQ t6 t57
 br t58 (
 cal D 156 [(vS t0), (vI t6), (vS ([42, 47] : LN))] h fun t62 h11 =>
 asB t62 fun t62a =>
 let t63 := !t62a
 S115_6 D m g4 g1 t0 t1 t6 t63 h11) (
 S115_6 D m g4 g1 t0 t1 t6 false h)
def S115_4 (D : CallD) (m : Nat) (g1 : LN → Int → HP → Res2) : LN → Int → Int → HP → Res2 := nrec (fun _ _ _ _ => none) (fun _ g => S115_4b D m g g1) m
def e115_1 (k t0 t1 h) := kN k [(p0, (vS t0)), (p1, (vI t1))] h
def S115_1b (D : CallD) (m : Nat) (g1 : LN → Int → HP → Res2) (t0 : LN) (t1 : Int) (h : HP) : Res2 :=
 let t9 := Int.ofNat (lenL t0)
 let t10 := ltQ t1 t9
 br t10 (
 ixC (vS t0) (vI t1) fun vt13 => asI .u8 vt13 fun t13 =>
 let t14 := eqQ t13 (Int.ofNat 32)
 obB (brV t14 (
 some (vB true)) (
 ixCV (vS t0) (vI t1) fun vt18 => asIV .u8 vt18 fun t18 =>
 let t19 := eqQ t18 (Int.ofNat 9)
 some (vB t19))) fun t20 =>
 obB (brV t20 (
 some (vB true)) (
 ixCV (vS t0) (vI t1) fun vt24 => asIV .u8 vt24 fun t24 =>
 let t25 := eqQ t24 (Int.ofNat 10)
 some (vB t25))) fun t26 =>
 obB (brV t26 (
 some (vB true)) (
 ixCV (vS t0) (vI t1) fun vt30 => asIV .u8 vt30 fun t30 =>
 let t31 := eqQ t30 (Int.ofNat 13)
 some (vB t31))) fun t32 =>
 br t32 (
 let t34 := wrQ .i64 (addQ t1 (Int.ofNat 1))
 g1 t0 t34 h) (
 cal D 156 [(vS t0), (vI t1), (vS ([47, 47] : LN))] h fun t37 h9 =>
 asB t37 fun t37a =>
 br t37a (
 S115_2 D m g1 t0 t1 h9) (
 cal D 156 [(vS t0), (vI t1), (vS ([47, 42] : LN))] h9 fun t52 h10 =>
 asB t52 fun t52a =>
 br t52a (
 let t54 := wrQ .i64 (addQ t1 (Int.ofNat 2))
 S115_4 D m g1 t0 t1 t54 h10) (
 some (.ret (.tup [(vI t1), (vB true)]) h10, .no))))) (
 S115_0 D m t1 h)
def S115_1 (D : CallD) (m : Nat) : LN → Int → HP → Res2 := nrec (fun _ _ _ => none) (fun _ g => S115_1b D m g) m
def e115_8 (k t0 t1 h) := kN k [(p0, (vS t0)), (p1, (vI t1))] h
def S115_8 (D : CallD) (m : Nat) (t0 : LN) (t1 : Int) (h : HP) : Res2 :=
 S115_1 D m t0 t1 h
def S115 : SFn := fun D m args h u => nou u <| popS args fun t0 args => popI .i64 args fun t1 args => endA args (S115_8 D m t0 t1 h)
theorem T115_0 (hE : FX x115 D m E) : S115_0 D m = e115_0 (E c115_0 []) := by unfold S115_0; rw [hE c115_0]; kernel_rfl
theorem T115_2b (hE : FX x115 D m E) (G2) (G1) : S115_2b D m (e115_2 G2) (e115_1 G1) = e115_2 (E c115_2b [.lp v115_2 G2, .blk 2, .blk 1, .lp v115_1 G1, .blk 0, .sj v115_0 c115_0]) := by unfold S115_2b; rw [hE c115_2b]; kernel_rfl
theorem T115_2 (hE : FX x115 D m E) (G1) : S115_2 D m (e115_1 G1) = e115_2 (nrec (fun _ => none) (fun _ G2 st => E c115_2b [.lp v115_2 G2, .blk 2, .blk 1, .lp v115_1 G1, .blk 0, .sj v115_0 c115_0] st) m) :=
  nrec_emb e115_2 (fun _ _ _ => none) (fun g => S115_2b D m g (e115_1 G1)) (fun G2 st => E c115_2b [.lp v115_2 G2, .blk 2, .blk 1, .lp v115_1 G1, .blk 0, .sj v115_0 c115_0] st) rfl (fun g => T115_2b hE g G1) m
theorem T115_3 (hE : FX x115 D m E) (G1) : S115_3 D m (e115_1 G1) = e115_3 (E c115_3 [.blk 1, .lp v115_1 G1, .blk 0, .sj v115_0 c115_0]) := by unfold S115_3; rw [hE c115_3]; kernel_rfl
theorem T115_5 (hE : FX x115 D m E) (G4) (G1) : S115_5 D m (e115_4 G4) (e115_1 G1) = e115_5 (E c115_5 [.lp v115_4 G4, .blk 4, .sj v115_3 c115_3, .blk 1, .lp v115_1 G1, .blk 0, .sj v115_0 c115_0]) := by unfold S115_5; rw [hE c115_5]; kernel_rfl
theorem T115_6 (hE : FX x115 D m E) (G4) (G1) : S115_6 D m (e115_4 G4) (e115_1 G1) = e115_6 (E (.opq false l115_6 c115_7) [.sj v115_5 c115_5, .lp v115_4 G4, .blk 4, .sj v115_3 c115_3, .blk 1, .lp v115_1 G1, .blk 0, .sj v115_0 c115_0]) := by unfold S115_6; rw [T115_5 hE G4 G1, T115_3 hE G1, hE (.opq false l115_6 c115_7)]; kernel_rfl
theorem T115_4b (hE : FX x115 D m E) (G4) (G1) : S115_4b D m (e115_4 G4) (e115_1 G1) = e115_4 (E c115_4b [.lp v115_4 G4, .blk 4, .sj v115_3 c115_3, .blk 1, .lp v115_1 G1, .blk 0, .sj v115_0 c115_0]) := by unfold S115_4b; rw [T115_6 hE G4 G1, hE c115_4b]; kernel_rfl
theorem T115_4 (hE : FX x115 D m E) (G1) : S115_4 D m (e115_1 G1) = e115_4 (nrec (fun _ => none) (fun _ G4 st => E c115_4b [.lp v115_4 G4, .blk 4, .sj v115_3 c115_3, .blk 1, .lp v115_1 G1, .blk 0, .sj v115_0 c115_0] st) m) :=
  nrec_emb e115_4 (fun _ _ _ _ => none) (fun g => S115_4b D m g (e115_1 G1)) (fun G4 st => E c115_4b [.lp v115_4 G4, .blk 4, .sj v115_3 c115_3, .blk 1, .lp v115_1 G1, .blk 0, .sj v115_0 c115_0] st) rfl (fun g => T115_4b hE g G1) m
theorem T115_1b (hE : FX x115 D m E) (G1) : S115_1b D m (e115_1 G1) = e115_1 (E c115_1b [.lp v115_1 G1, .blk 0, .sj v115_0 c115_0]) := by unfold S115_1b; rw [T115_2 hE G1, T115_4 hE G1, T115_0 hE, hE c115_1b]; kernel_rfl
theorem T115_1 (hE : FX x115 D m E) : S115_1 D m = e115_1 (nrec (fun _ => none) (fun _ G1 st => E c115_1b [.lp v115_1 G1, .blk 0, .sj v115_0 c115_0] st) m) :=
  nrec_emb e115_1 (fun _ _ _ => none) (fun g => S115_1b D m g) (fun G1 st => E c115_1b [.lp v115_1 G1, .blk 0, .sj v115_0 c115_0] st) rfl (fun g => T115_1b hE g) m
theorem T115_8 (hE : FX x115 D m E) : S115_8 D m = e115_8 (E c115_e []) := by unfold S115_8; rw [T115_1 hE, hE c115_e]; kernel_rfl
theorem X115 : XTie S115 x115 := X_of fun D m E hE args h u => by unfold S115; rw [T115_8 hE]; kernel_rfl
end
end Go.Proofs.YtcoldhmbmcdemaaGreat.Sx
