/- Functions, printed by a program of ours: their code, what they do, and that it is so. -/
import Derived.Test.YtakcpnpeadkfpaaGreatDoorSp
set_option maxRecDepth 8000
set_option linter.unusedVariables false
namespace Go.Proofs.YtakcpnpeadkfpaaGreatDoor.Sx
open Go Go.Proofs.YtakcpnpeadkfpaaGreatDoor.Ev
set_option linter.unusedSectionVars false
noncomputable section
variable [Rho]
variable {D : CallD} {m : Nat} {E : XE}
/- 145 -/
def x145 : XFn := ⟨[], false, [(.tmp p0)], (.sO [.mv p0 (.c .nils) .v] (.sO [.al p1 (.bsl [(.str [])] 1 [⟨0, 1, (.c (.str [124, 124]))⟩]), .al p2 (.bsl [(.str [])] 1 [⟨0, 1, (.c (.str [38, 38]))⟩]), .al p3 (.bsl [(.str [])] 1 [⟨0, 1, (.c (.str [124]))⟩]), .al p4 (.bsl [(.str [])] 1 [⟨0, 1, (.c (.str [94]))⟩]), .al p5 (.bsl [(.str [])] 1 [⟨0, 1, (.c (.str [38]))⟩]), .al p6 (.bsl [(.str []), (.str [])] 2 [⟨0, 1, (.c (.str [61, 61]))⟩, ⟨1, 1, (.c (.str [33, 61]))⟩]), .al p7 (.bsl [(.str []), (.str []), (.str []), (.str [])] 4 [⟨0, 1, (.c (.str [60]))⟩, ⟨1, 1, (.c (.str [60, 61]))⟩, ⟨2, 1, (.c (.str [62]))⟩, ⟨3, 1, (.c (.str [62, 61]))⟩]), .al p8 (.bsl [(.str []), (.str [])] 2 [⟨0, 1, (.c (.str [60, 60]))⟩, ⟨1, 1, (.c (.str [62, 62]))⟩]), .al p9 (.bsl [(.str []), (.str [])] 2 [⟨0, 1, (.c (.str [43]))⟩, ⟨1, 1, (.c (.str [45]))⟩]), .al p10 (.bsl [(.str []), (.str []), (.str [])] 3 [⟨0, 1, (.c (.str [42]))⟩, ⟨1, 1, (.c (.str [47]))⟩, ⟨2, 1, (.c (.str [37]))⟩]), .al p11 (.bsl [.nils, .nils, .nils, .nils, .nils, .nils, .nils, .nils, .nils, .nils] 10 [⟨0, 1, q1⟩, ⟨1, 1, q2⟩, ⟨2, 1, q3⟩, ⟨3, 1, q4⟩, ⟨4, 1, q5⟩, ⟨5, 1, q6⟩, ⟨6, 1, q7⟩, ⟨7, 1, q8⟩, ⟨8, 1, q9⟩, ⟨9, 1, q10⟩]), .mv p0 q11 .v] (.s .ret)))⟩
def S145 : SFn := evFX x145
theorem X145 : XTie S145 x145 := fun _ _ _ _ _ => rfl
/- 146 -/
def x146 : XFn := ⟨[.v], false, [(.cells 8 p2)], (.sO [.al p1 (.box q0), .al p2 (.new Ze)] (.sO [.ld p6 q1 .v, .cl p7 115 [q6] .v] (.sO [.P p8 (.mkfn 176 [] [q1]) .v, .o ⟨none, (.defer (.val q8) []), none, []⟩ .v] (.sO [.ld p9 q1 .v, .cl p10 50 [q9] .v, .al p3 (.new [(kI 0), (.str []), (kI 0)]), .ss 3 q3 q10] (.seq (.seq (.oX [.ld p11 q1 .v, .al p12 (.bsl [(.str []), (.str []), (.str []), (.str []), (.str [])] 5 [⟨0, 1, (.c (.str [45]))⟩, ⟨1, 1, (.c (.str [33]))⟩, ⟨2, 1, (.c (.str [126]))⟩, ⟨3, 1, (.c (.str [42]))⟩, ⟨4, 1, (.c (.str [38]))⟩]), .cl p13 75 [q11, q12] .b]) (.cond q13 (.seq (.oX [.ld p14 q1 .v, .P p15 (.nilck q14) .v, .fa p16 1 q15, .ld p17 q16 tI, .bn p18 .add q17 (ci 1) tI, .P p19 (.nilck q14) .v, .fa p20 1 q19, .st q20 q18]) (.seq (.ops true (XL.of [.fa p21 1 q3, .ld p22 q21 .s, .ld p23 q1 .v, .fa p26 2 q3, .ld p27 q26 tI, .o ⟨(some p24), (.call (.fn 146) [q23]), none, [⟨none, .cell q21, p22⟩, ⟨none, .cell q26, p27⟩]⟩ .v, .al p25 (.bsl Ze 1 [⟨0, 8, q24⟩]), .P p28 (.build Ze [⟨0, 1, (ci 4)⟩, ⟨1, 1, q22⟩, ⟨5, 1, q25⟩, ⟨7, 1, q27⟩]) .v, .ss 8 q2 q28])) .ret)) .skip)) (.seq (.seq (.ops true (XL.of [.ld p29 q1 .v, .al p30 (.bsl [(.str [])] 1 [⟨0, 1, (.c (.str [40]))⟩]), .cl p31 75 [q29, q30] .b, .mv p32 q31 .b, .ge p32 (XL.of [.o ⟨(some p33), (.l (.cell q1)), (some (p32, true)), []⟩ .v, .G p32 true p34 (.nilck q33) .v, .G p32 true p35 (.faddr 0 q34) .v, .o ⟨(some p36), (.l (.cell q35)), (some (p32, true)), []⟩ .v, .o ⟨(some p37), (.l (.cell q1)), (some (p32, true)), []⟩ .v, .G p32 true p38 (.nilck q37) .v, .G p32 true p39 (.faddr 1 q38) .v, .o ⟨(some p40), (.l (.cell q39)), (some (p32, true)), []⟩ tI, .G p32 true p41 (.bin .add q40 (ci 1)) tI, .G p32 true p42 (.iaddr (.sl 3) q36 q41) .v, .G p32 true p43 (.faddr 0 q42) .v, .o ⟨(some p44), (.l (.cell q43)), (some (p32, true)), []⟩ tI, .G p32 true p45 (.bin .eql q44 (ci 5)) .b, .P p46 (.pick q32 q45 (cb false)) .b]) p46 .b])) (.cond q46 (.seq (.oX [.ld p47 q1 .v, .P p48 (.nilck q47) .v, .fa p49 1 q48, .ld p50 q49 tI, .bn p51 .add q50 (ci 1) tI, .P p52 (.nilck q47) .v, .fa p53 1 q52, .st q53 q51]) (.seq (.oX [.ld p54 q1 .v, .cl p55 72 [q54] tI, .mv p4 q55 tI]) (.seq (.oX [.ld p56 q1 .v, .cl p57 77 [q56, (.c (.str [41]))] .v]) (.seq (.ops true (XL.of [.mv p58 q4 tI, .P p59 (.conv (.ii .u32) q58) tW, .ld p60 q1 .v, .fa p63 2 q3, .ld p64 q63 tI, .o ⟨(some p61), (.call (.fn 146) [q60]), none, [⟨none, .cell q63, p64⟩]⟩ .v, .al p62 (.bsl Ze 1 [⟨0, 8, q61⟩]), .P p65 (.build Ze [⟨0, 1, (ci 9)⟩, ⟨3, 1, q59⟩, ⟨5, 1, q62⟩, ⟨7, 1, q64⟩]) .v, .ss 8 q2 q65])) .ret)))) .skip)) (.sO [.ld p66 q1 .v, .cl p67 177 [q66] .v, .al p5 (.new Ze), .ss 8 q5 q67] (.sj [p2, p5] (.block 0 (.loop [p1, p2, p5] (.seq (.seq (.oX [.ld p68 q1 .v, .cl p69 71 [q68, (.c (.str [91]))] .b]) (.cond q69 .skip (.exit 0))) (.block 1 (.seq (.ops true (XL.of [.L p70 (.cells 8 q5) .v, .ld p71 q1 .v, .fa p74 7 q5, .ld p75 q74 tI, .o ⟨(some p72), (.call (.fn 79) [q71]), none, [⟨none, .cells 8 q5, p70⟩, ⟨none, .cell q74, p75⟩]⟩ .v, .al p73 (.bsl [(kI 0), (.str []), (.str []), Z32, Z64, .nils, (kI 0), (kI 0), (kI 0), (.str []), (.str []), Z32, Z64, .nils, (kI 0), (kI 0)] 2 [⟨0, 8, q70⟩, ⟨8, 8, q72⟩]), .P p76 (.build Ze [⟨0, 1, (ci 8)⟩, ⟨5, 1, q73⟩, ⟨7, 1, q75⟩]) .v, .ss 8 q5 q76])) (.s (.oX [.ld p77 q1 .v, .cl p78 77 [q77, (.c (.str [93]))] .v]))))))) (.sO [.L p79 (.cells 8 q5) .v, .ss 8 q2 q79] (.s .ret))))))))))⟩
def S146 : SFn := evFX x146
theorem X146 : XTie S146 x146 := fun _ _ _ _ _ => rfl
/- 149 -/
def x149 : XFn := ⟨[tI], false, [(.tmp p2)], (.sO [.mv p2 (ci 0) tI] (.seq (.seq (.oX [.mv p3 q0 tI]) (.block 0 (.seq (.oX [.bn p5 .eql q3 (ci 1) .b, .mv p4 q5 .b]) (.cond q4 (.seq (.oX [.mv p2 (ci 3) tI]) .ret) (.seq (.oX [.bn p7 .eql q3 (ci 2) .b, .mv p6 q7 .b]) (.cond q6 (.seq (.oX [.mv p2 (ci 4) tI]) .ret) .skip)))))) (.sO [.mv p2 (ci 0) tI] (.s .ret))))⟩
def S149 : SFn := evFX x149
theorem X149 : XTie S149 x149 := fun _ _ _ _ _ => rfl
/- 150 -/
def x150 : XFn := ⟨[.s, .v], false, [(.tmp p4)], (.sO [.al p3 (.box q1), .mv p4 (ci 0) tI] (.sj [] (.sO [.mv p5 q0 .s] (.block 0 (.sO [.bn p7 .eql q5 (.c (.str [45])) .b, .mv p6 q7 .b] (.cond q6 (.sO [.fa p8 6 q3, .ld p9 q8 tI, .cl p10 82 [q9] .b] (.cond q10 (.sO [.fa p11 6 q3, .ld p12 q11 tI, .mv p4 q12 tI] (.s .ret)) (.s .skip))) (.sj [p3, p5, p13] (.sO [.bn p14 .eql q5 (.c (.str [33])) .b, .mv p13 q14 .b] (.cond q13 (.s .skip) (.s (.oX [.bn p15 .eql q5 (.c (.str [126])) .b, .mv p13 q15 .b])))) (.cond q13 (.sO [.fa p16 6 q3, .ld p17 q16 tI, .bn p18 .eql q17 (ci 1) .b] (.cond q18 (.sO [.mv p4 (ci 1) tI] (.s .ret)) (.s .skip))) (.sO [.bn p20 .eql q5 (.c (.str [42])) .b, .mv p19 q20 .b] (.cond q19 (.sO [.fa p21 6 q3, .ld p22 q21 tI, .cl p23 154 [q22] tI, .mv p4 q23 tI] (.s .ret)) (.sO [.bn p25 .eql q5 (.c (.str [38])) .b, .mv p24 q25 .b] (.cond q24 (.sO [.L p26 (.cells 8 q3) .v, .cl p27 152 [q26] .b] (.cond q27 (.sO [.fa p28 6 q3, .ld p29 q28 tI, .cl p30 149 [q29] tI, .mv p4 q30 tI] (.s .ret)) (.s .skip))) (.s .skip))))))))))) (.sO [.mv p4 (ci 0) tI] (.s .ret))))⟩
def S150 : SFn := evFX x150
theorem X150 : XTie S150 x150 := fun _ _ _ _ _ => rfl
/- 152 -/
def x152 : XFn := ⟨[.v], false, [(.tmp p2)], (.sO [.al p1 (.box q0), .mv p2 (cb false) .b] (.sO [.fa p3 0 q1, .ld p4 q3 tI, .bn p5 .eql q4 (ci 3) .b, .mv p6 q5 .b, .ge p6 (XL.of [.G p6 true p7 (.faddr 3 q1) .v, .o ⟨(some p8), (.l (.cell q7)), (some (p6, true)), []⟩ tW, .G p6 true p9 (.bin .eql q8 (.c Z32)) .b, .P p10 (.pick q6 q9 (cb false)) .b]) p10 .b, .mv p11 q10 .b, .ge p11 (XL.of [.G p11 false p12 (.faddr 0 q1) .v, .o ⟨(some p13), (.l (.cell q12)), (some (p11, false)), []⟩ tI, .G p11 false p14 (.bin .eql q13 (ci 8)) .b, .P p15 (.pick q11 (cb true) q14) .b]) p15 .b, .mv p16 q15 .b, .ge p16 (XL.of [.G p16 false p17 (.faddr 0 q1) .v, .o ⟨(some p18), (.l (.cell q17)), (some (p16, false)), []⟩ tI, .G p16 false p19 (.bin .eql q18 (ci 4)) .b, .G p16 false p20 (.mov q19) .b, .ge p20 (XL.of [.G p20 true p21 (.faddr 1 q1) .v, .o ⟨(some p22), (.l (.cell q21)), (some (p20, true)), []⟩ .s, .G p20 true p23 (.bin .eql q22 (.c (.str [42]))) .b, .G p16 false p24 (.pick q20 q23 (cb false)) .b]) p24 .b, .P p25 (.pick q16 (cb true) q24) .b]) p25 .b, .mv p2 q25 .b] (.s .ret)))⟩
def S152 : SFn := evFX x152
theorem X152 : XTie S152 x152 := fun _ _ _ _ _ => rfl
/- 154 -/
def x154 : XFn := ⟨[tI], false, [(.tmp p2)], (.sO [.mv p2 (ci 0) tI] (.seq (.seq (.oX [.mv p3 q0 tI]) (.block 0 (.seq (.oX [.bn p5 .eql q3 (ci 3) .b, .mv p4 q5 .b]) (.cond q4 (.seq (.oX [.mv p2 (ci 1) tI]) .ret) (.seq (.oX [.bn p7 .eql q3 (ci 4) .b, .mv p6 q7 .b]) (.cond q6 (.seq (.oX [.mv p2 (ci 2) tI]) .ret) .skip)))))) (.sO [.mv p2 (ci 0) tI] (.s .ret))))⟩
def S154 : SFn := evFX x154
theorem X154 : XTie S154 x154 := fun _ _ _ _ _ => rfl
/- 160 -/
def c160_e : XC := (.sO [.mv p4 (ci 0) tI] (.seq (.seq (.oX [.mv p5 q1 tI, .mv p6 q0 .v, .P p7 (.lenl q6) tI, .bn p8 .lss q5 q7 .b]) (.cond q8 (.seq (.oX [.mv p9 q0 .v, .mv p10 q1 tI, .P p11 (.iaddr (.sl 1) q9 q10) .v, .ld p12 q11 tI, .mv p4 q12 tI]) .ret) .skip)) (.sO [.mv p4 (ci 0) tI] (.s .ret))))
def x160 : XFn := ⟨[.v, tI], false, [(.tmp p4)], c160_e⟩
def e160_0 (k t0 t1 h) := kN k [(p0, t0), (p1, (vI t1))] h
def S160_0 (D : CallD) (m : Nat) (t0 : AV) (t1 : Int) (h : HP) : Res2 :=
 lenC t0 fun vt7 => asI .i64 vt7 fun t7 =>
 let t8 := ltQ t1 t7
 br t8 (
 iasC 1 t0 (vI t1) fun t11 =>
 ldI t11 h fun t12 =>
 some (.ret (vI t12) h, .no)) (
 some (.ret (vI (Int.ofNat 0)) h, .no))
def S160 : SFn := fun D m args h u => nou u <| popV args fun t0 args => popI .i64 args fun t1 args => endA args (S160_0 D m t0 t1 h)
theorem T160_0 (hE : FX x160 D m E) : S160_0 D m = e160_0 (E c160_e []) := by unfold S160_0; rw [hE c160_e]; kernel_rfl
theorem X160 : XTie S160 x160 := X_of fun D m E hE args h u => by unfold S160; rw [T160_0 hE]; kernel_rfl
/- 161 -/
def v161_0 : List Pos := [p0, p3]
def c161_0 : XC := (.sO [.mv p18 q0 .v, .mv p19 q3 tI, .P p20 (.slice (.sl 1) q18 none (some q19) none) .v, .mv p2 q20 .v] (.s .ret))
def v161_1 : List Pos := [p0, p3]
def c161_1b : XC := (.seq (.seq (.oX [.mv p6 q3 tI, .bn p7 .gtr q6 (ci 0) .b, .mv p8 q7 .b, .ge p8 (XL.of [.G p8 true p9 (.mov q0) .v, .G p8 true p10 (.mov q3) tI, .G p8 true p11 (.bin .sub q10 (ci 1)) tI, .G p8 true p12 (.iaddr (.sl 1) q9 q11) .v, .o ⟨(some p13), (.l (.cell q12)), (some (p8, true)), []⟩ tI, .G p8 true p14 (.bin .eql q13 (ci 0)) .b, .P p15 (.pick q8 q14 (cb false)) .b]) p15 .b]) (.cond q15 .skip (.exit 0))) (.block 1 (.s (.oX [.mv p16 q3 tI, .bn p17 .sub q16 (ci 1) tI, .mv p3 q17 tI]))))
def c161_e : XC := (.sO [.mv p2 (.c .nils) .v] (.sO [.mv p4 q0 .v, .P p5 (.lenl q4) tI, .mv p3 q5 tI] (.sj v161_0 (.block 0 (.loop v161_1 c161_1b)) c161_0)))
def x161 : XFn := ⟨[.v], false, [(.tmp p2)], c161_e⟩
def e161_0 (k t0 t3 h) := kN k [(p0, t0), (p3, (vI t3))] h
def S161_0 (D : CallD) (m : Nat) (t0 : AV) (t3 : Int) (h : HP) : Res2 :=
 obQ (evP (.slice (.sl 1) (.c t0) none (some (.c (vI t3))) none) .leaf) fun t20 =>
 some (.ret t20 h, .no)
def e161_1 (k t0 t3 h) := kN k [(p0, t0), (p3, (vI t3))] h
def S161_1b (D : CallD) (m : Nat) (g1 : AV → Int → HP → Res2) (t0 : AV) (t3 : Int) (h : HP) : Res2 :=
 let t7 := ltQ (Int.ofNat 0) t3
 obB (brV t7 (
 let t11 := wrQ .i64 (t3 - (Int.ofNat 1))
 iasCV 1 t0 (vI t11) fun t12 =>
 ldIV t12 h fun t13 =>
 let t14 := eqQ t13 (Int.ofNat 0)
 some (vB t14)) (
 some (vB false))) fun t15 =>
 br t15 (
 let t17 := wrQ .i64 (t3 - (Int.ofNat 1))
 g1 t0 t17 h) (
 S161_0 D m t0 t3 h)
def S161_1 (D : CallD) (m : Nat) : AV → Int → HP → Res2 := nrec (fun _ _ _ => none) (fun _ g => S161_1b D m g) m
def e161_2 (k t0 h) := kN k [(p0, t0)] h
def S161_2 (D : CallD) (m : Nat) (t0 : AV) (h : HP) : Res2 :=
 lenC t0 fun vt5 => asI .i64 vt5 fun t5 =>
 S161_1 D m t0 t5 h
def S161 : SFn := fun D m args h u => nou u <| popV args fun t0 args => endA args (S161_2 D m t0 h)
theorem T161_0 (hE : FX x161 D m E) : S161_0 D m = e161_0 (E c161_0 []) := by unfold S161_0; rw [hE c161_0]; kernel_rfl
theorem T161_1b (hE : FX x161 D m E) (G1) : S161_1b D m (e161_1 G1) = e161_1 (E c161_1b [.lp v161_1 G1, .blk 0, .sj v161_0 c161_0]) := by unfold S161_1b; rw [T161_0 hE, hE c161_1b]; kernel_rfl
theorem T161_1 (hE : FX x161 D m E) : S161_1 D m = e161_1 (nrec (fun _ => none) (fun _ G1 st => E c161_1b [.lp v161_1 G1, .blk 0, .sj v161_0 c161_0] st) m) :=
  nrec_emb e161_1 (fun _ _ _ => none) (fun g => S161_1b D m g) (fun G1 st => E c161_1b [.lp v161_1 G1, .blk 0, .sj v161_0 c161_0] st) rfl (fun g => T161_1b hE g) m
theorem T161_2 (hE : FX x161 D m E) : S161_2 D m = e161_2 (E c161_e []) := by unfold S161_2; rw [T161_1 hE, hE c161_e]; kernel_rfl
theorem X161 : XTie S161 x161 := X_of fun D m E hE args h u => by unfold S161; rw [T161_2 hE]; kernel_rfl
/- 162 -/
def v162_0 : List Pos := [p3]
def c162_0 : XC := (.sO [.mv p26 q3 .v, .cl p27 161 [q26] .v, .mv p2 q27 .v] (.s .ret))
def v162_1 : List Pos := [p0, p3, p6, p7]
def c162_1b : XC := (.sO [.bn p8 .lss q7 q6 .b] (.seq (.cond q8 .skip (.exit 0)) (.seq (.block 1 (.seq (.oX [.mv p9 q7 tI, .mv p4 q9 tI]) (.ops true (XL.of [.mv p10 q3 .v, .mv p11 q0 .v, .mv p12 q4 tI, .P p13 (.iaddr (.sl 1) q11 q12) .v, .ld p14 q13 tI, .bn p15 .quo q14 (ci 2) tI, .mv p16 q0 .v, .mv p17 q4 tI, .bn p18 .add q17 (ci 1) tI, .o ⟨(some p19), (.call (.fn 160) [q16, q18]), none, [⟨none, .cell q13, p14⟩]⟩ tI, .bn p20 .rem q19 (ci 2) tI, .bn p21 .mul q20 (ci 32768) tI, .bn p22 .add q15 q21 tI, .al p23 (.bsl [(kI 0)] 1 [⟨0, 1, q22⟩]), .o ⟨(some p24), (.e (.app 1 8 q10 q23)), none, []⟩ .v, .mv p3 q24 .v])))) (.s (.oX [.bn p25 .add q7 (ci 1) tI, .mv p7 q25 tI])))))
def c162_e : XC := (.sO [.mv p2 (.c .nils) .v] (.sO [.mv p3 (.c .nils) .v] (.sj v162_0 (.sO [.mv p5 q0 .v, .P p6 (.lenl q5) tI, .mv p7 (ci 0) tI] (.block 0 (.loop v162_1 c162_1b))) c162_0)))
def x162 : XFn := ⟨[.v], false, [(.tmp p2)], c162_e⟩
def e162_0 (k t3 h) := kN k [(p3, t3)] h
def S162_0 (D : CallD) (m : Nat) (t3 : AV) (h : HP) : Res2 :=
 cal D 161 [t3] h fun t27 h3 =>
 some (.ret t27 h3, .no)
def e162_1 (k t0 t3 t6 t7 h) := kN k [(p0, t0), (p3, t3), (p6, (vI t6)), (p7, (vI t7))] h
def S162_1b (D : CallD) (m : Nat) (g1 : AV → AV → Int → Int → HP → Res2) (t0 t3 : AV) (t6 t7 : Int) (h : HP) : Res2 :=
 let t8 := ltQ t7 t6
 br t8 (
 iasC 1 t0 (vI t7) fun t13 =>
 ldI t13 h fun t14 =>
 let t15 := wrapF .i64 (Int.tdiv t14 (Int.ofNat 2))
 let t18 := wrQ .i64 (addQ t7 (Int.ofNat 1))
 cal D 160 [t0, (vI t18)] h fun t19 h4 =>
 br (again [⟨none, .cell q13, p14⟩] (mkT [(p14, (vI t14)), (p13, t13)]) h4) (
 asI .i64 t19 fun t19a =>
 let t20 := Int.tmod t19a (Int.ofNat 2)
 let t21 := wrQ .i64 (t20 * (Int.ofNat 32768))
 let t22 := wrQ .i64 (addQ t15 t21)
 let t23 := AV.slice (HP.nxQ h4) 0 1 (.exact 1)
 let h5 := HP.newQ h4 (.cells true [(vI t22)])
 eff (.app 1 8 (.c t3) (.c t23)) h5 fun t24 h6 =>
 let t25 := wrQ .i64 (addQ t7 (Int.ofNat 1))
 g1 t0 t24 t6 t25 h6) none) (
 S162_0 D m t3 h)
def S162_1 (D : CallD) (m : Nat) : AV → AV → Int → Int → HP → Res2 := nrec (fun _ _ _ _ _ => none) (fun _ g => S162_1b D m g) m
def e162_2 (k t0 h) := kN k [(p0, t0)] h
def S162_2 (D : CallD) (m : Nat) (t0 : AV) (h : HP) : Res2 :=
 lenC t0 fun vt6 => asI .i64 vt6 fun t6 =>
 S162_1 D m t0 (.nils : AV) t6 (Int.ofNat 0) h
def S162 : SFn := fun D m args h u => nou u <| popV args fun t0 args => endA args (S162_2 D m t0 h)
theorem T162_0 (hE : FX x162 D m E) : S162_0 D m = e162_0 (E c162_0 []) := by unfold S162_0; rw [hE c162_0]; kernel_rfl
theorem T162_1b (hE : FX x162 D m E) (G1) : S162_1b D m (e162_1 G1) = e162_1 (E c162_1b [.lp v162_1 G1, .blk 0, .sj v162_0 c162_0]) := by unfold S162_1b; rw [T162_0 hE, hE c162_1b]; kernel_rfl
theorem T162_1 (hE : FX x162 D m E) : S162_1 D m = e162_1 (nrec (fun _ => none) (fun _ G1 st => E c162_1b [.lp v162_1 G1, .blk 0, .sj v162_0 c162_0] st) m) :=
  nrec_emb e162_1 (fun _ _ _ _ _ => none) (fun g => S162_1b D m g) (fun G1 st => E c162_1b [.lp v162_1 G1, .blk 0, .sj v162_0 c162_0] st) rfl (fun g => T162_1b hE g) m
theorem T162_2 (hE : FX x162 D m E) : S162_2 D m = e162_2 (E c162_e []) := by unfold S162_2; rw [T162_1 hE, hE c162_e]; kernel_rfl
theorem X162 : XTie S162 x162 := X_of fun D m E hE args h u => by unfold S162; rw [T162_2 hE]; kernel_rfl
/- 170 -/
def x170 : XFn := ⟨[.s, tI, tI], false, [(.tmp p6), (.tmp p7)], (.sO [.mv p6 (.c Z64) (.i .u64), .mv p7 (.c .nili) .v] (.seq (.seq (.oX [.mv p18 q0 .s, .bn p19 .eql q18 (.c (.str [])) .b]) (.cond q19 (.seq (.oX [.P p20 (.mkif 221 (ci 2)) .v, .mv p6 (.c Z64) (.i .u64), .mv p7 q20 .v]) .ret) .skip)) (.sO [.mv p21 q1 tI, .bn p22 .eql q21 (ci 0) .b, .mv p8 q22 .b] (.sO [.mv p23 q0 .s, .mv p9 q23 .s] (.sj [p0, p1, p2, p8, p9] (.block 0 (.sO [.mv p26 q1 tI, .bn p27 .leq (ci 2) q26 .b, .mv p28 q27 .b, .ge p28 (XL.of [.G p28 true p29 (.mov q1) tI, .G p28 true p30 (.bin .leq q29 (ci 36)) .b, .P p31 (.pick q28 q30 (cb false)) .b]) p31 .b, .mv p25 q31 .b] (.cond q25 (.s .skip) (.sO [.mv p33 q1 tI, .bn p34 .eql q33 (ci 0) .b, .mv p32 q34 .b] (.cond q32 (.sO [.mv p1 (ci 10) tI] (.sO [.mv p35 q0 .s, .P p36 (.idxs q35 (ci 0)) tC, .bn p37 .eql q36 (.c (.int .u8 (.ofNat 48))) .b] (.cond q37 (.block 1 (.opq false (XL.pre [.mv p41 q0 .s, .P p42 (.lens q41) tI, .bn p43 .geq q42 (ci 3) .b, .mv p44 q43 .b, .sp p44, .G p44 true p45 (.mov q0) .s, .G p44 true p46 (.idxs q45 (ci 1)) tC, .o ⟨(some p47), (.call (.fn 186) [q46]), (some (p44, true)), []⟩ tC, .G p44 true p48 (.bin .eql q47 (.c (.int .u8 (.ofNat 98)))) .b, .P p49 (.pick q44 q48 (cb false)) .b, .jn p44 [p0, p2, p8, p9, p49]] (XL.of [.mv p40 q49 .b])) (.cond q40 (.sO [.mv p1 (ci 2) tI] (.s (.oX [.mv p50 q0 .s, .P p51 (.slice .str q50 (some (ci 2)) none none) .s, .mv p0 q51 .s]))) (.opq false (XL.pre [.mv p53 q0 .s, .P p54 (.lens q53) tI, .bn p55 .geq q54 (ci 3) .b, .mv p56 q55 .b, .sp p56, .G p56 true p57 (.mov q0) .s, .G p56 true p58 (.idxs q57 (ci 1)) tC, .o ⟨(some p59), (.call (.fn 186) [q58]), (some (p56, true)), []⟩ tC, .G p56 true p60 (.bin .eql q59 (.c (.int .u8 (.ofNat 111)))) .b, .P p61 (.pick q56 q60 (cb false)) .b, .jn p56 [p0, p2, p8, p9, p61]] (XL.of [.mv p52 q61 .b])) (.cond q52 (.sO [.mv p1 (ci 8) tI] (.s (.oX [.mv p62 q0 .s, .P p63 (.slice .str q62 (some (ci 2)) none none) .s, .mv p0 q63 .s]))) (.opq false (XL.pre [.mv p65 q0 .s, .P p66 (.lens q65) tI, .bn p67 .geq q66 (ci 3) .b, .mv p68 q67 .b, .sp p68, .G p68 true p69 (.mov q0) .s, .G p68 true p70 (.idxs q69 (ci 1)) tC, .o ⟨(some p71), (.call (.fn 186) [q70]), (some (p68, true)), []⟩ tC, .G p68 true p72 (.bin .eql q71 (.c (.int .u8 (.ofNat 120)))) .b, .P p73 (.pick q68 q72 (cb false)) .b, .jn p68 [p0, p2, p8, p9, p73]] (XL.of [.mv p64 q73 .b])) (.cond q64 (.sO [.mv p1 (ci 16) tI] (.s (.oX [.mv p74 q0 .s, .P p75 (.slice .str q74 (some (ci 2)) none none) .s, .mv p0 q75 .s]))) (.sO [.mv p1 (ci 8) tI] (.s (.oX [.mv p38 q0 .s, .P p39 (.slice .str q38 (some (ci 1)) none none) .s, .mv p0 q39 .s])))))))))) (.s .skip)))) (.sO [.P p24 (.mkif 221 (ci 3)) .v, .mv p6 (.c Z64) (.i .u64), .mv p7 q24 .v] (.s .ret))))))) (.sj [p0, p1, p2, p8, p9] (.sO [.mv p76 q2 tI, .bn p77 .eql q76 (ci 0) .b] (.cond q77 (.s (.oX [.mv p2 (ci 64) tI])) (.sO [.mv p78 q2 tI, .bn p79 .lss q78 (ci 0) .b, .mv p80 q79 .b, .ge p80 (XL.of [.G p80 false p81 (.mov q2) tI, .G p80 false p82 (.bin .gtr q81 (ci 64)) .b, .P p83 (.pick q80 (cb true) q82) .b]) p83 .b] (.cond q83 (.sO [.P p84 (.mkif 221 (ci 4)) .v, .mv p6 (.c Z64) (.i .u64), .mv p7 q84 .v] (.s .ret)) (.s .skip))))) (.sO [.mv p10 (.c Z64) (.i .u64)] (.sj [p0, p1, p2, p8, p9, p10] (.sO [.mv p85 q1 tI] (.block 2 (.sO [.bn p91 .eql q85 (ci 10) .b, .mv p90 q91 .b] (.cond q90 (.s (.oX [.mv p10 (.c (.int .u64 (.ofNat 1844674407370955162))) (.i .u64)])) (.sO [.bn p93 .eql q85 (ci 16) .b, .mv p92 q93 .b] (.cond q92 (.s (.oX [.mv p10 (.c (.int .u64 (.ofNat 1152921504606846976))) (.i .u64)])) (.s (.oX [.mv p86 q1 tI, .P p87 (.conv (.ii .u64) q86) (.i .u64), .bn p88 .quo (.c (.int .u64 (.ofNat 18446744073709551615))) q87 (.i .u64), .bn p89 .add q88 (.c (.int .u64 (.ofNat 1))) (.i .u64), .mv p10 q89 (.i .u64)])))))))) (.sO [.mv p94 q2 tI, .P p95 (.conv (.ii .u64) q94) (.i .u64), .bn p96 .shl (.c (.int .u64 (.ofNat 1))) q95 (.i .u64), .bn p97 .sub q96 (.c (.int .u64 (.ofNat 1))) (.i .u64), .mv p11 q97 (.i .u64)] (.sO [.mv p12 (cb false) .b] (.sO [.mv p13 (.c Z64) (.i .u64)] (.sj [p9, p12, p13] (.sO [.mv p98 q0 .s, .o ⟨(some p99), (.e (.sb q98)), none, []⟩ .v, .P p100 (.lenl q99) tI, .mv p101 (ci 0) tI] (.block 3 (.loop [p1, p8, p9, p10, p11, p12, p13, p99, p100, p101] (.sO [.bn p102 .lss q101 q100 .b] (.seq (.cond q102 .skip (.exit 3)) (.sj [p1, p8, p9, p10, p11, p12, p13, p99, p100, p101] (.block 4 (.sO [.P p103 (.iaddr (.sl 1) q99 q101) .v, .ld p104 q103 tC, .mv p15 q104 tC] (.sO [.mv p16 (.c (.int .u8 (.ofNat 0))) tC] (.sj [p1, p8, p9, p10, p11, p12, p13, p16, p99, p100, p101] (.block 5 (.sO [.mv p107 q15 tC, .bn p108 .eql q107 (.c (.int .u8 (.ofNat 95))) .b, .mv p109 q108 .b, .ge p109 (XL.of [.G p109 true p110 (.mov q8) .b, .P p111 (.pick q109 q110 (cb false)) .b]) p111 .b, .mv p106 q111 .b] (.cond q106 (.sO [.mv p12 (cb true) .b] (.s (.exit 4))) (.sO [.mv p113 q15 tC, .bn p114 .leq (.c (.int .u8 (.ofNat 48))) q113 .b, .mv p115 q114 .b, .ge p115 (XL.of [.G p115 true p116 (.mov q15) tC, .G p115 true p117 (.bin .leq q116 (.c (.int .u8 (.ofNat 57)))) .b, .P p118 (.pick q115 q117 (cb false)) .b]) p118 .b, .mv p112 q118 .b] (.cond q112 (.s (.oX [.mv p119 q15 tC, .bn p120 .sub q119 (.c (.int .u8 (.ofNat 48))) tC, .mv p16 q120 tC])) (.opq false (XL.pre [.mv p122 q15 tC, .cl p123 186 [q122] tC, .bn p124 .leq (.c (.int .u8 (.ofNat 97))) q123 .b, .mv p125 q124 .b, .sp p125, .G p125 true p126 (.mov q15) tC, .o ⟨(some p127), (.call (.fn 186) [q126]), (some (p125, true)), []⟩ tC, .G p125 true p128 (.bin .leq q127 (.c (.int .u8 (.ofNat 122)))) .b, .P p129 (.pick q125 q128 (cb false)) .b, .jn p125 [p1, p8, p9, p10, p11, p12, p13, p15, p99, p100, p101, p129]] (XL.of [.mv p121 q129 .b])) (.cond q121 (.s (.oX [.mv p130 q15 tC, .cl p131 186 [q130] tC, .bn p132 .sub q131 (.c (.int .u8 (.ofNat 97))) tC, .bn p133 .add q132 (.c (.int .u8 (.ofNat 10))) tC, .mv p16 q133 tC])) (.sO [.P p105 (.mkif 221 (ci 2)) .v, .mv p6 (.c Z64) (.i .u64), .mv p7 q105 .v] (.s .ret))))))))) (.seq (.seq (.oX [.mv p134 q16 tC, .mv p135 q1 tI, .P p136 (.conv (.ii .u8) q135) tC, .bn p137 .geq q134 q136 .b]) (.cond q137 (.seq (.oX [.P p138 (.mkif 221 (ci 2)) .v, .mv p6 (.c Z64) (.i .u64), .mv p7 q138 .v]) .ret) .skip)) (.seq (.seq (.oX [.mv p139 q13 (.i .u64), .mv p140 q10 (.i .u64), .bn p141 .geq q139 q140 .b]) (.cond q141 (.seq (.oX [.mv p142 q11 (.i .u64), .P p143 (.mkif 221 (ci 1)) .v, .mv p6 q142 (.i .u64), .mv p7 q143 .v]) .ret) .skip)) (.sO [.mv p144 q13 (.i .u64), .mv p145 q1 tI, .P p146 (.conv (.ii .u64) q145) (.i .u64), .bn p147 .mul q144 q146 (.i .u64), .mv p13 q147 (.i .u64)] (.sO [.mv p148 q13 (.i .u64), .mv p149 q16 tC, .P p150 (.conv (.ii .u64) q149) (.i .u64), .bn p151 .add q148 q150 (.i .u64), .mv p17 q151 (.i .u64)] (.seq (.seq (.oX [.mv p152 q17 (.i .u64), .mv p153 q13 (.i .u64), .bn p154 .lss q152 q153 .b, .mv p155 q154 .b, .ge p155 (XL.of [.G p155 false p156 (.mov q17) (.i .u64), .G p155 false p157 (.mov q11) (.i .u64), .G p155 false p158 (.bin .gtr q156 q157) .b, .P p159 (.pick q155 (cb true) q158) .b]) p159 .b]) (.cond q159 (.seq (.oX [.mv p160 q11 (.i .u64), .P p161 (.mkif 221 (ci 1)) .v, .mv p6 q160 (.i .u64), .mv p7 q161 .v]) .ret) .skip)) (.s (.oX [.mv p162 q17 (.i .u64), .mv p13 q162 (.i .u64)]))))))))))) (.s (.oX [.bn p163 .add q101 (ci 1) tI, .mv p101 q163 tI])))))))) (.sj [p13] (.opq false (XL.pre [.mv p164 q12 .b, .mv p165 q164 .b, .sp p165, .G p165 true p166 (.mov q9) .s, .o ⟨(some p167), (.call (.fn 187) [q166]), (some (p165, true)), []⟩ .b, .G p165 true p168 (.un .not q167) .b, .P p169 (.pick q165 q168 (cb false)) .b, .jn p165 [p13, p169]] (XL.of [])) (.cond q169 (.sO [.P p170 (.mkif 221 (ci 2)) .v, .mv p6 (.c Z64) (.i .u64), .mv p7 q170 .v] (.s .ret)) (.s .skip))) (.sO [.mv p171 q13 (.i .u64), .mv p6 q171 (.i .u64), .mv p7 (.c .nili) .v] (.s .ret)))))))))))))))⟩
def S170 : SFn := evFX x170
theorem X170 : XTie S170 x170 := fun _ _ _ _ _ => rfl
/- 176 -/
def x176 : XFn := ⟨[.v], true, [], (.s (.oX [.ld p1 q0 .v, .P p2 (.nilck q1) .v, .fa p3 2 q2, .ld p4 q3 tI, .bn p5 .sub q4 (ci 1) tI, .P p6 (.nilck q1) .v, .fa p7 2 q6, .st q7 q5]))⟩
def S176 : SFn := evFX x176
theorem X176 : XTie S176 x176 := fun _ _ _ _ _ => rfl
/- 177 -/
def x177 : XFn := ⟨[.v], false, [(.cells 8 p2)], (.sO [.al p2 (.new Ze)] (.sO [.mv p7 q0 .v, .cl p8 50 [q7] .v, .al p3 (.new [(kI 0), (.str []), (kI 0)]), .ss 3 q3 q8] (.sO [.fa p9 2 q3, .ld p10 q9 tI, .P p11 (.build Ze [⟨7, 1, q10⟩]) .v, .al p4 (.new Ze), .ss 8 q4 q11] (.sj [p0, p2, p4] (.sO [.fa p12 0 q3, .ld p13 q12 tI] (.block 0 (.sO [.bn p22 .eql q13 (ci 2) .b, .mv p21 q22 .b] (.cond q21 (.sO [.fa p24 1 q3, .ld p25 q24 .s, .cl p26 139 [q25, (ci 10), (ci 32)] .v, .mv p23 q26 .v, .P p27 (.ext q23 0) (.i .u64), .P p28 (.ext q23 1) .v, .mv p5 q27 (.i .u64), .mv p6 q28 .v] (.s (.oX [.mv p29 q5 (.i .u64), .P p30 (.conv (.ii .u32) q29) tW, .fa p31 0 q4, .st q31 (ci 1), .fa p32 3 q4, .st q32 q30]))) (.sO [.bn p34 .eql q13 (ci 3) .b, .mv p33 q34 .b] (.cond q33 (.sO [.fa p35 0 q4, .st q35 (ci 2)] (.s (.oX [.fa p37 1 q3, .ld p38 q37 .s, .cl p39 138 [q38] .v, .mv p36 q39 .v, .P p40 (.ext q36 0) (.i .u64), .P p41 (.ext q36 1) tI, .fa p42 4 q4, .st q42 q40]))) (.sO [.bn p44 .eql q13 (ci 1) .b, .mv p43 q44 .b] (.cond q43 (.s (.ops true (XL.of [.fa p45 1 q3, .ld p46 q45 .s, .fa p47 0 q4, .o ⟨none, (.e (.store q47 (ci 3))), none, [⟨none, .cell q45, p46⟩]⟩ .v, .fa p48 2 q4, .st q48 q46]))) (.sO [.mv p14 q0 .v, .cl p15 77 [q14, (.c (.str [40]))] .v] (.sO [.mv p16 q0 .v, .cl p17 79 [q16] .v, .ss 8 q4 q17] (.sO [.mv p18 q0 .v, .cl p19 77 [q18, (.c (.str [41]))] .v] (.sO [.L p20 (.cells 8 q4) .v, .ss 8 q2 q20] (.s .ret))))))))))))) (.sO [.mv p49 q0 .v, .P p50 (.nilck q49) .v, .fa p51 1 q50, .ld p52 q51 tI, .bn p53 .add q52 (ci 1) tI, .P p54 (.nilck q49) .v, .fa p55 1 q54, .st q55 q53] (.sj [p2, p4] (.opq false (XL.pre [.fa p56 0 q4, .ld p57 q56 tI, .bn p58 .eql q57 (ci 3) .b, .mv p59 q58 .b, .sp p59, .G p59 true p60 (.mov q0) .v, .o ⟨(some p61), (.call (.fn 71) [q60, (.c (.str [40]))]), (some (p59, true)), []⟩ .b, .P p62 (.pick q59 q61 (cb false)) .b, .jn p59 [p0, p2, p4, p62]] (XL.of [])) (.cond q62 (.sO [.fa p63 0 q4, .st q63 (ci 7)] (.s (.oX [.mv p64 q0 .v, .cl p65 190 [q64] .v, .fa p66 5 q4, .st q66 q65]))) (.s .skip))) (.sO [.L p67 (.cells 8 q4) .v, .ss 8 q2 q67] (.s .ret))))))))⟩
def S177 : SFn := evFX x177
theorem X177 : XTie S177 x177 := fun _ _ _ _ _ => rfl
end
end Go.Proofs.YtakcpnpeadkfpaaGreatDoor.Sx
