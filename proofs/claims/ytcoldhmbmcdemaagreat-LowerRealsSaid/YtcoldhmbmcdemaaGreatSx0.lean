/- Functions, printed by a program of ours: their code, what they do, and that it is so. -/
import Derived.Test.YtcoldhmbmcdemaaGreatSp
set_option maxRecDepth 8000
set_option linter.unusedVariables false
namespace Go.Proofs.YtcoldhmbmcdemaaGreat.Sx
open Go Go.Proofs.YtcoldhmbmcdemaaGreat.Ev
set_option linter.unusedSectionVars false
noncomputable section
variable [Rho]
variable {D : CallD} {m : Nat} {E : XE}
/- 6 -/
def c6_2 : XC := (.s .ret)
def l6_1 : XL := (XL.of [.mv p6 q88 .b])
def l6_0 : XL := (XL.pre [.mv p82 q81 .b, .sp p82, .G p82 true p83 (.faddr 1 q10) .v, .o ⟨(some p84), (.l (.cell q83)), (some (p82, true)), []⟩ tW, .G p82 true p85 (.mov q11) (.i .u64), .o ⟨(some p86), (.call (.fn 17) [q85]), (some (p82, true)), [⟨(some (p82, true)), .cell q83, p84⟩]⟩ tW, .G p82 true p87 (.bin .eql q84 q86) .b, .P p88 (.pick q82 q87 (cb false)) .b, .jn p82 [p88]] l6_1)
def c6_e : XC := (.sO [.mv p6 (cb false) .b] (.seq (.seq (.oX [.cl p13 8 [] .b, .P p14 (.un .not q13) .b]) (.cond q14 (.seq (.oX [.mv p6 (cb false) .b]) .ret) .skip)) (.sO [.P p15 (.build [(.str []), (.str []), (.str []), (.str [])] [⟨0, 1, (.c (.str [43]))⟩, ⟨1, 1, (.c (.str [45]))⟩, ⟨2, 1, (.c (.str [42]))⟩, ⟨3, 1, (.c (.str [47]))⟩]) .v, .al p7 (.new [(.str []), (.str []), (.str []), (.str [])]), .ss 4 q7 q15] (.seq (.ops true (XL.of [.mv p17 q0 tC, .bn p18 .rem q17 (.c (.int .u8 (.ofNat 4))) tC, .P p19 (.iaddr (.arr 4 1) q7 q18) .v, .ld p20 q19 .s, .bn p21 .add (.c (.str [105, 110, 116, 32, 109, 97, 105, 110, 40, 41, 32, 123, 32, 100, 111, 117, 98, 108, 101, 32, 120, 32, 61, 32, 40, 100, 111, 117, 98, 108, 101, 41, 32, 103, 101, 116, 119, 40, 41, 59, 32, 100, 111, 117, 98, 108, 101, 32, 121, 32, 61, 32, 40, 100, 111, 117, 98, 108, 101, 41, 32, 103, 101, 116, 119, 40, 41, 59, 32, 112, 117, 116, 100, 40, 120, 32])) q20 .s, .bn p22 .add q21 (.c (.str [32, 121, 41, 59, 32, 112, 117, 116, 100, 40, 45, 120, 41, 59, 32, 114, 101, 116, 117, 114, 110, 32, 40, 105, 110, 116, 41, 32, 40, 120, 32])) .s, .mv p23 q0 tC, .bn p24 .rem q23 (.c (.int .u8 (.ofNat 4))) tC, .P p25 (.iaddr (.arr 4 1) q7 q24) .v, .ld p26 q25 .s, .bn p27 .add q22 q26 .s, .bn p28 .add q27 (.c (.str [32, 121, 41, 59, 32, 125])) .s, .al p29 (.bsl [(.str [])] 1 [⟨0, 1, q28⟩]), .cl p30 9 [q29] .v, .mv p16 q30 .v, .P p31 (.ext q16 0) .v, .P p32 (.ext q16 1) .b, .mv p8 q31 .v, .mv p9 q32 .b])) (.sO [.mv p33 q8 .v, .mv p34 q1 tW, .mv p35 q2 tW, .al p36 (.bsl [(.int .u32 (.ofNat 0)), (.int .u32 (.ofNat 0))] 2 [⟨0, 1, q34⟩, ⟨1, 1, q35⟩]), .cl p37 11 [q33, q36, (ci 1000)] .v, .al p10 (.new [(kI 0), (.int .u32 (.ofNat 0)), .nils, (kI 0)]), .ss 4 q10 q37] (.sO [.mv p39 q0 tC, .bn p40 .rem q39 (.c (.int .u8 (.ofNat 4))) tC, .P p41 (.conv (.ii .i64) q40) tI, .bn p42 .add (ci 45) q41 tI, .mv p43 q1 tW, .cl p44 15 [q43] (.i .u64), .mv p45 q2 tW, .cl p46 15 [q45] (.i .u64), .cl p47 14 [q42, q44, q46] .v, .mv p38 q47 .v, .P p48 (.ext q38 0) (.i .u64), .P p49 (.ext q38 1) .b, .mv p11 q48 (.i .u64), .mv p12 q49 .b] (.opq true (XL.pre [.mv p50 q9 .b, .mv p51 q50 .b, .ge p51 (XL.of [.G p51 true p52 (.faddr 0 q10) .v, .o ⟨(some p53), (.l (.cell q52)), (some (p51, true)), []⟩ tI, .G p51 true p54 (.bin .eql q53 (ci 1)) .b, .P p55 (.pick q51 q54 (cb false)) .b]) p55 .b, .mv p56 q55 .b, .ge p56 (XL.of [.G p56 true p57 (.faddr 2 q10) .v, .o ⟨(some p58), (.l (.cell q57)), (some (p56, true)), []⟩ .v, .G p56 true p59 (.lenl q58) tI, .G p56 true p60 (.bin .eql q59 (ci 2)) .b, .P p61 (.pick q56 q60 (cb false)) .b]) p61 .b, .mv p62 q61 .b, .ge p62 (XL.of [.G p62 true p63 (.faddr 2 q10) .v, .o ⟨(some p64), (.l (.cell q63)), (some (p62, true)), []⟩ .v, .G p62 true p65 (.iaddr (.sl 3) q64 (ci 0)) .v, .G p62 true p66 (.faddr 2 q65) .v, .o ⟨(some p67), (.l (.cell q66)), (some (p62, true)), []⟩ (.i .u64), .G p62 true p68 (.mov q11) (.i .u64), .G p62 true p69 (.bin .eql q67 q68) .b, .P p70 (.pick q62 q69 (cb false)) .b]) p70 .b, .mv p71 q70 .b, .sp p71, .G p71 true p72 (.faddr 2 q10) .v, .o ⟨(some p73), (.l (.cell q72)), (some (p71, true)), []⟩ .v, .G p71 true p74 (.iaddr (.sl 3) q73 (ci 1)) .v, .G p71 true p75 (.faddr 2 q74) .v, .o ⟨(some p76), (.l (.cell q75)), (some (p71, true)), []⟩ (.i .u64), .G p71 true p77 (.mov q1) tW, .o ⟨(some p78), (.call (.fn 15) [q77]), (some (p71, true)), [⟨(some (p71, true)), .cell q72, p73⟩, ⟨(some (p71, true)), .cell q75, p76⟩]⟩ (.i .u64), .o ⟨(some p79), (.call (.fn 16) [q78]), (some (p71, true)), [⟨(some (p71, true)), .cell q72, p73⟩, ⟨(some (p71, true)), .cell q75, p76⟩]⟩ (.i .u64), .G p71 true p80 (.bin .eql q76 q79) .b, .P p81 (.pick q71 q80 (cb false)) .b, .jn p71 [p10, p11, p81]] l6_0) c6_2)))))))
def x6 : XFn := ⟨[tC, tW, tW], false, [(.tmp p6)], c6_e⟩
def e6_1 (k t88 h) := kN k [(p88, (vB t88))] h
def S6_1 (D : CallD) (m : Nat) (t88 : Bool) (h : HP) : Res2 :=
 some (.ret (vB t88) h, .no)
def e6_0 (k t10 t11 t81 h) := kN k [(p10, t10), (p11, (AV.int .u64 t11)), (p81, (vB t81))] h
def S6_0 (D : CallD) (m : Nat) (t10 : AV) (t11 : Int) (t81 : Bool) (h : HP) : Res2 :=
 br t81 (
 faC 1 t10 fun t83 =>
 ldW t83 h fun t84 =>
 cal D 17 [(AV.int .u64 t11)] h fun t86 h18 =>
 br (again [⟨(some (p82, true)), .cell q83, p84⟩] (mkT [(p84, (vW t84)), (p82, (vB true)), (p83, t83)]) h18) (
 asI .u32 t86 fun t86a =>
 binC .eql (vW t84) (vW t86a) fun vt87 => asB vt87 fun t87 =>
 S6_1 D m t87 h18) none) (
 S6_1 D m false h)
def e6_3 (k t0 t1 t2 h) := kN k [(p0, (vC t0)), (p1, (vW t1)), (p2, (vW t2))] h
def S6_3 (D : CallD) (m : Nat) (t0 t1 t2 : Int) (h : HP) : Res2 :=
 cal D 8 [] h fun t13 h4 =>
 asB t13 fun t13a =>
 let t14 := !t13a
 br t14 (
 some (.ret (vB false) h4, .no)) (
 let t15 := (AV.agg [(vS ([43] : LN)), (vS ([45] : LN)), (vS ([42] : LN)), (vS ([47] : LN))])
 let t7 := AV.ptr (HP.nxQ h4) 0
 let h5 := HP.newQ h4 (.cells true [(.str []), (.str []), (.str []), (.str [])])
 stsC 4 t7 t15 h5 fun h6 =>
 let t18 := Int.tmod t0 (Int.ofNat 4)
 iarC 4 1 t7 (vC t18) fun t19 =>
 ldS t19 h6 fun t20 =>
 obS (strBin .add ([105, 110, 116, 32, 109, 97, 105, 110, 40, 41, 32, 123, 32, 100, 111, 117, 98, 108, 101, 32, 120, 32, 61, 32, 40, 100, 111, 117, 98, 108, 101, 41, 32, 103, 101, 116, 119, 40, 41, 59, 32, 100, 111, 117, 98, 108, 101, 32, 121, 32, 61, 32, 40, 100, 111, 117, 98, 108, 101, 41, 32, 103, 101, 116, 119, 40, 41, 59, 32, 112, 117, 116, 100, 40, 120, 32] : LN) t20) fun t21 =>
 obS (strBin .add t21 ([32, 121, 41, 59, 32, 112, 117, 116, 100, 40, 45, 120, 41, 59, 32, 114, 101, 116, 117, 114, 110, 32, 40, 105, 110, 116, 41, 32, 40, 120, 32] : LN)) fun t22 =>
 let t24 := Int.tmod t0 (Int.ofNat 4)
 iarC 4 1 t7 (vC t24) fun t25 =>
 ldS t25 h6 fun t26 =>
 obS (strBin .add t22 t26) fun t27 =>
 obS (strBin .add t27 ([32, 121, 41, 59, 32, 125] : LN)) fun t28 =>
 let t29 := AV.slice (HP.nxQ h6) 0 1 (.exact 1)
 let h7 := HP.newQ h6 (.cells true [(vS t28)])
 cal D 9 [t29] h7 fun t30 h8 =>
 extC t30 0 fun t31 =>
 extC t30 1 fun vt32 => asB vt32 fun t32 =>
 let t36 := AV.slice (HP.nxQ h8) 0 2 (.exact 2)
 let h9 := HP.newQ h8 (.cells true [(vW t1), (vW t2)])
 cal D 11 [t31, t36, (vI (Int.ofNat 1000))] h9 fun t37 h10 =>
 let t10 := AV.ptr (HP.nxQ h10) 0
 let h11 := HP.newQ h10 (.cells true [(kI 0), (.int .u32 (.ofNat 0)), .nils, (kI 0)])
 stsC 4 t10 t37 h11 fun h12 =>
 let t40 := Int.tmod t0 (Int.ofNat 4)
 let t41 := wrapF .i64 t40
 let t42 := wrQ .i64 (addQ (Int.ofNat 45) t41)
 cal D 15 [(vW t1)] h12 fun t44 h13 =>
 asI .u64 t44 fun t44a =>
 cal D 15 [(vW t2)] h13 fun t46 h14 =>
 asI .u64 t46 fun t46a =>
 cal D 14 [(vI t42), (AV.int .u64 t44a), (AV.int .u64 t46a)] h14 fun t47 h15 =>
 extC t47 0 fun vt48 => asI .u64 vt48 fun t48 =>
 extC t47 1 fun vt49 => asB vt49 fun t49 =>
 obB (brV t32 (
 let t52 := (AV.ptr (HP.nxQ h10) (Nat.add 0 0))
 ldIV t52 h15 fun t53 =>
 let t54 := eqQ t53 (Int.ofNat 1)
 some (vB t54)) (
 some (vB false))) fun t55 =>
 obB (brV t55 (
 let t57 := (AV.ptr (HP.nxQ h10) (Nat.add 0 2))
 cellCV t57 h15 fun t58 =>
 lenCV t58 fun vt59 => asIV .i64 vt59 fun t59 =>
 let t60 := eqQ t59 (Int.ofNat 2)
 some (vB t60)) (
 some (vB false))) fun t61 =>
 obB (brV t61 (
 let t63 := (AV.ptr (HP.nxQ h10) (Nat.add 0 2))
 cellCV t63 h15 fun t64 =>
 iasCV 3 t64 (vI (Int.ofNat 0)) fun t65 =>
 faCV 2 t65 fun t66 =>
 cellCV t66 h15 fun vt67 => asIV .u64 vt67 fun t67 =>
 binCV .eql (AV.int .u64 t67) (AV.int .u64 t48) fun vt69 => asBV vt69 fun t69 =>
 some (vB t69)) (
 some (vB false))) fun t70 =>
 br t70 (
 let t72 := (AV.ptr (HP.nxQ h10) (Nat.add 0 2))
 cellC t72 h15 fun t73 =>
 iasC 3 t73 (vI (Int.ofNat 1)) fun t74 =>
 faC 2 t74 fun t75 =>
 cellC t75 h15 fun vt76 => asI .u64 vt76 fun t76 =>
 cal D 15 [(vW t1)] h15 fun t78 h16 =>
 br (again [⟨(some (p71, true)), .cell q72, p73⟩, ⟨(some (p71, true)), .cell q75, p76⟩] (mkT [(p76, (AV.int .u64 t76)), (p75, t75), (p73, t73), (p71, (vB true)), (p72, t72)]) h16) (
 asI .u64 t78 fun t78a =>
 cal D 16 [(AV.int .u64 t78a)] h16 fun t79 h17 =>
 br (again [⟨(some (p71, true)), .cell q72, p73⟩, ⟨(some (p71, true)), .cell q75, p76⟩] (mkT [(p76, (AV.int .u64 t76)), (p75, t75), (p73, t73), (p71, (vB true)), (p72, t72)]) h17) (
 asI .u64 t79 fun t79a =>
 binC .eql (AV.int .u64 t76) (AV.int .u64 t79a) fun vt80 => asB vt80 fun t80 =>
 S6_0 D m t10 t48 t80 h17) none) none) (
 S6_0 D m t10 t48 false h15))
def S6 : SFn := fun D m args h u => nou u <| popI .u8 args fun t0 args => popI .u32 args fun t1 args => popI .u32 args fun t2 args => endA args (S6_3 D m t0 t1 t2 h)
theorem T6_1 (hE : FX x6 D m E) : S6_1 D m = e6_1 (E (.opq true l6_1 c6_2) []) := by unfold S6_1; rw [hE (.opq true l6_1 c6_2)]; kernel_rfl
theorem T6_0 (hE : FX x6 D m E) : S6_0 D m = e6_0 (E (.opq true l6_0 c6_2) []) := by unfold S6_0; rw [T6_1 hE, hE (.opq true l6_0 c6_2)]; kernel_rfl
theorem T6_3 (hE : FX x6 D m E) : S6_3 D m = e6_3 (E c6_e []) := by unfold S6_3; rw [T6_0 hE, hE c6_e]; kernel_rfl
theorem X6 : XTie S6 x6 := X_of fun D m E hE args h u => by unfold S6; rw [T6_3 hE]; kernel_rfl
/- 8 -/
def c8_e : XC := (.sO [.mv p0 (cb false) .b] (.sO [.al p5 (.bsl [(.str [])] 1 [⟨0, 1, (.c (.str [105, 110, 116, 32, 109, 97, 105, 110, 40, 41, 32, 123, 32, 112, 117, 116, 119, 40, 51, 41, 59, 32, 114, 101, 116, 117, 114, 110, 32, 55, 59, 32, 125]))⟩]), .cl p6 9 [q5] .v, .mv p4 q6 .v, .P p7 (.ext q4 0) .v, .P p8 (.ext q4 1) .b, .mv p1 q7 .v, .mv p2 q8 .b] (.seq (.seq (.oX [.mv p9 q2 .b, .P p10 (.un .not q9) .b, .mv p11 q10 .b, .ge p11 (XL.of [.G p11 false p12 (.mov q1) .v, .G p11 false p13 (.lenl q12) tI, .G p11 false p14 (.bin .neq q13 (ci 1)) .b, .P p15 (.pick q11 (cb true) q14) .b]) p15 .b, .mv p16 q15 .b, .ge p16 (XL.of [.G p16 false p17 (.mov q1) .v, .G p16 false p18 (.iaddr (.sl 2) q17 (ci 0)) .v, .G p16 false p19 (.faddr 0 q18) .v, .o ⟨(some p20), (.l (.cell q19)), (some (p16, false)), []⟩ .v, .G p16 false p21 (.lenl q20) tI, .G p16 false p22 (.bin .neq q21 (ci 1)) .b, .P p23 (.pick q16 (cb true) q22) .b]) p23 .b]) (.cond q23 (.seq (.oX [.mv p0 (cb false) .b]) .ret) .skip)) (.sO [.mv p24 q1 .v, .cl p25 11 [q24, (.c .nils), (ci 100)] .v, .al p3 (.new [(kI 0), (.int .u32 (.ofNat 0)), .nils, (kI 0)]), .ss 4 q3 q25] (.sO [.fa p26 0 q3, .ld p27 q26 tI, .bn p28 .eql q27 (ci 1) .b, .mv p29 q28 .b, .ge p29 (XL.of [.G p29 true p30 (.faddr 1 q3) .v, .o ⟨(some p31), (.l (.cell q30)), (some (p29, true)), []⟩ tW, .G p29 true p32 (.bin .eql q31 (.c (.int .u32 (.ofNat 7)))) .b, .P p33 (.pick q29 q32 (cb false)) .b]) p33 .b, .mv p34 q33 .b, .ge p34 (XL.of [.G p34 true p35 (.faddr 2 q3) .v, .o ⟨(some p36), (.l (.cell q35)), (some (p34, true)), []⟩ .v, .G p34 true p37 (.lenl q36) tI, .G p34 true p38 (.bin .eql q37 (ci 1)) .b, .P p39 (.pick q34 q38 (cb false)) .b]) p39 .b, .mv p40 q39 .b, .ge p40 (XL.of [.G p40 true p41 (.faddr 2 q3) .v, .o ⟨(some p42), (.l (.cell q41)), (some (p40, true)), []⟩ .v, .G p40 true p43 (.iaddr (.sl 3) q42 (ci 0)) .v, .G p40 true p44 (.faddr 1 q43) .v, .o ⟨(some p45), (.l (.cell q44)), (some (p40, true)), []⟩ tW, .G p40 true p46 (.bin .eql q45 (.c (.int .u32 (.ofNat 3)))) .b, .P p47 (.pick q40 q46 (cb false)) .b]) p47 .b, .mv p0 q47 .b] (.s .ret))))))
def x8 : XFn := ⟨[], false, [(.tmp p0)], c8_e⟩
def e8_0 (k h) := kN k [] h
def S8_0 (D : CallD) (m : Nat) (h : HP) : Res2 :=
 let t5 := AV.slice (HP.nxQ h) 0 1 (.exact 1)
 let h1 := HP.newQ h (.cells true [(vS ([105, 110, 116, 32, 109, 97, 105, 110, 40, 41, 32, 123, 32, 112, 117, 116, 119, 40, 51, 41, 59, 32, 114, 101, 116, 117, 114, 110, 32, 55, 59, 32, 125] : LN))])
 cal D 9 [t5] h1 fun t6 h2 =>
 extC t6 0 fun t7 =>
 extC t6 1 fun vt8 => asB vt8 fun t8 =>
 let t10 := !t8
 obB (brV t10 (
 some (vB true)) (
 lenCV t7 fun vt13 => asIV .i64 vt13 fun t13 =>
 let t14 := notQ (eqQ t13 (Int.ofNat 1))
 some (vB t14))) fun t15 =>
 obB (brV t15 (
 some (vB true)) (
 iasCV 2 t7 (vI (Int.ofNat 0)) fun t18 =>
 faCV 0 t18 fun t19 =>
 cellCV t19 h2 fun t20 =>
 lenCV t20 fun vt21 => asIV .i64 vt21 fun t21 =>
 let t22 := notQ (eqQ t21 (Int.ofNat 1))
 some (vB t22))) fun t23 =>
 br t23 (
 some (.ret (vB false) h2, .no)) (
 cal D 11 [t7, (.nils : AV), (vI (Int.ofNat 100))] h2 fun t25 h3 =>
 let t3 := AV.ptr (HP.nxQ h3) 0
 let h4 := HP.newQ h3 (.cells true [(kI 0), (.int .u32 (.ofNat 0)), .nils, (kI 0)])
 stsC 4 t3 t25 h4 fun h5 =>
 let t26 := (AV.ptr (HP.nxQ h3) (Nat.add 0 0))
 ldI t26 h5 fun t27 =>
 let t28 := eqQ t27 (Int.ofNat 1)
 obB (brV t28 (
 let t30 := (AV.ptr (HP.nxQ h3) (Nat.add 0 1))
 ldWV t30 h5 fun t31 =>
 binCV .eql (vW t31) (vW (Int.ofNat 7)) fun vt32 => asBV vt32 fun t32 =>
 some (vB t32)) (
 some (vB false))) fun t33 =>
 obB (brV t33 (
 let t35 := (AV.ptr (HP.nxQ h3) (Nat.add 0 2))
 cellCV t35 h5 fun t36 =>
 lenCV t36 fun vt37 => asIV .i64 vt37 fun t37 =>
 let t38 := eqQ t37 (Int.ofNat 1)
 some (vB t38)) (
 some (vB false))) fun t39 =>
 obB (brV t39 (
 let t41 := (AV.ptr (HP.nxQ h3) (Nat.add 0 2))
 cellCV t41 h5 fun t42 =>
 iasCV 3 t42 (vI (Int.ofNat 0)) fun t43 =>
 faCV 1 t43 fun t44 =>
 ldWV t44 h5 fun t45 =>
 binCV .eql (vW t45) (vW (Int.ofNat 3)) fun vt46 => asBV vt46 fun t46 =>
 some (vB t46)) (
 some (vB false))) fun t47 =>
 some (.ret (vB t47) h5, .no))
def S8 : SFn := fun D m args h u => nou u <| endA args (S8_0 D m h)
theorem T8_0 (hE : FX x8 D m E) : S8_0 D m = e8_0 (E c8_e []) := by unfold S8_0; rw [hE c8_e]; kernel_rfl
theorem X8 : XTie S8 x8 := X_of fun D m E hE args h u => by unfold S8; rw [T8_0 hE]; kernel_rfl
/- 9 -/
def v9_0 : List Pos := [p6]
def c9_0 : XC := (.sO [.mv p38 q6 .v, .mv p2 q38 .v, .mv p3 (cb true) .b] (.s .ret))
def v9_1 : List Pos := [p6, p19, p20, p21]
def c9_1b : XC := (.sO [.bn p22 .lss q21 q20 .b] (.seq (.cond q22 .skip (.exit 0)) (.seq (.block 1 (.seq (.oX [.P p23 (.iaddr (.sl 1) q19 q21) .v, .L p24 (.cells 1 q23) .v, .al p8 (.new [.nils]), .ss 1 q8 q24]) (.seq (.oX [.L p26 (.cells 1 q8) .v, .cl p27 21 [q26] .v, .mv p25 q27 .v, .P p28 (.ext q25 0) .v, .P p29 (.ext q25 1) tI, .P p30 (.ext q25 2) tI, .al p9 (.new [.nils, .nils]), .ss 2 q9 q28, .mv p10 q29 tI, .mv p11 q30 tI]) (.seq (.seq (.oX [.mv p31 q11 tI, .bn p32 .neq q31 (ci 0) .b]) (.cond q32 (.seq (.oX [.mv p2 (.c .nils) .v, .mv p3 (cb false) .b]) .ret) .skip)) (.oX [.mv p33 q6 .v, .L p34 (.cells 2 q9) .v, .al p35 (.bsl [.nils, .nils] 1 [⟨0, 2, q34⟩]), .o ⟨(some p36), (.e (.app 2 48 q33 q35)), none, []⟩ .v, .mv p6 q36 .v]))))) (.s (.oX [.bn p37 .add q21 (ci 1) tI, .mv p21 q37 tI])))))
def c9_e : XC := (.sO [.mv p2 (.c .nils) .v, .mv p3 (cb false) .b] (.sO [.mv p13 q0 .v, .cl p14 20 [q13] .v, .mv p12 q14 .v, .P p15 (.ext q12 0) .v, .P p16 (.ext q12 1) .b, .mv p4 q15 .v, .mv p5 q16 .b] (.seq (.seq (.oX [.mv p17 q5 .b, .P p18 (.un .not q17) .b]) (.cond q18 (.seq (.oX [.mv p2 (.c .nils) .v, .mv p3 (cb false) .b]) .ret) .skip)) (.sO [.mv p6 (.c .nils) .v] (.sj v9_0 (.sO [.mv p19 q4 .v, .P p20 (.lenl q19) tI, .mv p21 (ci 0) tI] (.block 0 (.loop v9_1 c9_1b))) c9_0)))))
def x9 : XFn := ⟨[.v], false, [(.tmp p2), (.tmp p3)], c9_e⟩
def e9_0 (k t6 h) := kN k [(p6, t6)] h
def S9_0 (D : CallD) (m : Nat) (t6 : AV) (h : HP) : Res2 :=
 some (.ret (.tup [t6, (vB true)]) h, .no)
def e9_1 (k t6 t19 t20 t21 h) := kN k [(p6, t6), (p19, t19), (p20, (vI t20)), (p21, (vI t21))] h
def S9_1b (D : CallD) (m : Nat) (g1 : AV → AV → Int → Int → HP → Res2) (t6 t19 : AV) (t20 t21 : Int) (h : HP) : Res2 :=
 let t22 := ltQ t21 t20
 br t22 (
 iasC 1 t19 (vI t21) fun t23 =>
 cellsC 1 t23 h fun t24 =>
 let t8 := AV.ptr (HP.nxQ h) 0
 let h4 := HP.newQ h (.cells true [.nils])
 stsC 1 t8 t24 h4 fun h5 =>
 cellsC 1 t8 h5 fun t26 =>
 cal D 21 [t26] h5 fun t27 h6 =>
 extC t27 0 fun t28 =>
 extC t27 1 fun vt29 => asI .i64 vt29 fun t29 =>
 extC t27 2 fun vt30 => asI .i64 vt30 fun t30 =>
 let t9 := AV.ptr (HP.nxQ h6) 0
 let h7 := HP.newQ h6 (.cells true [.nils, .nils])
 stsC 2 t9 t28 h7 fun h8 =>
 let t32 := notQ (eqQ t30 (Int.ofNat 0))
 br t32 (
 some (.ret (.tup [(.nils : AV), (vB false)]) h8, .no)) (
 cellsC 2 t9 h8 fun t34 =>
 obQ (evA (.bsl [.nils, .nils] 1 [⟨0, 2, (.c t34)⟩]) .leaf) fun r9 =>
 let t35 := vkV r9.2 (HP.nxQ h8)
 let h10 := HP.newQ h8 r9.1
 eff (.app 2 48 (.c t6) (.c t35)) h10 fun t36 h11 =>
 let t37 := wrQ .i64 (addQ t21 (Int.ofNat 1))
 g1 t36 t19 t20 t37 h11)) (
 S9_0 D m t6 h)
def S9_1 (D : CallD) (m : Nat) : AV → AV → Int → Int → HP → Res2 := nrec (fun _ _ _ _ _ => none) (fun _ g => S9_1b D m g) m
def e9_2 (k t0 h) := kN k [(p0, t0)] h
def S9_2 (D : CallD) (m : Nat) (t0 : AV) (h : HP) : Res2 :=
 cal D 20 [t0] h fun t14 h3 =>
 extC t14 0 fun t15 =>
 extC t14 1 fun vt16 => asB vt16 fun t16 =>
 let t18 := !t16
 br t18 (
 some (.ret (.tup [(.nils : AV), (vB false)]) h3, .no)) (
 lenC t15 fun vt20 => asI .i64 vt20 fun t20 =>
 S9_1 D m (.nils : AV) t15 t20 (Int.ofNat 0) h3)
def S9 : SFn := fun D m args h u => nou u <| popV args fun t0 args => endA args (S9_2 D m t0 h)
theorem T9_0 (hE : FX x9 D m E) : S9_0 D m = e9_0 (E c9_0 []) := by unfold S9_0; rw [hE c9_0]; kernel_rfl
theorem T9_1b (hE : FX x9 D m E) (G1) : S9_1b D m (e9_1 G1) = e9_1 (E c9_1b [.lp v9_1 G1, .blk 0, .sj v9_0 c9_0]) := by unfold S9_1b; rw [T9_0 hE, hE c9_1b]; kernel_rfl
theorem T9_1 (hE : FX x9 D m E) : S9_1 D m = e9_1 (nrec (fun _ => none) (fun _ G1 st => E c9_1b [.lp v9_1 G1, .blk 0, .sj v9_0 c9_0] st) m) :=
  nrec_emb e9_1 (fun _ _ _ _ _ => none) (fun g => S9_1b D m g) (fun G1 st => E c9_1b [.lp v9_1 G1, .blk 0, .sj v9_0 c9_0] st) rfl (fun g => T9_1b hE g) m
theorem T9_2 (hE : FX x9 D m E) : S9_2 D m = e9_2 (E c9_e []) := by unfold S9_2; rw [T9_1 hE, hE c9_e]; kernel_rfl
theorem X9 : XTie S9 x9 := X_of fun D m E hE args h u => by unfold S9; rw [T9_2 hE]; kernel_rfl
/- 11 -/
def v11_1 : List Pos := [p6, p11]
def c11_1 : XC := (.sO [.L p61 (.cells 4 q11) .v, .ss 4 q6 q61] (.s .ret))
def v11_0 : List Pos := [p6, p7, p8]
def c11_0 : XC := (.sO [.fa p48 7 q7, .ld p49 q48 tI, .fa p50 4 q7, .ld p51 q50 .v, .fa p52 6 q7, .ld p53 q52 tI, .P p54 (.build [(kI 0), (.int .u32 (.ofNat 0)), .nils, (kI 0)] [⟨0, 1, q49⟩, ⟨2, 1, q51⟩, ⟨3, 1, q53⟩]) .v, .al p11 (.new [(kI 0), (.int .u32 (.ofNat 0)), .nils, (kI 0)]), .ss 4 q11 q54] (.sj v11_1 (.sO [.fa p55 7 q7, .ld p56 q55 tI, .bn p57 .lss q56 (ci 0) .b] (.cond q57 (.sO [.fa p58 0 q11, .st q58 (ci 1)] (.s (.oX [.mv p59 q8 tW, .fa p60 1 q11, .st q60 q59]))) (.s .skip))) c11_1))
def c11_e : XC := (.sO [.al p6 (.new [(kI 0), (.int .u32 (.ofNat 0)), .nils, (kI 0)])] (.sO [.mv p12 q0 .v, .mv p13 q1 .v, .mv p14 q2 tI, .P p15 (.build [.nils, .nils, .nils, .nils, .nils, (kI 0), (kI 0), (kI 0)] [⟨0, 1, q12⟩, ⟨3, 1, q13⟩, ⟨5, 1, q14⟩, ⟨7, 1, (.c (.int .i64 (.negSucc 0)))⟩]) .v, .cl p16 23 [q15] .v, .al p7 (.new [.nils, .nils, .nils, .nils, .nils, (kI 0), (kI 0), (kI 0)]), .ss 8 q7 q16] (.sO [.mv p8 (.c (.int .u32 (.ofNat 0))) tW] (.sj v11_0 (.sO [.fa p17 7 q7, .ld p18 q17 tI, .bn p19 .lss q18 (ci 0) .b] (.cond q19 (.sO [.L p21 (.cells 8 q7) .v, .cl p22 24 [q21, (.c (.int .i64 (.negSucc 0))), (.c (.str [109, 97, 105, 110]))] .v, .mv p20 q22 .v, .P p23 (.ext q20 0) .v, .P p24 (.ext q20 1) tI, .al p9 (.new [(.str []), (.bool false), .nils, .nils, .nils, .nils]), .ss 6 q9 q23, .mv p10 q24 tI] (.sO [.mv p25 q10 tI, .bn p26 .lss q25 (ci 0) .b, .mv p27 q26 .b, .ge p27 (XL.of [.G p27 false p28 (.faddr 2 q9) .v, .o ⟨(some p29), (.l (.cell q28)), (some (p27, false)), []⟩ .v, .G p27 false p30 (.lenl q29) tI, .G p27 false p31 (.bin .gtr q30 (ci 0)) .b, .P p32 (.pick q27 (cb true) q31) .b]) p32 .b] (.cond q32 (.s (.oX [.L p33 (.cells 8 q7) .v, .cl p34 25 [q33, (ci 2)] .v, .ss 8 q7 q34])) (.s (.oX [.L p36 (.cells 8 q7) .v, .L p37 (.cells 6 q9) .v, .mv p38 q10 tI, .P p39 (.build [.nils, .nils] []) .v, .fa p40 2 q7, .ld p41 q40 .v, .P p42 (.lenl q41) tI, .bn p43 .add (ci 4096) q42 tI, .cl p44 26 [q36, q37, q38, (ci 0), q39, (.c .nils), q43] .v, .mv p35 q44 .v, .P p45 (.ext q35 0) .v, .P p46 (.ext q35 1) tW, .P p47 (.ext q35 2) (.i .u64), .ss 8 q7 q45, .mv p8 q46 tW]))))) (.s .skip))) c11_0))))
def x11 : XFn := ⟨[.v, .v, tI], false, [(.cells 4 p6)], c11_e⟩
def S11 : SFn := evFX x11
theorem X11 : XTie S11 x11 := fun _ _ _ _ _ => rfl
/- 13 -/
def c13_e : XC := (.sO [.mv p2 (.c (.str [])) .s] (.seq (.seq (.oX [.mv p3 q0 tI, .bn p4 .lss q3 (ci 0) .b, .mv p5 q4 .b, .ge p5 (XL.of [.G p5 true p6 (.mov q0) tI, .G p5 true p7 (.bin .gtr q6 (.c (.int .i64 (.negSucc 9)))) .b, .P p8 (.pick q5 q7 (cb false)) .b]) p8 .b]) (.cond q8 (.seq (.oX [.mv p9 q0 tI, .P p10 (.un .neg q9) tI, .cl p11 13 [q10] .s, .bn p12 .add (.c (.str [45])) q11 .s, .mv p2 q12 .s]) .ret) .skip)) (.seq (.seq (.oX [.mv p13 q0 tI, .bn p14 .lss q13 (ci 0) .b]) (.cond q14 (.seq (.oX [.mv p15 q0 tI, .bn p16 .quo q15 (ci 10) tI, .P p17 (.un .neg q16) tI, .cl p18 13 [q17] .s, .bn p19 .add (.c (.str [45])) q18 .s, .mv p20 q0 tI, .bn p21 .rem q20 (ci 10) tI, .P p22 (.un .neg q21) tI, .cl p23 13 [q22] .s, .bn p24 .add q19 q23 .s, .mv p2 q24 .s]) .ret) .skip)) (.seq (.seq (.oX [.mv p25 q0 tI, .bn p26 .lss q25 (ci 10) .b]) (.cond q26 (.seq (.oX [.mv p27 q0 tI, .bn p28 .add (ci 48) q27 tI, .P p29 (.conv (.ii .u8) q28) tC, .al p30 (.bsl [(.int .u8 (.ofNat 0))] 1 [⟨0, 1, q29⟩]), .L p31 (.bstr q30) .s, .mv p2 q31 .s]) .ret) .skip)) (.sO [.mv p32 q0 tI, .bn p33 .quo q32 (ci 10) tI, .cl p34 13 [q33] .s, .mv p35 q0 tI, .bn p36 .rem q35 (ci 10) tI, .cl p37 13 [q36] .s, .bn p38 .add q34 q37 .s, .mv p2 q38 .s] (.s .ret))))))
def x13 : XFn := ⟨[tI], false, [(.tmp p2)], c13_e⟩
def e13_0 (k t0 h) := kN k [(p0, (vI t0))] h
def S13_0 (D : CallD) (m : Nat) (t0 : Int) (h : HP) : Res2 :=
 let t4 := ltQ t0 (Int.ofNat 0)
 obB (brV t4 (
 let t7 := ltQ (Int.negSucc 9) t0
 some (vB t7)) (
 some (vB false))) fun t8 =>
 br t8 (
 let t10 := IntKind.wrap .i64 (0 - t0)
 cal D 13 [(vI t10)] h fun t11 h1 =>
 asS t11 fun t11a =>
 obS (strBin .add ([45] : LN) t11a) fun t12 =>
 some (.ret (vS t12) h1, .no)) (
 let t14 := ltQ t0 (Int.ofNat 0)
 br t14 (
 let t16 := wrapF .i64 (Int.tdiv t0 (Int.ofNat 10))
 let t17 := IntKind.wrap .i64 (0 - t16)
 cal D 13 [(vI t17)] h fun t18 h2 =>
 asS t18 fun t18a =>
 obS (strBin .add ([45] : LN) t18a) fun t19 =>
 let t21 := Int.tmod t0 (Int.ofNat 10)
 let t22 := IntKind.wrap .i64 (0 - t21)
 cal D 13 [(vI t22)] h2 fun t23 h3 =>
 asS t23 fun t23a =>
 obS (strBin .add t19 t23a) fun t24 =>
 some (.ret (vS t24) h3, .no)) (
 let t26 := ltQ t0 (Int.ofNat 10)
 br t26 (
 let t28 := wrQ .i64 (addQ (Int.ofNat 48) t0)
 let t29 := wrapF .u8 t28
 let t30 := AV.slice (HP.nxQ h) 0 1 (.exact 1)
 let h4 := HP.newQ h (.cells true [(vC t29)])
 obS (bstrV t30 h4) fun t31 =>
 some (.ret (vS t31) h4, .no)) (
 let t33 := wrapF .i64 (Int.tdiv t0 (Int.ofNat 10))
 cal D 13 [(vI t33)] h fun t34 h5 =>
 asS t34 fun t34a =>
 let t36 := Int.tmod t0 (Int.ofNat 10)
 cal D 13 [(vI t36)] h5 fun t37 h6 =>
 asS t37 fun t37a =>
 obS (strBin .add t34a t37a) fun t38 =>
 some (.ret (vS t38) h6, .no))))
def S13 : SFn := fun D m args h u => nou u <| popI .i64 args fun t0 args => endA args (S13_0 D m t0 h)
theorem T13_0 (hE : FX x13 D m E) : S13_0 D m = e13_0 (E c13_e []) := by unfold S13_0; rw [hE c13_e]; kernel_rfl
theorem X13 : XTie S13 x13 := X_of fun D m E hE args h u => by unfold S13; rw [T13_0 hE]; kernel_rfl
/- 14 -/
def v14_1 : List Pos := [p0, p1, p2, p14]
def c14_1 : XC := (.sO [.mv p190 q1 (.i .u64), .cl p191 38 [q190] .v, .mv p189 q191 .v, .P p192 (.ext q189 0) tI, .P p193 (.ext q189 1) tI, .mv p19 q192 tI, .mv p20 q193 tI] (.sO [.mv p195 q2 (.i .u64), .cl p196 38 [q195] .v, .mv p194 q196 .v, .P p197 (.ext q194 0) tI, .P p198 (.ext q194 1) tI, .mv p21 q197 tI, .mv p22 q198 tI] (.seq (.seq (.oX [.mv p199 q0 tI, .bn p200 .eql q199 (ci 47) .b]) (.cond q200 (.seq (.oX [.mv p201 q14 (.i .u64), .mv p202 q19 tI, .cl p203 41 [q202] .v, .mv p204 q21 tI, .cl p205 41 [q204] .v, .cl p206 40 [q203, q205] .v, .cl p207 41 [(ci 1)] .v, .mv p208 q20 tI, .mv p209 q22 tI, .bn p210 .add q208 q209 tI, .cl p211 39 [q206, q207, q210] (.i .u64), .cl p212 37 [q201, q211] (.i .u64), .mv p6 q212 (.i .u64), .mv p7 (cb true) .b]) .ret) .skip)) (.sO [.mv p213 q14 (.i .u64), .mv p214 q19 tI, .cl p215 41 [q214] .v, .mv p216 q21 tI, .cl p217 41 [q216] .v, .mv p218 q20 tI, .mv p219 q22 tI, .bn p220 .sub q218 q219 tI, .cl p221 39 [q215, q217, q220] (.i .u64), .cl p222 37 [q213, q221] (.i .u64), .mv p6 q222 (.i .u64), .mv p7 (cb true) .b] (.s .ret)))))
def v14_3 : List Pos := [p0, p1, p2, p14, p18, p161]
def c14_3 : XC := (.cond q161 (.sO [.mv p179 q14 (.i .u64), .cl p180 37 [q179, (.c (.int .u64 (.ofNat 9218868437227405312)))] (.i .u64), .mv p6 q180 (.i .u64), .mv p7 (cb true) .b] (.s .ret)) (.sO [.mv p182 q0 tI, .bn p183 .eql q182 (ci 48) .b, .mv p184 q183 .b, .ge p184 (XL.of [.G p184 true p185 (.mov q18) .b, .P p186 (.pick q184 q185 (cb false)) .b]) p186 .b, .mv p181 q186 .b] (.cond q181 (.sO [.mv p187 q14 (.i .u64), .cl p188 37 [q187, (.c (.int .u64 (.ofNat 0)))] (.i .u64), .mv p6 q188 (.i .u64), .mv p7 (cb true) .b] (.s .ret)) (.s .skip))))
def v14_2 : List Pos := [p0, p1, p2, p8, p11, p14, p15, p16, p17, p18, p67]
def c14_2 : XC := (.cond q67 (.sO [.mv p6 (.c (.int .u64 (.ofNat 9221120237041090560))) (.i .u64), .mv p7 (cb true) .b] (.s .ret)) (.sO [.mv p114 q0 tI, .bn p115 .eql q114 (ci 45) .b, .mv p116 q115 .b, .ge p116 (XL.of [.G p116 true p117 (.mov q17) .b, .P p118 (.pick q116 q117 (cb false)) .b]) p118 .b, .mv p113 q118 .b] (.cond q113 (.sO [.mv p119 q1 (.i .u64), .mv p6 q119 (.i .u64), .mv p7 (cb true) .b] (.s .ret)) (.sO [.mv p121 q0 tI, .bn p122 .eql q121 (ci 45) .b, .mv p123 q122 .b, .ge p123 (XL.of [.G p123 true p124 (.mov q18) .b, .P p125 (.pick q123 q124 (cb false)) .b]) p125 .b, .mv p120 q125 .b] (.cond q120 (.sO [.mv p126 q2 (.i .u64), .mv p6 q126 (.i .u64), .mv p7 (cb true) .b] (.s .ret)) (.sO [.mv p128 q0 tI, .bn p129 .eql q128 (ci 45) .b, .mv p130 q129 .b, .ge p130 (XL.of [.G p130 true p131 (.mov q15) (.i .u64), .G p130 true p132 (.bin .eql q131 (.c (.int .u64 (.ofNat 0)))) .b, .P p133 (.pick q130 q132 (cb false)) .b]) p133 .b, .mv p134 q133 .b, .ge p134 (XL.of [.G p134 true p135 (.mov q16) (.i .u64), .G p134 true p136 (.bin .eql q135 (.c (.int .u64 (.ofNat 0)))) .b, .P p137 (.pick q134 q136 (cb false)) .b]) p137 .b, .mv p138 q137 .b, .ge p138 (XL.of [.G p138 true p139 (.mov q8) (.i .u64), .G p138 true p140 (.mov q11) (.i .u64), .G p138 true p141 (.bin .neq q139 q140) .b, .P p142 (.pick q138 q141 (cb false)) .b]) p142 .b, .mv p127 q142 .b] (.cond q127 (.sO [.mv p6 (.c (.int .u64 (.ofNat 0))) (.i .u64), .mv p7 (cb true) .b] (.s .ret)) (.sO [.mv p144 q0 tI, .bn p145 .eql q144 (ci 45) .b, .mv p146 q145 .b, .ge p146 (XL.of [.G p146 true p147 (.mov q15) (.i .u64), .G p146 true p148 (.bin .eql q147 (.c (.int .u64 (.ofNat 0)))) .b, .P p149 (.pick q146 q148 (cb false)) .b]) p149 .b, .mv p150 q149 .b, .ge p150 (XL.of [.G p150 true p151 (.mov q16) (.i .u64), .G p150 true p152 (.bin .eql q151 (.c (.int .u64 (.ofNat 0)))) .b, .P p153 (.pick q150 q152 (cb false)) .b]) p153 .b, .mv p143 q153 .b] (.cond q143 (.sO [.mv p154 q1 (.i .u64), .mv p6 q154 (.i .u64), .mv p7 (cb true) .b] (.s .ret)) (.sO [.mv p156 q0 tI, .bn p157 .eql q156 (ci 45) .b, .mv p155 q157 .b] (.cond q155 (.sO [.mv p158 q1 (.i .u64), .mv p159 q2 (.i .u64), .cl p160 36 [q158, q159] (.i .u64), .mv p6 q160 (.i .u64), .mv p7 (cb true) .b] (.s .ret)) (.sj v14_3 (.sO [.mv p162 q0 tI, .bn p163 .eql q162 (ci 47) .b, .mv p164 q163 .b, .ge p164 (XL.of [.G p164 true p165 (.mov q17) .b, .G p164 true p166 (.mov q165) .b, .ge p166 (XL.of [.G p166 false p167 (.mov q18) .b, .G p164 true p168 (.pick q166 (cb true) q167) .b]) p168 .b, .P p169 (.pick q164 q168 (cb false)) .b]) p169 .b, .mv p161 q169 .b] (.cond q161 (.s .skip) (.s (.oX [.mv p170 q0 tI, .bn p171 .eql q170 (ci 48) .b, .mv p172 q171 .b, .ge p172 (XL.of [.G p172 true p173 (.mov q17) .b, .G p172 true p174 (.mov q173) .b, .ge p174 (XL.of [.G p174 false p175 (.mov q16) (.i .u64), .G p174 false p176 (.bin .eql q175 (.c (.int .u64 (.ofNat 0)))) .b, .G p172 true p177 (.pick q174 (cb true) q176) .b]) p177 .b, .P p178 (.pick q172 q177 (cb false)) .b]) p178 .b, .mv p161 q178 .b])))) c14_3))))))))))))
def v14_0 : List Pos := [p0, p1, p2, p8, p9, p11, p12, p14, p15, p16]
def c14_0 : XC := (.seq (.seq (.oX [.mv p55 q0 tI, .bn p56 .eql q55 (ci 46) .b]) (.cond q56 (.seq (.oX [.mv p57 q1 (.i .u64), .mv p58 q2 (.i .u64), .cl p59 16 [q58] (.i .u64), .cl p60 14 [(ci 45), q57, q59] .v, .P p61 (.ext q60 0) (.i .u64), .P p62 (.ext q60 1) .b, .mv p6 q61 (.i .u64), .mv p7 q62 .b]) .ret) .skip)) (.sO [.mv p63 q9 (.i .u64), .bn p64 .eql q63 (.c (.int .u64 (.ofNat 2047))) .b, .mv p65 q12 (.i .u64), .bn p66 .eql q65 (.c (.int .u64 (.ofNat 2047))) .b, .mv p17 q64 .b, .mv p18 q66 .b] (.sj v14_1 (.block 0 (.sj v14_2 (.sO [.mv p68 q0 tI, .bn p69 .eql q68 (ci 45) .b, .mv p70 q69 .b, .ge p70 (XL.of [.G p70 true p71 (.mov q17) .b, .P p72 (.pick q70 q71 (cb false)) .b]) p72 .b, .mv p73 q72 .b, .ge p73 (XL.of [.G p73 true p74 (.mov q18) .b, .P p75 (.pick q73 q74 (cb false)) .b]) p75 .b, .mv p76 q75 .b, .ge p76 (XL.of [.G p76 true p77 (.mov q8) (.i .u64), .G p76 true p78 (.mov q11) (.i .u64), .G p76 true p79 (.bin .neq q77 q78) .b, .P p80 (.pick q76 q79 (cb false)) .b]) p80 .b, .mv p67 q80 .b] (.cond q67 (.s .skip) (.sO [.mv p81 q0 tI, .bn p82 .eql q81 (ci 47) .b, .mv p83 q82 .b, .ge p83 (XL.of [.G p83 true p84 (.mov q17) .b, .G p83 true p85 (.mov q84) .b, .ge p85 (XL.of [.G p85 true p86 (.mov q16) (.i .u64), .G p85 true p87 (.bin .eql q86 (.c (.int .u64 (.ofNat 0)))) .b, .G p83 true p88 (.pick q85 q87 (cb false)) .b]) p88 .b, .G p83 true p89 (.mov q88) .b, .ge p89 (XL.of [.G p89 false p90 (.mov q18) .b, .G p89 false p91 (.mov q90) .b, .ge p91 (XL.of [.G p91 true p92 (.mov q15) (.i .u64), .G p91 true p93 (.bin .eql q92 (.c (.int .u64 (.ofNat 0)))) .b, .G p89 false p94 (.pick q91 q93 (cb false)) .b]) p94 .b, .G p83 true p95 (.pick q89 (cb true) q94) .b]) p95 .b, .P p96 (.pick q83 q95 (cb false)) .b]) p96 .b, .mv p67 q96 .b] (.cond q67 (.s .skip) (.s (.oX [.mv p97 q0 tI, .bn p98 .eql q97 (ci 48) .b, .mv p99 q98 .b, .ge p99 (XL.of [.G p99 true p100 (.mov q17) .b, .G p99 true p101 (.mov q100) .b, .ge p101 (XL.of [.G p101 true p102 (.mov q18) .b, .G p99 true p103 (.pick q101 q102 (cb false)) .b]) p103 .b, .G p99 true p104 (.mov q103) .b, .ge p104 (XL.of [.G p104 false p105 (.mov q15) (.i .u64), .G p104 false p106 (.bin .eql q105 (.c (.int .u64 (.ofNat 0)))) .b, .G p104 false p107 (.mov q106) .b, .ge p107 (XL.of [.G p107 true p108 (.mov q16) (.i .u64), .G p107 true p109 (.bin .eql q108 (.c (.int .u64 (.ofNat 0)))) .b, .G p104 false p110 (.pick q107 q109 (cb false)) .b]) p110 .b, .G p99 true p111 (.pick q104 (cb true) q110) .b]) p111 .b, .P p112 (.pick q99 q111 (cb false)) .b]) p112 .b, .mv p67 q112 .b])))))) c14_2)) c14_1)))
def c14_5 : XC := (.cond q54 (.sO [.mv p6 (.c (.int .u64 (.ofNat 9221120237041090560))) (.i .u64), .mv p7 (cb true) .b] (.s .ret)) (.s .skip))
def l14_4 : XL := (XL.of [])
def c14_e : XC := (.sO [.mv p6 (.c (.int .u64 (.ofNat 0))) (.i .u64), .mv p7 (cb false) .b] (.seq (.seq (.oX [.mv p23 q0 tI, .bn p24 .lss q23 (ci 45) .b, .mv p25 q24 .b, .ge p25 (XL.of [.G p25 false p26 (.mov q0) tI, .G p25 false p27 (.bin .gtr q26 (ci 48)) .b, .P p28 (.pick q25 (cb true) q27) .b]) p28 .b]) (.cond q28 (.seq (.oX [.mv p6 (.c (.int .u64 (.ofNat 0))) (.i .u64), .mv p7 (cb false) .b]) .ret) .skip)) (.sO [.mv p30 q1 (.i .u64), .cl p31 34 [q30] .v, .mv p29 q31 .v, .P p32 (.ext q29 0) (.i .u64), .P p33 (.ext q29 1) (.i .u64), .P p34 (.ext q29 2) (.i .u64), .mv p8 q32 (.i .u64), .mv p9 q33 (.i .u64), .mv p10 q34 (.i .u64)] (.sO [.mv p36 q2 (.i .u64), .cl p37 34 [q36] .v, .mv p35 q37 .v, .P p38 (.ext q35 0) (.i .u64), .P p39 (.ext q35 1) (.i .u64), .P p40 (.ext q35 2) (.i .u64), .mv p11 q38 (.i .u64), .mv p12 q39 (.i .u64), .mv p13 q40 (.i .u64)] (.sO [.mv p41 q8 (.i .u64), .mv p42 q11 (.i .u64), .bn p43 .add q41 q42 (.i .u64), .bn p44 .rem q43 (.c (.int .u64 (.ofNat 2))) (.i .u64), .mv p14 q44 (.i .u64)] (.sO [.mv p45 q1 (.i .u64), .bn p46 .rem q45 (.c (.int .u64 (.ofNat 9223372036854775808))) (.i .u64), .mv p47 q2 (.i .u64), .bn p48 .rem q47 (.c (.int .u64 (.ofNat 9223372036854775808))) (.i .u64), .mv p15 q46 (.i .u64), .mv p16 q48 (.i .u64)] (.sj v14_0 (.opq false (XL.pre [.mv p49 q1 (.i .u64), .cl p50 35 [q49] .b, .mv p51 q50 .b, .sp p51, .G p51 false p52 (.mov q2) (.i .u64), .o ⟨(some p53), (.call (.fn 35) [q52]), (some (p51, false)), []⟩ .b, .P p54 (.pick q51 (cb true) q53) .b, .jn p51 [p0, p1, p2, p8, p9, p11, p12, p14, p15, p16, p54]] l14_4) c14_5) c14_0)))))))
def x14 : XFn := ⟨[tI, (.i .u64), (.i .u64)], false, [(.tmp p6), (.tmp p7)], c14_e⟩
def e14_1 (k t0 t1 t2 t14 h) := kN k [(p0, (vI t0)), (p1, (AV.int .u64 t1)), (p2, (AV.int .u64 t2)), (p14, (AV.int .u64 t14))] h
def S14_1 (D : CallD) (m : Nat) (t0 t1 t2 t14 : Int) (h : HP) : Res2 :=
 cal D 38 [(AV.int .u64 t1)] h fun t191 h11 =>
 extC t191 0 fun vt192 => asI .i64 vt192 fun t192 =>
 extC t191 1 fun vt193 => asI .i64 vt193 fun t193 =>
 cal D 38 [(AV.int .u64 t2)] h11 fun t196 h12 =>
 extC t196 0 fun vt197 => asI .i64 vt197 fun t197 =>
 extC t196 1 fun vt198 => asI .i64 vt198 fun t198 =>
 let t200 := eqQ t0 (Int.ofNat 47)
 br t200 (
 cal D 41 [(vI t192)] h12 fun t203 h13 =>
 cal D 41 [(vI t197)] h13 fun t205 h14 =>
 cal D 40 [t203, t205] h14 fun t206 h15 =>
 cal D 41 [(vI (Int.ofNat 1))] h15 fun t207 h16 =>
 let t210 := wrQ .i64 (addQ t193 t198)
 cal D 39 [t206, t207, (vI t210)] h16 fun t211 h17 =>
 asI .u64 t211 fun t211a =>
 cal D 37 [(AV.int .u64 t14), (AV.int .u64 t211a)] h17 fun t212 h18 =>
 asI .u64 t212 fun t212a =>
 some (.ret (.tup [(AV.int .u64 t212a), (vB true)]) h18, .no)) (
 cal D 41 [(vI t192)] h12 fun t215 h19 =>
 cal D 41 [(vI t197)] h19 fun t217 h20 =>
 let t220 := wrQ .i64 (t193 - t198)
 cal D 39 [t215, t217, (vI t220)] h20 fun t221 h21 =>
 asI .u64 t221 fun t221a =>
 cal D 37 [(AV.int .u64 t14), (AV.int .u64 t221a)] h21 fun t222 h22 =>
 asI .u64 t222 fun t222a =>
 some (.ret (.tup [(AV.int .u64 t222a), (vB true)]) h22, .no))
def e14_3 (k t0 t1 t2 t14 t18 t161 h) := kN k [(p0, (vI t0)), (p1, (AV.int .u64 t1)), (p2, (AV.int .u64 t2)), (p14, (AV.int .u64 t14)), (p18, (vB t18)), (p161, (vB t161))] h
def S14_3 (D : CallD) (m : Nat) (t0 t1 t2 t14 : Int) (t18 t161 : Bool) (h : HP) : Res2 :=
 br t161 (
 cal D 37 [(AV.int .u64 t14), (AV.int .u64 (Int.ofNat 9218868437227405312))] h fun t180 h24 =>
 asI .u64 t180 fun t180a =>
 some (.ret (.tup [(AV.int .u64 t180a), (vB true)]) h24, .no)) (
 let t183 := eqQ t0 (Int.ofNat 48)
 obB (brV t183 (
 some (vB t18)) (
 some (vB false))) fun t186 =>
 br t186 (
 cal D 37 [(AV.int .u64 t14), (AV.int .u64 (Int.ofNat 0))] h fun t188 h25 =>
 asI .u64 t188 fun t188a =>
 some (.ret (.tup [(AV.int .u64 t188a), (vB true)]) h25, .no)) (
 S14_1 D m t0 t1 t2 t14 h))
def e14_2 (k t0 t1 t2 t8 t11 t14 t15 t16 t17 t18 t67 h) := kN k [(p0, (vI t0)), (p1, (AV.int .u64 t1)), (p2, (AV.int .u64 t2)), (p8, (AV.int .u64 t8)), (p11, (AV.int .u64 t11)), (p14, (AV.int .u64 t14)), (p15, (AV.int .u64 t15)), (p16, (AV.int .u64 t16)), (p17, (vB t17)), (p18, (vB t18)), (p67, (vB t67))] h
def S14_2 (D : CallD) (m : Nat) (t0 t1 t2 t8 t11 t14 t15 t16 : Int) (t17 t18 t67 : Bool) (h : HP) : Res2 :=
 br t67 (
 some (.ret (.tup [(AV.int .u64 (Int.ofNat 9221120237041090560)), (vB true)]) h, .no)) (
 let t115 := eqQ t0 (Int.ofNat 45)
 obB (brV t115 (
 some (vB t17)) (
 some (vB false))) fun t118 =>
 br t118 (
 some (.ret (.tup [(AV.int .u64 t1), (vB true)]) h, .no)) (
 let t122 := eqQ t0 (Int.ofNat 45)
 obB (brV t122 (
 some (vB t18)) (
 some (vB false))) fun t125 =>
 br t125 (
 some (.ret (.tup [(AV.int .u64 t2), (vB true)]) h, .no)) (
 let t129 := eqQ t0 (Int.ofNat 45)
 obB (brV t129 (
 binCV .eql (AV.int .u64 t15) (AV.int .u64 (Int.ofNat 0)) fun vt132 => asBV vt132 fun t132 =>
 some (vB t132)) (
 some (vB false))) fun t133 =>
 obB (brV t133 (
 binCV .eql (AV.int .u64 t16) (AV.int .u64 (Int.ofNat 0)) fun vt136 => asBV vt136 fun t136 =>
 some (vB t136)) (
 some (vB false))) fun t137 =>
 obB (brV t137 (
 binCV .neq (AV.int .u64 t8) (AV.int .u64 t11) fun vt141 => asBV vt141 fun t141 =>
 some (vB t141)) (
 some (vB false))) fun t142 =>
 br t142 (
 some (.ret (.tup [(AV.int .u64 (Int.ofNat 0)), (vB true)]) h, .no)) (
 let t145 := eqQ t0 (Int.ofNat 45)
 obB (brV t145 (
 binCV .eql (AV.int .u64 t15) (AV.int .u64 (Int.ofNat 0)) fun vt148 => asBV vt148 fun t148 =>
 some (vB t148)) (
 some (vB false))) fun t149 =>
 obB (brV t149 (
 binCV .eql (AV.int .u64 t16) (AV.int .u64 (Int.ofNat 0)) fun vt152 => asBV vt152 fun t152 =>
 some (vB t152)) (
 some (vB false))) fun t153 =>
 br t153 (
 some (.ret (.tup [(AV.int .u64 t1), (vB true)]) h, .no)) (
 let t157 := eqQ t0 (Int.ofNat 45)
 br t157 (
 cal D 36 [(AV.int .u64 t1), (AV.int .u64 t2)] h fun t160 h23 =>
 asI .u64 t160 fun t160a =>
 some (.ret (.tup [(AV.int .u64 t160a), (vB true)]) h23, .no)) (
 let t163 := eqQ t0 (Int.ofNat 47)
 obB (brV t163 (
 obBV (brV t17 (
 some (vB true)) (
 some (vB t18))) fun t168 =>
 some (vB t168)) (
 some (vB false))) fun t169 =>
 br t169 (
 S14_3 D m t0 t1 t2 t14 t18 t169 h) (
 let t171 := eqQ t0 (Int.ofNat 48)
 obB (brV t171 (
 obBV (brV t17 (
 some (vB true)) (
 binCV .eql (AV.int .u64 t16) (AV.int .u64 (Int.ofNat 0)) fun vt176 => asBV vt176 fun t176 =>
 some (vB t176))) fun t177 =>
 some (vB t177)) (
 some (vB false))) fun t178 =>
 S14_3 D m t0 t1 t2 t14 t18 t178 h)))))))
def e14_0 (k t0 t1 t2 t8 t9 t11 t12 t14 t15 t16 h) := kN k [(p0, (vI t0)), (p1, (AV.int .u64 t1)), (p2, (AV.int .u64 t2)), (p8, (AV.int .u64 t8)), (p9, (AV.int .u64 t9)), (p11, (AV.int .u64 t11)), (p12, (AV.int .u64 t12)), (p14, (AV.int .u64 t14)), (p15, (AV.int .u64 t15)), (p16, (AV.int .u64 t16))] h
def S14_0 (D : CallD) (m : Nat) (t0 t1 t2 t8 t9 t11 t12 t14 t15 t16 : Int) (h : HP) : Res2 :=
 let t56 := eqQ t0 (Int.ofNat 46)
 br t56 (
 cal D 16 [(AV.int .u64 t2)] h fun t59 h9 =>
 asI .u64 t59 fun t59a =>
 cal D 14 [(vI (Int.ofNat 45)), (AV.int .u64 t1), (AV.int .u64 t59a)] h9 fun t60 h10 =>
 extC t60 0 fun vt61 => asI .u64 vt61 fun t61 =>
 extC t60 1 fun vt62 => asB vt62 fun t62 =>
 some (.ret (.tup [(AV.int .u64 t61), (vB t62)]) h10, .no)) (
 binC .eql (AV.int .u64 t9) (AV.int .u64 (Int.ofNat 2047)) fun vt64 => asB vt64 fun t64 =>
 binC .eql (AV.int .u64 t12) (AV.int .u64 (Int.ofNat 2047)) fun vt66 => asB vt66 fun t66 =>
 let t69 := eqQ t0 (Int.ofNat 45)
 obB (brV t69 (
 some (vB t64)) (
 some (vB false))) fun t72 =>
 obB (brV t72 (
 some (vB t66)) (
 some (vB false))) fun t75 =>
 obB (brV t75 (
 binCV .neq (AV.int .u64 t8) (AV.int .u64 t11) fun vt79 => asBV vt79 fun t79 =>
 some (vB t79)) (
 some (vB false))) fun t80 =>
 br t80 (
 S14_2 D m t0 t1 t2 t8 t11 t14 t15 t16 t64 t66 t80 h) (
 let t82 := eqQ t0 (Int.ofNat 47)
 obB (brV t82 (
 obBV (brV t64 (
 binCV .eql (AV.int .u64 t16) (AV.int .u64 (Int.ofNat 0)) fun vt87 => asBV vt87 fun t87 =>
 some (vB t87)) (
 some (vB false))) fun t88 =>
 obBV (brV t88 (
 some (vB true)) (
 obBV (brV t66 (
 binCV .eql (AV.int .u64 t15) (AV.int .u64 (Int.ofNat 0)) fun vt93 => asBV vt93 fun t93 =>
 some (vB t93)) (
 some (vB false))) fun t94 =>
 some (vB t94))) fun t95 =>
 some (vB t95)) (
 some (vB false))) fun t96 =>
 br t96 (
 S14_2 D m t0 t1 t2 t8 t11 t14 t15 t16 t64 t66 t96 h) (
 let t98 := eqQ t0 (Int.ofNat 48)
 obB (brV t98 (
 obBV (brV t64 (
 some (vB t66)) (
 some (vB false))) fun t103 =>
 obBV (brV t103 (
 some (vB true)) (
 binCV .eql (AV.int .u64 t15) (AV.int .u64 (Int.ofNat 0)) fun vt106 => asBV vt106 fun t106 =>
 obBV (brV t106 (
 binCV .eql (AV.int .u64 t16) (AV.int .u64 (Int.ofNat 0)) fun vt109 => asBV vt109 fun t109 =>
 some (vB t109)) (
 some (vB false))) fun t110 =>
 some (vB t110))) fun t111 =>
 some (vB t111)) (
 some (vB false))) fun t112 =>
 S14_2 D m t0 t1 t2 t8 t11 t14 t15 t16 t64 t66 t112 h)))
def e14_4 (k t0 t1 t2 t8 t9 t11 t12 t14 t15 t16 t54 h) := kN k [(p0, (vI t0)), (p1, (AV.int .u64 t1)), (p2, (AV.int .u64 t2)), (p8, (AV.int .u64 t8)), (p9, (AV.int .u64 t9)), (p11, (AV.int .u64 t11)), (p12, (AV.int .u64 t12)), (p14, (AV.int .u64 t14)), (p15, (AV.int .u64 t15)), (p16, (AV.int .u64 t16)), (p54, (vB t54))] h
def S14_4 (D : CallD) (m : Nat) (t0 t1 t2 t8 t9 t11 t12 t14 t15 t16 : Int) (t54 : Bool) (h : HP) : Res2 :=
 br t54 (
 some (.ret (.tup [(AV.int .u64 (Int.ofNat 9221120237041090560)), (vB true)]) h, .no)) (
 S14_0 D m t0 t1 t2 t8 t9 t11 t12 t14 t15 t16 h)
def e14_6 (k t0 t1 t2 h) := kN k [(p0, (vI t0)), (p1, (AV.int .u64 t1)), (p2, (AV.int .u64 t2))] h
def S14_6 (D : CallD) (m : Nat) (t0 t1 t2 : Int) (h : HP) : Res2 :=
 let t24 := ltQ t0 (Int.ofNat 45)
 obB (brV t24 (
 some (vB true)) (
 let t27 := ltQ (Int.ofNat 48) t0
 some (vB t27))) fun t28 =>
 br t28 (
 some (.ret (.tup [(AV.int .u64 (Int.ofNat 0)), (vB false)]) h, .no)) (
 cal D 34 [(AV.int .u64 t1)] h fun t31 h7 =>
 extC t31 0 fun vt32 => asI .u64 vt32 fun t32 =>
 extC t31 1 fun vt33 => asI .u64 vt33 fun t33 =>
 extC t31 2 fun vt34 => asI .u64 vt34 fun t34 =>
 cal D 34 [(AV.int .u64 t2)] h7 fun t37 h8 =>
 extC t37 0 fun vt38 => asI .u64 vt38 fun t38 =>
 extC t37 1 fun vt39 => asI .u64 vt39 fun t39 =>
 extC t37 2 fun vt40 => asI .u64 vt40 fun t40 =>
 binC .add (AV.int .u64 t32) (AV.int .u64 t38) fun vt43 => asI .u64 vt43 fun t43 =>
 binC .rem (AV.int .u64 t43) (AV.int .u64 (Int.ofNat 2)) fun vt44 => asI .u64 vt44 fun t44 =>
 binC .rem (AV.int .u64 t1) (AV.int .u64 (Int.ofNat 9223372036854775808)) fun vt46 => asI .u64 vt46 fun t46 =>
 binC .rem (AV.int .u64 t2) (AV.int .u64 (Int.ofNat 9223372036854775808)) fun vt48 => asI .u64 vt48 fun t48 =>
 cal D 35 [(AV.int .u64 t1)] h8 fun t50 h26 =>
 asB t50 fun t50a =>
 br t50a (
 S14_4 D m t0 t1 t2 t32 t33 t38 t39 t44 t46 t48 true h26) (
 cal D 35 [(AV.int .u64 t2)] h26 fun t53 h27 =>
 asB t53 fun t53a =>
 S14_4 D m t0 t1 t2 t32 t33 t38 t39 t44 t46 t48 t53a h27))
def S14 : SFn := fun D m args h u => nou u <| popI .i64 args fun t0 args => popI .u64 args fun t1 args => popI .u64 args fun t2 args => endA args (S14_6 D m t0 t1 t2 h)
theorem T14_1 (hE : FX x14 D m E) : S14_1 D m = e14_1 (E c14_1 []) := by unfold S14_1; rw [hE c14_1]; kernel_rfl
theorem T14_3 (hE : FX x14 D m E) : S14_3 D m = e14_3 (E c14_3 [.blk 0, .sj v14_1 c14_1]) := by unfold S14_3; rw [T14_1 hE, hE c14_3]; kernel_rfl
theorem T14_2 (hE : FX x14 D m E) : S14_2 D m = e14_2 (E c14_2 [.blk 0, .sj v14_1 c14_1]) := by unfold S14_2; rw [T14_3 hE, hE c14_2]; kernel_rfl
theorem T14_0 (hE : FX x14 D m E) : S14_0 D m = e14_0 (E c14_0 []) := by unfold S14_0; rw [T14_2 hE, hE c14_0]; kernel_rfl
theorem T14_4 (hE : FX x14 D m E) : S14_4 D m = e14_4 (E (.opq false l14_4 c14_5) [.sj v14_0 c14_0]) := by unfold S14_4; rw [T14_0 hE, hE (.opq false l14_4 c14_5)]; kernel_rfl
theorem T14_6 (hE : FX x14 D m E) : S14_6 D m = e14_6 (E c14_e []) := by unfold S14_6; rw [T14_4 hE, hE c14_e]; kernel_rfl
theorem X14 : XTie S14 x14 := X_of fun D m E hE args h u => by unfold S14; rw [T14_6 hE]; kernel_rfl
/- 15 -/
def c15_e : XC := (.sO [.mv p2 (.c (.int .u64 (.ofNat 0))) (.i .u64)] (.sO [.mv p4 q0 tW, .cl p5 27 [q4] tI, .mv p3 q5 tI] (.seq (.seq (.oX [.mv p6 q3 tI, .bn p7 .lss q6 (ci 0) .b]) (.cond q7 (.seq (.oX [.mv p8 q3 tI, .P p9 (.un .neg q8) tI, .cl p10 41 [q9] .v, .cl p11 41 [(ci 1)] .v, .cl p12 39 [q10, q11, (ci 0)] (.i .u64), .cl p13 37 [(.c (.int .u64 (.ofNat 1))), q12] (.i .u64), .mv p2 q13 (.i .u64)]) .ret) .skip)) (.sO [.mv p14 q3 tI, .cl p15 41 [q14] .v, .cl p16 41 [(ci 1)] .v, .cl p17 39 [q15, q16, (ci 0)] (.i .u64), .mv p2 q17 (.i .u64)] (.s .ret)))))
def x15 : XFn := ⟨[tW], false, [(.tmp p2)], c15_e⟩
def e15_0 (k t0 h) := kN k [(p0, (vW t0))] h
def S15_0 (D : CallD) (m : Nat) (t0 : Int) (h : HP) : Res2 :=
 cal D 27 [(vW t0)] h fun t5 h1 =>
 asI .i64 t5 fun t5a =>
 let t7 := ltQ t5a (Int.ofNat 0)
 br t7 (
 let t9 := IntKind.wrap .i64 (0 - t5a)
 cal D 41 [(vI t9)] h1 fun t10 h2 =>
 cal D 41 [(vI (Int.ofNat 1))] h2 fun t11 h3 =>
 cal D 39 [t10, t11, (vI (Int.ofNat 0))] h3 fun t12 h4 =>
 asI .u64 t12 fun t12a =>
 cal D 37 [(AV.int .u64 (Int.ofNat 1)), (AV.int .u64 t12a)] h4 fun t13 h5 =>
 asI .u64 t13 fun t13a =>
 some (.ret (AV.int .u64 t13a) h5, .no)) (
 cal D 41 [(vI t5a)] h1 fun t15 h6 =>
 cal D 41 [(vI (Int.ofNat 1))] h6 fun t16 h7 =>
 cal D 39 [t15, t16, (vI (Int.ofNat 0))] h7 fun t17 h8 =>
 asI .u64 t17 fun t17a =>
 some (.ret (AV.int .u64 t17a) h8, .no))
def S15 : SFn := fun D m args h u => nou u <| popI .u32 args fun t0 args => endA args (S15_0 D m t0 h)
theorem T15_0 (hE : FX x15 D m E) : S15_0 D m = e15_0 (E c15_e []) := by unfold S15_0; rw [hE c15_e]; kernel_rfl
theorem X15 : XTie S15 x15 := X_of fun D m E hE args h u => by unfold S15; rw [T15_0 hE]; kernel_rfl
/- 16 -/
def c16_e : XC := (.sO [.mv p2 (.c (.int .u64 (.ofNat 0))) (.i .u64)] (.seq (.seq (.oX [.mv p6 q0 (.i .u64), .cl p7 35 [q6] .b]) (.cond q7 (.seq (.oX [.mv p2 (.c (.int .u64 (.ofNat 9221120237041090560))) (.i .u64)]) .ret) .skip)) (.sO [.mv p9 q0 (.i .u64), .cl p10 34 [q9] .v, .mv p8 q10 .v, .P p11 (.ext q8 0) (.i .u64), .P p12 (.ext q8 1) (.i .u64), .P p13 (.ext q8 2) (.i .u64), .mv p3 q11 (.i .u64), .mv p4 q12 (.i .u64), .mv p5 q13 (.i .u64)] (.seq (.seq (.oX [.mv p14 q3 (.i .u64), .bn p15 .eql q14 (.c (.int .u64 (.ofNat 1))) .b]) (.cond q15 (.seq (.oX [.mv p16 q0 (.i .u64), .bn p17 .sub q16 (.c (.int .u64 (.ofNat 9223372036854775808))) (.i .u64), .mv p2 q17 (.i .u64)]) .ret) .skip)) (.sO [.mv p18 q0 (.i .u64), .bn p19 .add q18 (.c (.int .u64 (.ofNat 9223372036854775808))) (.i .u64), .mv p2 q19 (.i .u64)] (.s .ret))))))
def x16 : XFn := ⟨[(.i .u64)], false, [(.tmp p2)], c16_e⟩
def e16_0 (k t0 h) := kN k [(p0, (AV.int .u64 t0))] h
def S16_0 (D : CallD) (m : Nat) (t0 : Int) (h : HP) : Res2 :=
 cal D 35 [(AV.int .u64 t0)] h fun t7 h1 =>
 asB t7 fun t7a =>
 br t7a (
 some (.ret (AV.int .u64 (Int.ofNat 9221120237041090560)) h1, .no)) (
 cal D 34 [(AV.int .u64 t0)] h1 fun t10 h2 =>
 extC t10 0 fun vt11 => asI .u64 vt11 fun t11 =>
 extC t10 1 fun vt12 => asI .u64 vt12 fun t12 =>
 extC t10 2 fun vt13 => asI .u64 vt13 fun t13 =>
 binC .eql (AV.int .u64 t11) (AV.int .u64 (Int.ofNat 1)) fun vt15 => asB vt15 fun t15 =>
 br t15 (
 binC .sub (AV.int .u64 t0) (AV.int .u64 (Int.ofNat 9223372036854775808)) fun vt17 => asI .u64 vt17 fun t17 =>
 some (.ret (AV.int .u64 t17) h2, .no)) (
 binC .add (AV.int .u64 t0) (AV.int .u64 (Int.ofNat 9223372036854775808)) fun vt19 => asI .u64 vt19 fun t19 =>
 some (.ret (AV.int .u64 t19) h2, .no)))
def S16 : SFn := fun D m args h u => nou u <| popI .u64 args fun t0 args => endA args (S16_0 D m t0 h)
theorem T16_0 (hE : FX x16 D m E) : S16_0 D m = e16_0 (E c16_e []) := by unfold S16_0; rw [hE c16_e]; kernel_rfl
theorem X16 : XTie S16 x16 := X_of fun D m E hE args h u => by unfold S16; rw [T16_0 hE]; kernel_rfl
/- 17 -/
def v17_0 : List Pos := [p3, p6]
def c17_0 : XC := (.seq (.seq (.oX [.mv p32 q3 (.i .u64), .bn p33 .eql q32 (.c (.int .u64 (.ofNat 1))) .b, .mv p34 q33 .b, .ge p34 (XL.of [.G p34 true p35 (.mov q6) tI, .G p34 true p36 (.bin .geq q35 (ci 2147483648)) .b, .P p37 (.pick q34 q36 (cb false)) .b]) p37 .b]) (.cond q37 (.seq (.oX [.mv p2 (.c (.int .u32 (.ofNat 2147483648))) tW]) .ret) .skip)) (.seq (.seq (.oX [.mv p38 q3 (.i .u64), .bn p39 .eql q38 (.c (.int .u64 (.ofNat 1))) .b]) (.cond q39 (.seq (.oX [.mv p40 q6 tI, .P p41 (.un .neg q40) tI, .cl p42 28 [q41] tW, .mv p2 q42 tW]) .ret) .skip)) (.seq (.seq (.oX [.mv p43 q6 tI, .bn p44 .gtr q43 (ci 2147483647) .b]) (.cond q44 (.seq (.oX [.mv p2 (.c (.int .u32 (.ofNat 2147483647))) tW]) .ret) .skip)) (.sO [.mv p45 q6 tI, .P p46 (.conv (.ii .u32) q45) tW, .mv p2 q46 tW] (.s .ret)))))
def v17_1 : List Pos := [p3, p6, p7]
def c17_1b : XC := (.seq (.seq (.oX [.mv p26 q7 (.i .u64), .bn p27 .lss q26 (.c (.int .u64 (.ofNat 1075))) .b]) (.cond q27 .skip (.exit 0))) (.seq (.block 1 (.oX [.mv p30 q6 tI, .bn p31 .quo q30 (ci 2) tI, .mv p6 q31 tI])) (.s (.oX [.mv p28 q7 (.i .u64), .bn p29 .add q28 (.c (.int .u64 (.ofNat 1))) (.i .u64), .mv p7 q29 (.i .u64)]))))
def c17_e : XC := (.sO [.mv p2 (.c (.int .u32 (.ofNat 0))) tW] (.sO [.mv p9 q0 (.i .u64), .cl p10 34 [q9] .v, .mv p8 q10 .v, .P p11 (.ext q8 0) (.i .u64), .P p12 (.ext q8 1) (.i .u64), .P p13 (.ext q8 2) (.i .u64), .mv p3 q11 (.i .u64), .mv p4 q12 (.i .u64), .mv p5 q13 (.i .u64)] (.seq (.seq (.oX [.mv p14 q0 (.i .u64), .cl p15 35 [q14] .b]) (.cond q15 (.seq (.oX [.mv p2 (.c (.int .u32 (.ofNat 2147483647))) tW]) .ret) .skip)) (.seq (.seq (.oX [.mv p16 q4 (.i .u64), .bn p17 .lss q16 (.c (.int .u64 (.ofNat 1023))) .b]) (.cond q17 (.seq (.oX [.mv p2 (.c (.int .u32 (.ofNat 0))) tW]) .ret) .skip)) (.seq (.seq (.oX [.mv p18 q4 (.i .u64), .bn p19 .gtr q18 (.c (.int .u64 (.ofNat 1054))) .b]) (.cond q19 (.seq (.seq (.oX [.mv p20 q3 (.i .u64), .bn p21 .eql q20 (.c (.int .u64 (.ofNat 1))) .b]) (.cond q21 (.seq (.oX [.mv p2 (.c (.int .u32 (.ofNat 2147483648))) tW]) .ret) .skip)) (.seq (.oX [.mv p2 (.c (.int .u32 (.ofNat 2147483647))) tW]) .ret)) .skip)) (.sO [.mv p22 q5 (.i .u64), .bn p23 .add q22 (.c (.int .u64 (.ofNat 4503599627370496))) (.i .u64), .P p24 (.conv (.ii .i64) q23) tI, .mv p6 q24 tI] (.sj v17_0 (.sO [.mv p25 q4 (.i .u64), .mv p7 q25 (.i .u64)] (.block 0 (.loop v17_1 c17_1b))) c17_0)))))))
def x17 : XFn := ⟨[(.i .u64)], false, [(.tmp p2)], c17_e⟩
def e17_0 (k t3 t6 h) := kN k [(p3, (AV.int .u64 t3)), (p6, (vI t6))] h
def S17_0 (D : CallD) (m : Nat) (t3 t6 : Int) (h : HP) : Res2 :=
 binC .eql (AV.int .u64 t3) (AV.int .u64 (Int.ofNat 1)) fun vt33 => asB vt33 fun t33 =>
 obB (brV t33 (
 let t36 := leQ (Int.ofNat 2147483648) t6
 some (vB t36)) (
 some (vB false))) fun t37 =>
 br t37 (
 some (.ret (vW (Int.ofNat 2147483648)) h, .no)) (
 binC .eql (AV.int .u64 t3) (AV.int .u64 (Int.ofNat 1)) fun vt39 => asB vt39 fun t39 =>
 br t39 (
 let t41 := IntKind.wrap .i64 (0 - t6)
 cal D 28 [(vI t41)] h fun t42 h5 =>
 asI .u32 t42 fun t42a =>
 some (.ret (vW t42a) h5, .no)) (
 let t44 := ltQ (Int.ofNat 2147483647) t6
 br t44 (
 some (.ret (vW (Int.ofNat 2147483647)) h, .no)) (
 let t46 := wrapF .u32 t6
 some (.ret (vW t46) h, .no))))
def e17_1 (k t3 t6 t7 h) := kN k [(p3, (AV.int .u64 t3)), (p6, (vI t6)), (p7, (AV.int .u64 t7))] h
def S17_1b (D : CallD) (m : Nat) (g1 : Int → Int → Int → HP → Res2) (t3 t6 t7 : Int) (h : HP) : Res2 :=
 binC .lss (AV.int .u64 t7) (AV.int .u64 (Int.ofNat 1075)) fun vt27 => asB vt27 fun t27 =>
 br t27 (
 let t31 := wrapF .i64 (Int.tdiv t6 (Int.ofNat 2))
 binC .add (AV.int .u64 t7) (AV.int .u64 (Int.ofNat 1)) fun vt29 => asI .u64 vt29 fun t29 =>
 g1 t3 t31 t29 h) (
 S17_0 D m t3 t6 h)
def S17_1 (D : CallD) (m : Nat) : Int → Int → Int → HP → Res2 := nrec (fun _ _ _ _ => none) (fun _ g => S17_1b D m g) m
def e17_2 (k t0 h) := kN k [(p0, (AV.int .u64 t0))] h
def S17_2 (D : CallD) (m : Nat) (t0 : Int) (h : HP) : Res2 :=
 cal D 34 [(AV.int .u64 t0)] h fun t10 h3 =>
 extC t10 0 fun vt11 => asI .u64 vt11 fun t11 =>
 extC t10 1 fun vt12 => asI .u64 vt12 fun t12 =>
 extC t10 2 fun vt13 => asI .u64 vt13 fun t13 =>
 cal D 35 [(AV.int .u64 t0)] h3 fun t15 h4 =>
 asB t15 fun t15a =>
 br t15a (
 some (.ret (vW (Int.ofNat 2147483647)) h4, .no)) (
 binC .lss (AV.int .u64 t12) (AV.int .u64 (Int.ofNat 1023)) fun vt17 => asB vt17 fun t17 =>
 br t17 (
 some (.ret (vW (Int.ofNat 0)) h4, .no)) (
 binC .gtr (AV.int .u64 t12) (AV.int .u64 (Int.ofNat 1054)) fun vt19 => asB vt19 fun t19 =>
 br t19 (
 binC .eql (AV.int .u64 t11) (AV.int .u64 (Int.ofNat 1)) fun vt21 => asB vt21 fun t21 =>
 br t21 (
 some (.ret (vW (Int.ofNat 2147483648)) h4, .no)) (
 some (.ret (vW (Int.ofNat 2147483647)) h4, .no))) (
 binC .add (AV.int .u64 t13) (AV.int .u64 (Int.ofNat 4503599627370496)) fun vt23 => asI .u64 vt23 fun t23 =>
 obI .i64 (convV (.ii .i64) (AV.int .u64 t23)) fun t24 =>
 S17_1 D m t11 t24 t12 h4)))
def S17 : SFn := fun D m args h u => nou u <| popI .u64 args fun t0 args => endA args (S17_2 D m t0 h)
theorem T17_0 (hE : FX x17 D m E) : S17_0 D m = e17_0 (E c17_0 []) := by unfold S17_0; rw [hE c17_0]; kernel_rfl
theorem T17_1b (hE : FX x17 D m E) (G1) : S17_1b D m (e17_1 G1) = e17_1 (E c17_1b [.lp v17_1 G1, .blk 0, .sj v17_0 c17_0]) := by unfold S17_1b; rw [T17_0 hE, hE c17_1b]; kernel_rfl
theorem T17_1 (hE : FX x17 D m E) : S17_1 D m = e17_1 (nrec (fun _ => none) (fun _ G1 st => E c17_1b [.lp v17_1 G1, .blk 0, .sj v17_0 c17_0] st) m) :=
  nrec_emb e17_1 (fun _ _ _ _ => none) (fun g => S17_1b D m g) (fun G1 st => E c17_1b [.lp v17_1 G1, .blk 0, .sj v17_0 c17_0] st) rfl (fun g => T17_1b hE g) m
theorem T17_2 (hE : FX x17 D m E) : S17_2 D m = e17_2 (E c17_e []) := by unfold S17_2; rw [T17_1 hE, hE c17_e]; kernel_rfl
theorem X17 : XTie S17 x17 := X_of fun D m E hE args h u => by unfold S17; rw [T17_2 hE]; kernel_rfl
/- 20 -/
def v20_0 : List Pos := [p4]
def c20_0 : XC := (.sO [.mv p46 q4 .v, .mv p2 q46 .v, .mv p3 (cb true) .b] (.s .ret))
def v20_1 : List Pos := [p4, p16, p17, p18]
def c20_1b : XC := (.sO [.bn p19 .lss q18 q17 .b] (.seq (.cond q19 .skip (.exit 0)) (.seq (.block 1 (.seq (.oX [.P p20 (.iaddr (.sl 1) q16 q18) .v, .ld p21 q20 .s, .mv p6 q21 .s]) (.seq (.seq (.oX [.mv p22 q6 .s, .P p23 (.lens q22) tI, .bn p24 .gtr q23 (ci 3000) .b]) (.cond q24 (.seq (.oX [.mv p2 (.c .nils) .v, .mv p3 (cb false) .b]) .ret) .skip)) (.seq (.oX [.mv p26 q6 .s, .cl p27 48 [q26] .v, .mv p25 q27 .v, .P p28 (.ext q25 0) .v, .P p29 (.ext q25 1) tI, .P p30 (.ext q25 2) tI, .al p7 (.new [.nils]), .ss 1 q7 q28, .mv p8 q29 tI, .mv p9 q30 tI]) (.seq (.seq (.oX [.mv p31 q9 tI, .bn p32 .neq q31 (ci 0) .b]) (.cond q32 (.seq (.oX [.mv p2 (.c .nils) .v, .mv p3 (cb false) .b]) .ret) .skip)) (.seq (.oX [.L p34 (.cells 1 q7) .v, .cl p35 49 [q34] .v, .mv p33 q35 .v, .P p36 (.ext q33 0) .v, .P p37 (.ext q33 1) tI, .P p38 (.ext q33 2) tI, .al p10 (.new [.nils]), .ss 1 q10 q36, .mv p11 q37 tI, .mv p12 q38 tI]) (.seq (.seq (.oX [.mv p39 q12 tI, .bn p40 .neq q39 (ci 0) .b]) (.cond q40 (.seq (.oX [.mv p2 (.c .nils) .v, .mv p3 (cb false) .b]) .ret) .skip)) (.oX [.mv p41 q4 .v, .L p42 (.cells 1 q10) .v, .al p43 (.bsl [.nils] 1 [⟨0, 1, q42⟩]), .o ⟨(some p44), (.e (.app 1 24 q41 q43)), none, []⟩ .v, .mv p4 q44 .v])))))))) (.s (.oX [.bn p45 .add q18 (ci 1) tI, .mv p18 q45 tI])))))
def c20_e : XC := (.sO [.mv p2 (.c .nils) .v, .mv p3 (cb false) .b] (.sO [.mv p4 (.c .nils) .v] (.seq (.seq (.oX [.mv p13 q0 .v, .P p14 (.lenl q13) tI, .bn p15 .gtr q14 (ci 10) .b]) (.cond q15 (.seq (.oX [.mv p2 (.c .nils) .v, .mv p3 (cb false) .b]) .ret) .skip)) (.sj v20_0 (.sO [.mv p16 q0 .v, .P p17 (.lenl q16) tI, .mv p18 (ci 0) tI] (.block 0 (.loop v20_1 c20_1b))) c20_0))))
def x20 : XFn := ⟨[.v], false, [(.tmp p2), (.tmp p3)], c20_e⟩
def e20_0 (k t4 h) := kN k [(p4, t4)] h
def S20_0 (D : CallD) (m : Nat) (t4 : AV) (h : HP) : Res2 :=
 some (.ret (.tup [t4, (vB true)]) h, .no)
def e20_1 (k t4 t16 t17 t18 h) := kN k [(p4, t4), (p16, t16), (p17, (vI t17)), (p18, (vI t18))] h
def S20_1b (D : CallD) (m : Nat) (g1 : AV → AV → Int → Int → HP → Res2) (t4 t16 : AV) (t17 t18 : Int) (h : HP) : Res2 :=
 let t19 := ltQ t18 t17
 br t19 (
 iasC 1 t16 (vI t18) fun t20 =>
 ldS t20 h fun t21 =>
 let t23 := Int.ofNat (lenL t21)
 let t24 := ltQ (Int.ofNat 3000) t23
 br t24 (
 some (.ret (.tup [(.nils : AV), (vB false)]) h, .no)) (
 cal D 48 [(vS t21)] h fun t27 h3 =>
 extC t27 0 fun t28 =>
 extC t27 1 fun vt29 => asI .i64 vt29 fun t29 =>
 extC t27 2 fun vt30 => asI .i64 vt30 fun t30 =>
 let t7 := AV.ptr (HP.nxQ h3) 0
 let h4 := HP.newQ h3 (.cells true [.nils])
 stsC 1 t7 t28 h4 fun h5 =>
 let t32 := notQ (eqQ t30 (Int.ofNat 0))
 br t32 (
 some (.ret (.tup [(.nils : AV), (vB false)]) h5, .no)) (
 cellsC 1 t7 h5 fun t34 =>
 cal D 49 [t34] h5 fun t35 h6 =>
 extC t35 0 fun t36 =>
 extC t35 1 fun vt37 => asI .i64 vt37 fun t37 =>
 extC t35 2 fun vt38 => asI .i64 vt38 fun t38 =>
 let t10 := AV.ptr (HP.nxQ h6) 0
 let h7 := HP.newQ h6 (.cells true [.nils])
 stsC 1 t10 t36 h7 fun h8 =>
 let t40 := notQ (eqQ t38 (Int.ofNat 0))
 br t40 (
 some (.ret (.tup [(.nils : AV), (vB false)]) h8, .no)) (
 cellsC 1 t10 h8 fun t42 =>
 obQ (evA (.bsl [.nils] 1 [⟨0, 1, (.c t42)⟩]) .leaf) fun r9 =>
 let t43 := vkV r9.2 (HP.nxQ h8)
 let h10 := HP.newQ h8 r9.1
 eff (.app 1 24 (.c t4) (.c t43)) h10 fun t44 h11 =>
 let t45 := wrQ .i64 (addQ t18 (Int.ofNat 1))
 g1 t44 t16 t17 t45 h11)))) (
 S20_0 D m t4 h)
def S20_1 (D : CallD) (m : Nat) : AV → AV → Int → Int → HP → Res2 := nrec (fun _ _ _ _ _ => none) (fun _ g => S20_1b D m g) m
def e20_2 (k t0 h) := kN k [(p0, t0)] h
def S20_2 (D : CallD) (m : Nat) (t0 : AV) (h : HP) : Res2 :=
 lenC t0 fun vt14 => asI .i64 vt14 fun t14 =>
 let t15 := ltQ (Int.ofNat 10) t14
 br t15 (
 some (.ret (.tup [(.nils : AV), (vB false)]) h, .no)) (
 lenC t0 fun vt17 => asI .i64 vt17 fun t17 =>
 S20_1 D m (.nils : AV) t0 t17 (Int.ofNat 0) h)
def S20 : SFn := fun D m args h u => nou u <| popV args fun t0 args => endA args (S20_2 D m t0 h)
theorem T20_0 (hE : FX x20 D m E) : S20_0 D m = e20_0 (E c20_0 []) := by unfold S20_0; rw [hE c20_0]; kernel_rfl
theorem T20_1b (hE : FX x20 D m E) (G1) : S20_1b D m (e20_1 G1) = e20_1 (E c20_1b [.lp v20_1 G1, .blk 0, .sj v20_0 c20_0]) := by unfold S20_1b; rw [T20_0 hE, hE c20_1b]; kernel_rfl
theorem T20_1 (hE : FX x20 D m E) : S20_1 D m = e20_1 (nrec (fun _ => none) (fun _ G1 st => E c20_1b [.lp v20_1 G1, .blk 0, .sj v20_0 c20_0] st) m) :=
  nrec_emb e20_1 (fun _ _ _ _ _ => none) (fun g => S20_1b D m g) (fun G1 st => E c20_1b [.lp v20_1 G1, .blk 0, .sj v20_0 c20_0] st) rfl (fun g => T20_1b hE g) m
theorem T20_2 (hE : FX x20 D m E) : S20_2 D m = e20_2 (E c20_e []) := by unfold S20_2; rw [T20_1 hE, hE c20_e]; kernel_rfl
theorem X20 : XTie S20 x20 := X_of fun D m E hE args h u => by unfold S20; rw [T20_2 hE]; kernel_rfl
/- 21 -/
def v21_0 : List Pos := [p2, p8]
def c21_0 : XC := (.sO [.L p45 (.cells 2 q8) .v, .ss 2 q2 q45, .mv p3 (ci 0) tI, .mv p4 (ci 0) tI] (.s .ret))
def v21_2 : List Pos := [p2, p8, p25, p26, p27]
def c21_2 : XC := (.s (.oX [.bn p44 .add q27 (ci 1) tI, .mv p27 q44 tI]))
def v21_1 : List Pos := [p2, p8, p25, p26, p27]
def c21_1b : XC := (.sO [.bn p28 .lss q27 q26 .b] (.seq (.cond q28 .skip (.exit 0)) (.sj v21_2 (.block 1 (.sO [.P p29 (.iaddr (.sl 17) q25 q27) .v, .L p30 (.cells 17 q29) .v, .al p10 (.new [(.bool false), (.bool false), (.bool false), (.str []), (kI 0), (kI 0), .nils, (.bool false), .nils, (kI 0), .nils, .nils, (.str []), (kI 0), (kI 0), (kI 0), (kI 0)]), .ss 17 q10 q30] (.sO [.fa p31 0 q10, .ld p32 q31 .b, .mv p33 q32 .b, .ge p33 (XL.of [.G p33 true p34 (.faddr 7 q10) .v, .o ⟨(some p35), (.l (.cell q34)), (some (p33, true)), []⟩ .b, .P p36 (.pick q33 q35 (cb false)) .b]) p36 .b] (.cond q36 (.s (.ops true (XL.of [.fa p37 0 q8, .ld p38 q37 .v, .L p39 (.cells 17 q10) .v, .o ⟨(some p40), (.call (.fn 51) [q39]), none, [⟨none, .cell q37, p38⟩]⟩ .v, .al p41 (.bsl [(.str []), (.bool false), .nils, .nils, .nils, .nils] 1 [⟨0, 6, q40⟩]), .o ⟨(some p42), (.e (.app 6 120 q38 q41)), none, []⟩ .v, .fa p43 0 q8, .st q43 q42]))) (.s .skip))))) c21_2)))
def c21_e : XC := (.sO [.al p1 (.box q0), .al p2 (.new [.nils, .nils]), .mv p3 (ci 0) tI, .mv p4 (ci 0) tI] (.sO [.L p12 (.cells 1 q1) .v, .cl p13 50 [q12] .v, .mv p11 q13 .v, .P p14 (.ext q11 0) .v, .P p15 (.ext q11 1) tI, .P p16 (.ext q11 2) tI, .mv p5 q14 .v, .mv p6 q15 tI, .mv p7 q16 tI] (.seq (.seq (.oX [.mv p17 q7 tI, .bn p18 .neq q17 (ci 0) .b]) (.cond q18 (.seq (.oX [.P p19 (.build [.nils, .nils] []) .v, .mv p20 q6 tI, .mv p21 q7 tI, .ss 2 q2 q19, .mv p3 q20 tI, .mv p4 q21 tI]) .ret) .skip)) (.sO [.mv p22 q5 .v, .P p23 (.build [.nils, .nils] [⟨1, 1, q22⟩]) .v, .al p8 (.new [.nils, .nils]), .ss 2 q8 q23] (.sj v21_0 (.sO [.fa p24 0 q1, .ld p25 q24 .v, .P p26 (.lenl q25) tI, .mv p27 (ci 0) tI] (.block 0 (.loop v21_1 c21_1b))) c21_0)))))
def x21 : XFn := ⟨[.v], false, [(.cells 2 p2), (.tmp p3), (.tmp p4)], c21_e⟩
def S21 : SFn := evFX x21
theorem X21 : XTie S21 x21 := fun _ _ _ _ _ => rfl
/- 23 -/
def v23_1 : List Pos := [p1, p2]
def c23_1 : XC := (.sO [.L p202 (.cells 8 q1) .v, .ss 8 q2 q202] (.s .ret))
def v23_3 : List Pos := [p1, p2, p96, p97]
def c23_3 : XC := (.s (.oX [.bn p201 .add q97 (ci 1) tI, .mv p97 q201 tI]))
def v23_5 : List Pos := [p1, p2, p8, p96, p97, p106, p107]
def c23_5 : XC := (.s (.oX [.bn p200 .add q107 (ci 1) tI, .mv p107 q200 tI]))
def v23_7 : List Pos := [p1, p2, p8, p9, p10, p96, p97, p106, p107, p147, p148]
def c23_7b : XC := (.sO [.bn p149 .lss q148 q147 .b] (.seq (.cond q149 .skip (.exit 12)) (.seq (.block 13 (.seq (.oX [.mv p150 q148 tI, .mv p12 q150 tI]) (.seq (.oX [.fa p151 3 q10, .ld p152 q151 .v, .mv p153 q12 tI, .P p154 (.iaddr (.sl 3) q152 q153) .v, .L p155 (.cells 3 q154) .v, .al p13 (.new [(kI 0), (.str []), (kI 0)]), .ss 3 q13 q155]) (.seq (.oX [.L p156 (.cells 8 q1) .v, .mv p157 q8 tI, .fa p158 1 q13, .ld p159 q158 .s, .cl p160 55 [q156, q157, q159] tI, .mv p14 q160 tI]) (.seq (.seq (.oX [.mv p161 q14 tI, .bn p162 .eql q161 (ci 0) .b, .mv p163 q162 .b, .ge p163 (XL.of [.G p163 false p164 (.faddr 0 q13) .v, .o ⟨(some p165), (.l (.cell q164)), (some (p163, false)), []⟩ tI, .G p163 false p166 (.bin .lss q165 (ci 0)) .b, .P p167 (.pick q163 (cb true) q166) .b]) p167 .b, .mv p168 q167 .b, .ge p168 (XL.of [.G p168 false p169 (.faddr 0 q13) .v, .o ⟨(some p170), (.l (.cell q169)), (some (p168, false)), []⟩ tI, .G p168 false p171 (.faddr 2 q10) .v, .o ⟨(some p172), (.l (.cell q171)), (some (p168, false)), []⟩ .v, .G p168 false p173 (.lenl q172) tI, .G p168 false p174 (.bin .sub q173 (ci 4)) tI, .G p168 false p175 (.bin .gtr q170 q174) .b, .P p176 (.pick q168 (cb true) q175) .b]) p176 .b]) (.cond q176 (.seq (.oX [.L p177 (.cells 8 q1) .v, .cl p178 25 [q177, (ci 2)] .v, .ss 8 q2 q178]) .ret) .skip)) (.ops true (XL.of [.L p179 (.cells 8 q1) .v, .fa p180 1 q1, .ld p181 q180 .v, .mv p182 q8 tI, .P p183 (.iaddr (.sl 1) q181 q182) .v, .ld p184 q183 .v, .mv p185 q9 tI, .P p186 (.iaddr (.sl 1) q184 q185) .v, .ld p187 q186 tI, .fa p188 0 q13, .ld p189 q188 tI, .bn p190 .add q187 q189 tI, .mv p191 q14 tI, .fa p193 2 q13, .ld p194 q193 tI, .o ⟨(some p192), (.call (.fn 28) [q191]), none, [⟨none, .cells 8 q1, p179⟩, ⟨none, .cell q180, p181⟩, ⟨none, .cell q183, p184⟩, ⟨none, .cell q186, p187⟩, ⟨none, .cell q188, p189⟩, ⟨none, .cell q193, p194⟩]⟩ tW, .o ⟨(some p195), (.call (.fn 28) [q194]), none, [⟨none, .cells 8 q1, p179⟩, ⟨none, .cell q180, p181⟩, ⟨none, .cell q183, p184⟩, ⟨none, .cell q186, p187⟩, ⟨none, .cell q188, p189⟩]⟩ tW, .bn p196 .add q192 q195 tW, .P p197 (.conv (.ii .u64) q196) (.i .u64), .cl p198 56 [q179, q190, (ci 4), q197] .v, .ss 8 q1 q198]))))))) (.s (.oX [.bn p199 .add q148 (ci 1) tI, .mv p148 q199 tI])))))
def v23_6 : List Pos := [p1, p2, p8, p9, p10, p96, p97, p106, p107]
def c23_6 : XC := (.sO [.fa p145 3 q10, .ld p146 q145 .v, .P p147 (.lenl q146) tI, .mv p148 (ci 0) tI] (.block 12 (.loop v23_7 c23_7b)))
def v23_8 : List Pos := [p1, p2, p8, p9, p10, p96, p97, p106, p107, p121, p122]
def c23_8b : XC := (.sO [.bn p123 .lss q122 q121 .b] (.seq (.cond q123 .skip (.exit 10)) (.seq (.block 11 (.seq (.oX [.mv p124 q122 tI, .mv p11 q124 tI]) (.ops true (XL.of [.fa p125 2 q1, .ld p126 q125 .v, .fa p127 1 q1, .ld p128 q127 .v, .mv p129 q8 tI, .P p130 (.iaddr (.sl 1) q128 q129) .v, .ld p131 q130 .v, .mv p132 q9 tI, .P p133 (.iaddr (.sl 1) q131 q132) .v, .ld p134 q133 tI, .bn p135 .sub q134 (ci 4096) tI, .mv p136 q11 tI, .bn p137 .add q135 q136 tI, .fa p138 2 q10, .ld p139 q138 .v, .mv p140 q11 tI, .P p141 (.iaddr (.sl 1) q139 q140) .v, .ld p142 q141 tC, .P p143 (.iaddr (.sl 1) q126 q137) .v, .st q143 q142])))) (.s (.oX [.bn p144 .add q122 (ci 1) tI, .mv p122 q144 tI])))))
def v23_4 : List Pos := [p1, p2, p8, p96, p97, p106, p107]
def c23_4b : XC := (.sO [.bn p108 .lss q107 q106 .b] (.seq (.cond q108 .skip (.exit 8)) (.sj v23_5 (.block 9 (.sO [.mv p109 q107 tI, .mv p9 q109 tI] (.sO [.fa p110 0 q1, .ld p111 q110 .v, .mv p112 q8 tI, .P p113 (.iaddr (.sl 2) q111 q112) .v, .fa p114 1 q113, .ld p115 q114 .v, .mv p116 q9 tI, .P p117 (.iaddr (.sl 4) q115 q116) .v, .L p118 (.cells 4 q117) .v, .al p10 (.new [(.str []), (.bool false), .nils, .nils]), .ss 4 q10 q118] (.sj v23_6 (.sO [.fa p119 2 q10, .ld p120 q119 .v, .P p121 (.lenl q120) tI, .mv p122 (ci 0) tI] (.block 10 (.loop v23_8 c23_8b))) c23_6)))) c23_5)))
def v23_2 : List Pos := [p1, p2, p96, p97]
def c23_2b : XC := (.sO [.bn p98 .lss q97 q96 .b] (.seq (.cond q98 .skip (.exit 6)) (.sj v23_3 (.block 7 (.sO [.mv p99 q97 tI, .mv p8 q99 tI] (.sO [.fa p100 0 q1, .ld p101 q100 .v, .mv p102 q8 tI, .P p103 (.iaddr (.sl 2) q101 q102) .v, .fa p104 1 q103, .ld p105 q104 .v, .P p106 (.lenl q105) tI, .mv p107 (ci 0) tI] (.block 8 (.loop v23_4 c23_4b))))) c23_3)))
def v23_0 : List Pos := [p1, p2, p3]
def c23_0 : XC := (.seq (.seq (.oX [.fa p82 7 q1, .ld p83 q82 tI, .bn p84 .geq q83 (ci 0) .b]) (.cond q84 (.seq (.oX [.L p85 (.cells 8 q1) .v, .ss 8 q2 q85]) .ret) .skip)) (.seq (.ops true (XL.of [.L p86 (.cells 8 q1) .v, .mv p87 q3 tI, .o ⟨(some p88), (.call (.fn 53) [q87, (ci 16)]), none, [⟨none, .cells 8 q1, p86⟩]⟩ tI, .cl p89 54 [q86, q88] .v, .ss 8 q1 q89])) (.seq (.seq (.oX [.fa p90 7 q1, .ld p91 q90 tI, .bn p92 .geq q91 (ci 0) .b]) (.cond q92 (.seq (.oX [.L p93 (.cells 8 q1) .v, .ss 8 q2 q93]) .ret) .skip)) (.sj v23_1 (.sO [.fa p94 0 q1, .ld p95 q94 .v, .P p96 (.lenl q95) tI, .mv p97 (ci 0) tI] (.block 6 (.loop v23_2 c23_2b))) c23_1))))
def v23_10 : List Pos := [p1, p2, p3, p17, p18]
def c23_10 : XC := (.s (.oX [.bn p81 .add q18 (ci 1) tI, .mv p18 q81 tI]))
def v23_12 : List Pos := [p1, p2, p3, p6, p17, p18]
def c23_12 : XC := (.s (.oX [.fa p75 1 q1, .ld p76 q75 .v, .mv p77 q6 .v, .al p78 (.bsl [.nils] 1 [⟨0, 1, q77⟩]), .o ⟨(some p79), (.e (.app 1 24 q76 q78)), none, []⟩ .v, .fa p80 1 q1, .st q80 q79]))
def v23_13 : List Pos := [p1, p2, p3, p4, p6, p17, p18, p51, p52]
def c23_13b : XC := (.sO [.bn p53 .lss q52 q51 .b] (.seq (.cond q53 .skip (.exit 4)) (.seq (.block 5 (.seq (.oX [.mv p54 q52 tI, .mv p7 q54 tI]) (.seq (.oX [.mv p55 q3 tI, .cl p56 53 [q55, (ci 8)] tI, .mv p3 q56 tI]) (.seq (.oX [.mv p57 q6 .v, .mv p58 q3 tI, .al p59 (.bsl [(kI 0)] 1 [⟨0, 1, q58⟩]), .o ⟨(some p60), (.e (.app 1 8 q57 q59)), none, []⟩ .v, .mv p6 q60 .v]) (.oX [.mv p61 q3 tI, .fa p62 0 q1, .ld p63 q62 .v, .mv p64 q4 tI, .P p65 (.iaddr (.sl 2) q63 q64) .v, .fa p66 1 q65, .ld p67 q66 .v, .mv p68 q7 tI, .P p69 (.iaddr (.sl 4) q67 q68) .v, .fa p70 2 q69, .ld p71 q70 .v, .P p72 (.lenl q71) tI, .bn p73 .add q61 q72 tI, .mv p3 q73 tI]))))) (.s (.oX [.bn p74 .add q52 (ci 1) tI, .mv p52 q74 tI])))))
def v23_11 : List Pos := [p1, p2, p3, p4, p17, p18]
def c23_11 : XC := (.sO [.mv p6 (.c .nils) .v] (.sj v23_12 (.sO [.fa p45 0 q1, .ld p46 q45 .v, .mv p47 q4 tI, .P p48 (.iaddr (.sl 2) q46 q47) .v, .fa p49 1 q48, .ld p50 q49 .v, .P p51 (.lenl q50) tI, .mv p52 (ci 0) tI] (.block 4 (.loop v23_13 c23_13b))) c23_12))
def v23_15 : List Pos := [p1, p2, p3, p4, p17, p18, p27, p28]
def c23_15 : XC := (.s (.oX [.bn p44 .add q28 (ci 1) tI, .mv p28 q44 tI]))
def v23_14 : List Pos := [p1, p2, p3, p4, p17, p18, p27, p28]
def c23_14b : XC := (.sO [.bn p29 .lss q28 q27 .b] (.seq (.cond q29 .skip (.exit 2)) (.sj v23_15 (.block 3 (.sO [.mv p30 q28 tI, .mv p5 q30 tI] (.sO [.fa p31 0 q1, .ld p32 q31 .v, .mv p33 q4 tI, .P p34 (.iaddr (.sl 2) q32 q33) .v, .fa p35 0 q34, .ld p36 q35 .v, .mv p37 q5 tI, .P p38 (.iaddr (.sl 6) q36 q37) .v, .L p39 (.cells 6 q38) .v, .cl p40 52 [q39] .b, .P p41 (.un .not q40) .b] (.cond q41 (.s (.oX [.L p42 (.cells 8 q1) .v, .cl p43 25 [q42, (ci 2)] .v, .ss 8 q1 q43])) (.s .skip))))) c23_15)))
def v23_9 : List Pos := [p1, p2, p3, p17, p18]
def c23_9b : XC := (.sO [.bn p19 .lss q18 q17 .b] (.seq (.cond q19 .skip (.exit 0)) (.sj v23_10 (.block 1 (.sO [.mv p20 q18 tI, .mv p4 q20 tI] (.sj v23_11 (.sO [.fa p21 0 q1, .ld p22 q21 .v, .mv p23 q4 tI, .P p24 (.iaddr (.sl 2) q22 q23) .v, .fa p25 0 q24, .ld p26 q25 .v, .P p27 (.lenl q26) tI, .mv p28 (ci 0) tI] (.block 2 (.loop v23_14 c23_14b))) c23_11))) c23_10)))
def c23_e : XC := (.sO [.al p1 (.box q0), .al p2 (.new [.nils, .nils, .nils, .nils, .nils, (kI 0), (kI 0), (kI 0)])] (.sO [.mv p3 (ci 4096) tI] (.sj v23_0 (.sO [.fa p15 0 q1, .ld p16 q15 .v, .P p17 (.lenl q16) tI, .mv p18 (ci 0) tI] (.block 0 (.loop v23_9 c23_9b))) c23_0)))
def x23 : XFn := ⟨[.v], false, [(.cells 8 p2)], c23_e⟩
def S23 : SFn := evFX x23
theorem X23 : XTie S23 x23 := fun _ _ _ _ _ => rfl
/- 24 -/
def v24_0 : List Pos := [p6]
def c24_0 : XC := (.sO [.P p70 (.build [(.str []), (.bool false), .nils, .nils, .nils, .nils] []) .v, .ss 6 q6 q70, .mv p7 (.c (.int .i64 (.negSucc 0))) tI] (.s .ret))
def v24_2 : List Pos := [p1, p2, p3, p6, p8]
def c24_2 : XC := (.s (.oX [.mv p14 q8 tI, .bn p15 .add q14 (ci 1) tI, .mv p8 q15 tI]))
def v24_4 : List Pos := [p1, p2, p3, p6, p8, p18, p19]
def c24_4 : XC := (.s (.oX [.bn p69 .add q19 (ci 1) tI, .mv p19 q69 tI]))
def v24_5 : List Pos := [p1, p2, p3, p6, p8, p9, p18, p19, p35, p36]
def c24_5b : XC := (.sO [.bn p37 .lss q36 q35 .b] (.seq (.cond q37 .skip (.exit 4)) (.seq (.block 5 (.seq (.oX [.mv p38 q36 tI, .mv p10 q38 tI]) (.seq (.oX [.fa p39 0 q3, .ld p40 q39 .v, .mv p41 q9 tI, .P p42 (.iaddr (.sl 2) q40 q41) .v, .fa p43 0 q42, .ld p44 q43 .v, .mv p45 q10 tI, .P p46 (.iaddr (.sl 6) q44 q45) .v, .L p47 (.cells 6 q46) .v, .al p11 (.new [(.str []), (.bool false), .nils, .nils, .nils, .nils]), .ss 6 q11 q47]) (.seq (.oX [.fa p48 0 q11, .ld p49 q48 .s, .mv p50 q2 .s, .bn p51 .eql q49 q50 .b, .mv p52 q51 .b, .ge p52 (XL.of [.G p52 true p53 (.mov q9) tI, .G p52 true p54 (.mov q1) tI, .G p52 true p55 (.bin .eql q53 q54) .b, .G p52 true p56 (.mov q55) .b, .ge p56 (XL.of [.G p56 true p57 (.mov q8) tI, .G p56 true p58 (.bin .eql q57 (ci 0)) .b, .G p52 true p59 (.pick q56 q58 (cb false)) .b]) p59 .b, .G p52 true p60 (.mov q59) .b, .ge p60 (XL.of [.G p60 false p61 (.faddr 1 q11) .v, .o ⟨(some p62), (.l (.cell q61)), (some (p60, false)), []⟩ .b, .G p60 false p63 (.un .not q62) .b, .G p52 true p64 (.pick q60 (cb true) q63) .b]) p64 .b, .P p65 (.pick q52 q64 (cb false)) .b]) p65 .b]) (.cond q65 (.seq (.oX [.L p66 (.cells 6 q11) .v, .mv p67 q9 tI, .ss 6 q6 q66, .mv p7 q67 tI]) .ret) .skip))))) (.s (.oX [.bn p68 .add q36 (ci 1) tI, .mv p36 q68 tI])))))
def v24_3 : List Pos := [p1, p2, p3, p6, p8, p18, p19]
def c24_3b : XC := (.sO [.bn p20 .lss q19 q18 .b] (.seq (.cond q20 .skip (.exit 2)) (.sj v24_4 (.block 3 (.sO [.mv p21 q19 tI, .mv p9 q21 tI] (.seq (.seq (.oX [.mv p22 q8 tI, .bn p23 .eql q22 (ci 0) .b, .mv p24 q23 .b, .ge p24 (XL.of [.G p24 true p25 (.mov q9) tI, .G p24 true p26 (.mov q1) tI, .G p24 true p27 (.bin .neq q25 q26) .b, .P p28 (.pick q24 q27 (cb false)) .b]) p28 .b]) (.cond q28 (.exit 3) .skip)) (.sO [.fa p29 0 q3, .ld p30 q29 .v, .mv p31 q9 tI, .P p32 (.iaddr (.sl 2) q30 q31) .v, .fa p33 0 q32, .ld p34 q33 .v, .P p35 (.lenl q34) tI, .mv p36 (ci 0) tI] (.block 4 (.loop v24_5 c24_5b)))))) c24_4)))
def v24_1 : List Pos := [p1, p2, p3, p6, p8]
def c24_1b : XC := (.seq (.seq (.oX [.mv p12 q8 tI, .bn p13 .lss q12 (ci 2) .b]) (.cond q13 .skip (.exit 0))) (.sj v24_2 (.block 1 (.sO [.fa p16 0 q3, .ld p17 q16 .v, .P p18 (.lenl q17) tI, .mv p19 (ci 0) tI] (.block 2 (.loop v24_3 c24_3b)))) c24_2))
def c24_e : XC := (.sO [.al p3 (.box q0), .al p6 (.new [(.str []), (.bool false), .nils, .nils, .nils, .nils]), .mv p7 (ci 0) tI] (.sj v24_0 (.sO [.mv p8 (ci 0) tI] (.block 0 (.loop v24_1 c24_1b))) c24_0))
def x24 : XFn := ⟨[.v, tI, .s], false, [(.cells 6 p6), (.tmp p7)], c24_e⟩
def e24_0 (k t6 h) := kN k [(p6, t6)] h
def S24_0 (D : CallD) (m : Nat) (t6 : AV) (h : HP) : Res2 :=
 let t70 := (AV.agg [(vS ([] : LN)), (vB false), (.nils : AV), (.nils : AV), (.nils : AV), (.nils : AV)])
 stsC 6 t6 t70 h fun h9 =>
 cellsC 6 t6 h9 fun t6a =>
 some (.ret (.tup [t6a, (vI (Int.negSucc 0))]) h9, .no)
def e24_2 (k t1 t2 t3 t6 t8 h) := kN k [(p1, (vI t1)), (p2, (vS t2)), (p3, t3), (p6, t6), (p8, (vI t8))] h
def S24_2 (D : CallD) (m : Nat) (g1 : Int → LN → AV → AV → Int → HP → Res2) (t1 : Int) (t2 : LN) (t3 t6 : AV) (t8 : Int) (h : HP) : Res2 :=
 let t15 := wrQ .i64 (addQ t8 (Int.ofNat 1))
 g1 t1 t2 t3 t6 t15 h
def e24_4 (k t1 t2 t3 t6 t8 t18 t19 h) := kN k [(p1, (vI t1)), (p2, (vS t2)), (p3, t3), (p6, t6), (p8, (vI t8)), (p18, (vI t18)), (p19, (vI t19))] h
def S24_4 (D : CallD) (m : Nat) (g3 : Int → LN → AV → AV → Int → Int → Int → HP → Res2) (g1 : Int → LN → AV → AV → Int → HP → Res2) (t1 : Int) (t2 : LN) (t3 t6 : AV) (t8 t18 t19 : Int) (h : HP) : Res2 :=
 let t69 := wrQ .i64 (addQ t19 (Int.ofNat 1))
 g3 t1 t2 t3 t6 t8 t18 t69 h
def e24_5 (k t1 t2 t3 t6 t8 t9 t18 t19 t35 t36 h) := kN k [(p1, (vI t1)), (p2, (vS t2)), (p3, t3), (p6, t6), (p8, (vI t8)), (p9, (vI t9)), (p18, (vI t18)), (p19, (vI t19)), (p35, (vI t35)), (p36, (vI t36))] h
def S24_5b (D : CallD) (m : Nat) (g5 : Int → LN → AV → AV → Int → Int → Int → Int → Int → Int → HP → Res2) (g3 : Int → LN → AV → AV → Int → Int → Int → HP → Res2) (g1 : Int → LN → AV → AV → Int → HP → Res2) (t1 : Int) (t2 : LN) (t3 t6 : AV) (t8 t9 t18 t19 t35 t36 : Int) (h : HP) : Res2 :=
 let t37 := ltQ t36 t35
 br t37 (
 faC 0 t3 fun t39 =>
 cellC t39 h fun t40 =>
 iasC 2 t40 (vI t9) fun t42 =>
 faC 0 t42 fun t43 =>
 cellC t43 h fun t44 =>
 iasC 6 t44 (vI t36) fun t46 =>
 cellsC 6 t46 h fun t47 =>
 let t11 := AV.ptr (HP.nxQ h) 0
 let h10 := HP.newQ h (.cells true [(.str []), (.bool false), .nils, .nils, .nils, .nils])
 stsC 6 t11 t47 h10 fun h11 =>
 let t48 := (AV.ptr (HP.nxQ h) (Nat.add 0 0))
 ldS t48 h11 fun t49 =>
 let t51 := eqL t49 t2
 obB (brV t51 (
 let t55 := eqQ t9 t1
 obBV (brV t55 (
 let t58 := eqQ t8 (Int.ofNat 0)
 some (vB t58)) (
 some (vB false))) fun t59 =>
 obBV (brV t59 (
 some (vB true)) (
 let t61 := (AV.ptr (HP.nxQ h) (Nat.add 0 1))
 ldBV t61 h11 fun t62 =>
 let t63 := !t62
 some (vB t63))) fun t64 =>
 some (vB t64)) (
 some (vB false))) fun t65 =>
 br t65 (
 cellsC 6 t11 h11 fun t66 =>
 stsC 6 t6 t66 h11 fun h12 =>
 cellsC 6 t6 h12 fun t6a =>
 some (.ret (.tup [t6a, (vI t9)]) h12, .no)) (
 let t68 := wrQ .i64 (addQ t36 (Int.ofNat 1))
 g5 t1 t2 t3 t6 t8 t9 t18 t19 t35 t68 h11)) (
 S24_4 D m g3 g1 t1 t2 t3 t6 t8 t18 t19 h)
def S24_5 (D : CallD) (m : Nat) (g3 : Int → LN → AV → AV → Int → Int → Int → HP → Res2) (g1 : Int → LN → AV → AV → Int → HP → Res2) : Int → LN → AV → AV → Int → Int → Int → Int → Int → Int → HP → Res2 := nrec (fun _ _ _ _ _ _ _ _ _ _ _ => none) (fun _ g => S24_5b D m g g3 g1) m
def e24_3 (k t1 t2 t3 t6 t8 t18 t19 h) := kN k [(p1, (vI t1)), (p2, (vS t2)), (p3, t3), (p6, t6), (p8, (vI t8)), (p18, (vI t18)), (p19, (vI t19))] h
def S24_3b (D : CallD) (m : Nat) (g3 : Int → LN → AV → AV → Int → Int → Int → HP → Res2) (g1 : Int → LN → AV → AV → Int → HP → Res2) (t1 : Int) (t2 : LN) (t3 t6 : AV) (t8 t18 t19 : Int) (h : HP) : Res2 :=
 let t20 := ltQ t19 t18
 br t20 (
 let t23 := eqQ t8 (Int.ofNat 0)
 obB (brV t23 (
 let t27 := notQ (eqQ t19 t1)
 some (vB t27)) (
 some (vB false))) fun t28 =>
 br t28 (
 S24_4 D m g3 g1 t1 t2 t3 t6 t8 t18 t19 h) (
 faC 0 t3 fun t29 =>
 cellC t29 h fun t30 =>
 iasC 2 t30 (vI t19) fun t32 =>
 faC 0 t32 fun t33 =>
 cellC t33 h fun t34 =>
 lenC t34 fun vt35 => asI .i64 vt35 fun t35 =>
 S24_5 D m g3 g1 t1 t2 t3 t6 t8 t19 t18 t19 t35 (Int.ofNat 0) h)) (
 S24_2 D m g1 t1 t2 t3 t6 t8 h)
def S24_3 (D : CallD) (m : Nat) (g1 : Int → LN → AV → AV → Int → HP → Res2) : Int → LN → AV → AV → Int → Int → Int → HP → Res2 := nrec (fun _ _ _ _ _ _ _ _ => none) (fun _ g => S24_3b D m g g1) m
def e24_1 (k t1 t2 t3 t6 t8 h) := kN k [(p1, (vI t1)), (p2, (vS t2)), (p3, t3), (p6, t6), (p8, (vI t8))] h
def S24_1b (D : CallD) (m : Nat) (g1 : Int → LN → AV → AV → Int → HP → Res2) (t1 : Int) (t2 : LN) (t3 t6 : AV) (t8 : Int) (h : HP) : Res2 :=
 let t13 := ltQ t8 (Int.ofNat 2)
 br t13 (
 faC 0 t3 fun t16 =>
 cellC t16 h fun t17 =>
 lenC t17 fun vt18 => asI .i64 vt18 fun t18 =>
 S24_3 D m g1 t1 t2 t3 t6 t8 t18 (Int.ofNat 0) h) (
 S24_0 D m t6 h)
def S24_1 (D : CallD) (m : Nat) : Int → LN → AV → AV → Int → HP → Res2 := nrec (fun _ _ _ _ _ _ => none) (fun _ g => S24_1b D m g) m
def e24_6 (k t0 t1 t2 h) := kN k [(p0, t0), (p1, (vI t1)), (p2, (vS t2))] h
def S24_6 (D : CallD) (m : Nat) (t0 : AV) (t1 : Int) (t2 : LN) (h : HP) : Res2 :=
 let t3 := AV.ptr (HP.nxQ h) 0
 let h7 := HP.newQ h (.cells true (AV.cells t0))
 let t6 := AV.ptr (HP.nxQ h7) 0
 let h8 := HP.newQ h7 (.cells true [(.str []), (.bool false), .nils, .nils, .nils, .nils])
 S24_1 D m t1 t2 t3 t6 (Int.ofNat 0) h8
def S24 : SFn := fun D m args h u => nou u <| popV args fun t0 args => popI .i64 args fun t1 args => popS args fun t2 args => endA args (S24_6 D m t0 t1 t2 h)
theorem T24_0 (hE : FX x24 D m E) : S24_0 D m = e24_0 (E c24_0 []) := by unfold S24_0; rw [hE c24_0]; kernel_rfl
theorem T24_2 (hE : FX x24 D m E) (G1) : S24_2 D m (e24_1 G1) = e24_2 (E c24_2 [.lp v24_1 G1, .blk 0, .sj v24_0 c24_0]) := by unfold S24_2; rw [hE c24_2]; kernel_rfl
theorem T24_4 (hE : FX x24 D m E) (G3) (G1) : S24_4 D m (e24_3 G3) (e24_1 G1) = e24_4 (E c24_4 [.lp v24_3 G3, .blk 2, .blk 1, .sj v24_2 c24_2, .lp v24_1 G1, .blk 0, .sj v24_0 c24_0]) := by unfold S24_4; rw [hE c24_4]; kernel_rfl
theorem T24_5b (hE : FX x24 D m E) (G5) (G3) (G1) : S24_5b D m (e24_5 G5) (e24_3 G3) (e24_1 G1) = e24_5 (E c24_5b [.lp v24_5 G5, .blk 4, .blk 3, .sj v24_4 c24_4, .lp v24_3 G3, .blk 2, .blk 1, .sj v24_2 c24_2, .lp v24_1 G1, .blk 0, .sj v24_0 c24_0]) := by unfold S24_5b; rw [T24_4 hE G3 G1, hE c24_5b]; kernel_rfl
theorem T24_5 (hE : FX x24 D m E) (G3) (G1) : S24_5 D m (e24_3 G3) (e24_1 G1) = e24_5 (nrec (fun _ => none) (fun _ G5 st => E c24_5b [.lp v24_5 G5, .blk 4, .blk 3, .sj v24_4 c24_4, .lp v24_3 G3, .blk 2, .blk 1, .sj v24_2 c24_2, .lp v24_1 G1, .blk 0, .sj v24_0 c24_0] st) m) :=
  nrec_emb e24_5 (fun _ _ _ _ _ _ _ _ _ _ _ => none) (fun g => S24_5b D m g (e24_3 G3) (e24_1 G1)) (fun G5 st => E c24_5b [.lp v24_5 G5, .blk 4, .blk 3, .sj v24_4 c24_4, .lp v24_3 G3, .blk 2, .blk 1, .sj v24_2 c24_2, .lp v24_1 G1, .blk 0, .sj v24_0 c24_0] st) rfl (fun g => T24_5b hE g G3 G1) m
theorem T24_3b (hE : FX x24 D m E) (G3) (G1) : S24_3b D m (e24_3 G3) (e24_1 G1) = e24_3 (E c24_3b [.lp v24_3 G3, .blk 2, .blk 1, .sj v24_2 c24_2, .lp v24_1 G1, .blk 0, .sj v24_0 c24_0]) := by unfold S24_3b; rw [T24_4 hE G3 G1, T24_5 hE G3 G1, T24_2 hE G1, hE c24_3b]; kernel_rfl
theorem T24_3 (hE : FX x24 D m E) (G1) : S24_3 D m (e24_1 G1) = e24_3 (nrec (fun _ => none) (fun _ G3 st => E c24_3b [.lp v24_3 G3, .blk 2, .blk 1, .sj v24_2 c24_2, .lp v24_1 G1, .blk 0, .sj v24_0 c24_0] st) m) :=
  nrec_emb e24_3 (fun _ _ _ _ _ _ _ _ => none) (fun g => S24_3b D m g (e24_1 G1)) (fun G3 st => E c24_3b [.lp v24_3 G3, .blk 2, .blk 1, .sj v24_2 c24_2, .lp v24_1 G1, .blk 0, .sj v24_0 c24_0] st) rfl (fun g => T24_3b hE g G1) m
theorem T24_1b (hE : FX x24 D m E) (G1) : S24_1b D m (e24_1 G1) = e24_1 (E c24_1b [.lp v24_1 G1, .blk 0, .sj v24_0 c24_0]) := by unfold S24_1b; rw [T24_3 hE G1, T24_0 hE, hE c24_1b]; kernel_rfl
theorem T24_1 (hE : FX x24 D m E) : S24_1 D m = e24_1 (nrec (fun _ => none) (fun _ G1 st => E c24_1b [.lp v24_1 G1, .blk 0, .sj v24_0 c24_0] st) m) :=
  nrec_emb e24_1 (fun _ _ _ _ _ _ => none) (fun g => S24_1b D m g) (fun G1 st => E c24_1b [.lp v24_1 G1, .blk 0, .sj v24_0 c24_0] st) rfl (fun g => T24_1b hE g) m
theorem T24_6 (hE : FX x24 D m E) : S24_6 D m = e24_6 (E c24_e []) := by unfold S24_6; rw [T24_1 hE, hE c24_e]; kernel_rfl
theorem X24 : XTie S24 x24 := X_of fun D m E hE args h u => by unfold S24; rw [T24_6 hE]; kernel_rfl
/- 26 -/
def v26_2 : List Pos := [p7, p14]
def c26_2 : XC := (.sO [.L p242 (.cells 8 q7) .v, .ss 8 q14 q242, .mv p15 (.c (.int .u32 (.ofNat 0))) tW, .mv p16 (.c (.int .u64 (.ofNat 0))) (.i .u64)] (.s .ret))
def v26_4 : List Pos := [p2, p3, p6, p7, p8, p14, p17, p19, p21]
def c26_4 : XC := (.s (.oX [.fa p189 6 q7, .ld p190 q189 tI, .bn p191 .add q190 (ci 1) tI, .fa p192 6 q7, .st q192 q191]))
def v26_5 : List Pos := [p2, p3, p6, p7, p8, p14, p17, p19, p21, p22, p232]
def c26_5 : XC := (.cond q232 (.s (.oX [.L p237 (.cells 8 q7) .v, .L p238 (.cells 9 q22) .v, .L p239 (.cells 2 q17) .v, .mv p240 q6 tI, .cl p241 58 [q237, q238, q239, q240] .v, .ss 8 q7 q241])) (.sO [.L p112 (.cells 9 q22) .v, .L p113 (.cells 2 q17) .v, .cl p114 59 [q112, q113] .v] (.s (.oX [.fa p115 6 q7, .ld p116 q115 tI, .bn p117 .add q116 (ci 1) tI, .fa p118 6 q7, .st q118 q117]))))
def v26_3 : List Pos := [p2, p3, p6, p7, p8, p14, p17, p19, p21]
def c26_3b : XC := (.seq (.seq (.oX [.fa p93 7 q7, .ld p94 q93 tI, .bn p95 .lss q94 (ci 0) .b]) (.cond q95 .skip (.exit 4))) (.block 5 (.seq (.seq (.oX [.fa p96 6 q7, .ld p97 q96 tI, .fa p98 5 q7, .ld p99 q98 tI, .bn p100 .geq q97 q99 .b]) (.cond q100 (.seq (.oX [.L p101 (.cells 8 q7) .v, .cl p102 25 [q101, (ci 0)] .v, .ss 8 q14 q102, .mv p15 (.c (.int .u32 (.ofNat 0))) tW, .mv p16 (.c (.int .u64 (.ofNat 0))) (.i .u64)]) .ret) .skip)) (.sO [.fa p103 5 q8, .ld p104 q103 .v, .mv p105 q21 tI, .P p106 (.iaddr (.sl 9) q104 q105) .v, .L p107 (.cells 9 q106) .v, .al p22 (.new [(kI 0), (kI 0), (kI 0), (kI 0), (.int .u32 (.ofNat 0)), (.int .u64 (.ofNat 0)), (.str []), .nils, (kI 0)]), .ss 9 q22 q107] (.sO [.mv p108 q21 tI, .bn p109 .add q108 (ci 1) tI, .mv p21 q109 tI] (.sO [.fa p110 0 q22, .ld p111 q110 tI] (.block 6 (.sO [.bn p120 .eql q111 (ci 17) .b, .mv p119 q120 .b] (.cond q119 (.seq (.seq (.oX [.fa p121 2 q22, .ld p122 q121 tI, .bn p123 .geq q122 (ci 0) .b, .mv p124 q123 .b, .ge p124 (XL.of [.G p124 true p125 (.mov q3) tI, .G p124 true p126 (.bin .neq q125 (ci 0)) .b, .P p127 (.pick q124 q126 (cb false)) .b]) p127 .b, .mv p128 q127 .b, .ge p128 (XL.of [.G p128 true p129 (.faddr 3 q8) .v, .o ⟨(some p130), (.l (.cell q129)), (some (p128, true)), []⟩ .v, .G p128 true p131 (.faddr 2 q22) .v, .o ⟨(some p132), (.l (.cell q131)), (some (p128, true)), []⟩ tI, .G p128 true p133 (.iaddr (.sl 1) q130 q132) .v, .o ⟨(some p134), (.l (.cell q133)), (some (p128, true)), []⟩ tI, .G p128 true p135 (.mov q3) tI, .G p128 true p136 (.bin .neq q134 q135) .b, .P p137 (.pick q128 q136 (cb false)) .b]) p137 .b]) (.cond q137 (.seq (.oX [.L p138 (.cells 8 q7) .v, .cl p139 25 [q138, (ci 2)] .v, .ss 8 q14 q139, .mv p15 (.c (.int .u32 (.ofNat 0))) tW, .mv p16 (.c (.int .u64 (.ofNat 0))) (.i .u64)]) .ret) .skip)) (.sO [.fa p140 6 q7, .ld p141 q140 tI, .bn p142 .add q141 (ci 1) tI, .fa p143 6 q7, .st q143 q142] (.seq (.seq (.oX [.fa p144 2 q22, .ld p145 q144 tI, .bn p146 .lss q145 (ci 0) .b]) (.cond q146 (.seq (.oX [.L p147 (.cells 8 q7) .v, .ss 8 q14 q147, .mv p15 (.c (.int .u32 (.ofNat 0))) tW, .mv p16 (.c (.int .u64 (.ofNat 0))) (.i .u64)]) .ret) .skip)) (.seq (.ops true (XL.of [.L p148 (.cells 8 q7) .v, .fa p149 0 q17, .ld p150 q149 .v, .fa p151 2 q22, .ld p152 q151 tI, .P p153 (.iaddr (.sl 1) q150 q152) .v, .ld p154 q153 tW, .fa p155 1 q17, .ld p156 q155 .v, .fa p157 2 q22, .ld p158 q157 tI, .P p159 (.iaddr (.sl 1) q156 q158) .v, .ld p160 q159 (.i .u64), .o ⟨none, (.e (.stores 8 q14 q148)), none, [⟨none, .cell q149, p150⟩, ⟨none, .cell q151, p152⟩, ⟨none, .cell q153, p154⟩, ⟨none, .cell q155, p156⟩, ⟨none, .cell q157, p158⟩, ⟨none, .cell q159, p160⟩]⟩ .v, .mv p15 q154 tW, .mv p16 q160 (.i .u64)])) (.s .ret))))) (.sO [.bn p162 .eql q111 (ci 16) .b, .mv p161 q162 .b] (.cond q161 (.s (.oX [.L p163 (.cells 8 q7) .v, .L p164 (.cells 6 q8) .v, .mv p165 q2 tI, .L p166 (.cells 9 q22) .v, .L p167 (.cells 2 q17) .v, .mv p168 q6 tI, .cl p169 57 [q163, q164, q165, q166, q167, q168] .v, .ss 8 q7 q169])) (.sO [.bn p171 .eql q111 (ci 18) .b, .mv p170 q171 .b] (.cond q170 (.sO [.fa p172 8 q22, .ld p173 q172 tI, .mv p21 q173 tI] (.s (.oX [.fa p174 6 q7, .ld p175 q174 tI, .bn p176 .add q175 (ci 1) tI, .fa p177 6 q7, .st q177 q176]))) (.sO [.bn p179 .eql q111 (ci 19) .b, .mv p178 q179 .b] (.cond q178 (.sj v26_4 (.sO [.fa p180 0 q17, .ld p181 q180 .v, .fa p182 2 q22, .ld p183 q182 tI, .P p184 (.iaddr (.sl 1) q181 q183) .v, .ld p185 q184 tW, .bn p186 .neq q185 (.c (.int .u32 (.ofNat 0))) .b] (.cond q186 (.s (.oX [.fa p187 8 q22, .ld p188 q187 tI, .mv p21 q188 tI])) (.s .skip))) c26_4) (.sO [.bn p194 .eql q111 (ci 10) .b, .mv p193 q194 .b] (.cond q193 (.sO [.L p195 (.cells 8 q7) .v, .mv p196 q2 tI, .fa p197 6 q22, .ld p198 q197 .s, .cl p199 55 [q195, q196, q198] tI, .mv p23 q199 tI] (.seq (.seq (.oX [.mv p200 q23 tI, .bn p201 .eql q200 (ci 0) .b]) (.cond q201 (.seq (.oX [.L p202 (.cells 8 q7) .v, .cl p203 25 [q202, (ci 2)] .v, .ss 8 q14 q203, .mv p15 (.c (.int .u32 (.ofNat 0))) tW, .mv p16 (.c (.int .u64 (.ofNat 0))) (.i .u64)]) .ret) .skip)) (.sO [.fa p204 0 q17, .ld p205 q204 .v, .fa p206 1 q22, .ld p207 q206 tI, .mv p208 q23 tI, .P p209 (.conv (.ii .u32) q208) tW, .P p210 (.iaddr (.sl 1) q205 q207) .v, .st q210 q209] (.s (.oX [.fa p211 6 q7, .ld p212 q211 tI, .bn p213 .add q212 (ci 1) tI, .fa p214 6 q7, .st q214 q213]))))) (.sO [.bn p216 .eql q111 (ci 11) .b, .mv p215 q216 .b] (.cond q215 (.seq (.ops true (XL.of [.fa p217 0 q17, .ld p218 q217 .v, .fa p219 1 q22, .ld p220 q219 tI, .mv p221 q19 .v, .fa p222 4 q22, .ld p223 q222 tW, .P p224 (.iaddr (.sl 1) q221 q223) .v, .ld p225 q224 tI, .P p226 (.conv (.ii .u32) q225) tW, .P p227 (.iaddr (.sl 1) q218 q220) .v, .st q227 q226])) (.s (.oX [.fa p228 6 q7, .ld p229 q228 tI, .bn p230 .add q229 (ci 1) tI, .fa p231 6 q7, .st q231 q230]))) (.sj v26_5 (.sO [.bn p233 .eql q111 (ci 12) .b, .mv p232 q233 .b] (.cond q232 (.s .skip) (.sO [.bn p234 .eql q111 (ci 13) .b, .mv p232 q234 .b] (.cond q232 (.s .skip) (.sO [.bn p235 .eql q111 (ci 14) .b, .mv p232 q235 .b] (.cond q232 (.s .skip) (.s (.oX [.bn p236 .eql q111 (ci 15) .b, .mv p232 q236 .b])))))))) c26_5))))))))))))))))))))
def v26_1 : List Pos := [p2, p3, p6, p7, p8, p14, p17, p19]
def c26_1 : XC := (.sO [.L p90 (.cells 8 q7) .v, .mv p91 q6 tI, .cl p92 54 [q90, q91] .v, .ss 8 q7 q92] (.sO [.mv p21 (ci 0) tI] (.sj v26_2 (.block 4 (.loop v26_3 c26_3b)) c26_2)))
def v26_6 : List Pos := [p2, p3, p6, p7, p8, p14, p17, p19, p74, p75]
def c26_6b : XC := (.sO [.bn p76 .lss q75 q74 .b] (.seq (.cond q76 .skip (.exit 2)) (.seq (.block 3 (.seq (.oX [.mv p77 q75 tI, .mv p20 q77 tI]) (.seq (.oX [.mv p78 q19 .v, .mv p79 q6 tI, .al p80 (.bsl [(kI 0)] 1 [⟨0, 1, q79⟩]), .o ⟨(some p81), (.e (.app 1 8 q78 q80)), none, []⟩ .v, .mv p19 q81 .v]) (.oX [.mv p82 q6 tI, .fa p83 4 q8, .ld p84 q83 .v, .mv p85 q20 tI, .P p86 (.iaddr (.sl 1) q84 q85) .v, .ld p87 q86 tI, .bn p88 .add q82 q87 tI, .mv p6 q88 tI])))) (.s (.oX [.bn p89 .add q75 (ci 1) tI, .mv p75 q89 tI])))))
def v26_0 : List Pos := [p2, p3, p6, p7, p8, p14, p17]
def c26_0 : XC := (.sO [.mv p19 (.c .nils) .v] (.sj v26_1 (.sO [.fa p72 4 q8, .ld p73 q72 .v, .P p74 (.lenl q73) tI, .mv p75 (ci 0) tI] (.block 2 (.loop v26_6 c26_6b))) c26_1))
def v26_7 : List Pos := [p2, p3, p5, p6, p7, p8, p11, p14, p17, p35, p36]
def c26_7b : XC := (.sO [.bn p37 .lss q36 q35 .b] (.seq (.cond q37 .skip (.exit 0)) (.seq (.block 1 (.seq (.oX [.mv p38 q36 tI, .mv p18 q38 tI]) (.seq (.ops true (XL.of [.fa p39 0 q17, .ld p40 q39 .v, .fa p41 2 q8, .ld p42 q41 .v, .mv p43 q18 tI, .P p44 (.iaddr (.sl 1) q42 q43) .v, .ld p45 q44 tI, .fa p46 0 q11, .ld p47 q46 .v, .mv p48 q5 .v, .mv p49 q18 tI, .P p50 (.iaddr (.sl 1) q48 q49) .v, .ld p51 q50 tI, .P p52 (.iaddr (.sl 1) q47 q51) .v, .ld p53 q52 tW, .P p54 (.iaddr (.sl 1) q40 q45) .v, .st q54 q53])) (.ops true (XL.of [.fa p55 1 q17, .ld p56 q55 .v, .fa p57 2 q8, .ld p58 q57 .v, .mv p59 q18 tI, .P p60 (.iaddr (.sl 1) q58 q59) .v, .ld p61 q60 tI, .fa p62 1 q11, .ld p63 q62 .v, .mv p64 q5 .v, .mv p65 q18 tI, .P p66 (.iaddr (.sl 1) q64 q65) .v, .ld p67 q66 tI, .P p68 (.iaddr (.sl 1) q63 q67) .v, .ld p69 q68 (.i .u64), .P p70 (.iaddr (.sl 1) q56 q61) .v, .st q70 q69]))))) (.s (.oX [.bn p71 .add q36 (ci 1) tI, .mv p36 q71 tI])))))
def c26_e : XC := (.sO [.al p7 (.box q0), .al p8 (.box q1), .al p11 (.box q4), .al p14 (.new [.nils, .nils, .nils, .nils, .nils, (kI 0), (kI 0), (kI 0)]), .mv p15 (.c (.int .u32 (.ofNat 0))) tW, .mv p16 (.c (.int .u64 (.ofNat 0))) (.i .u64)] (.seq (.ops true (XL.of [.fa p24 3 q8, .ld p25 q24 .v, .P p26 (.lenl q25) tI, .al p27 (.mksl [(.int .u32 (.ofNat 0))] 4 q26 q26), .fa p28 3 q8, .ld p29 q28 .v, .P p30 (.lenl q29) tI, .al p31 (.mksl [(.int .u64 (.ofNat 0))] 8 q30 q30), .P p32 (.build [.nils, .nils] [⟨0, 1, q27⟩, ⟨1, 1, q31⟩]) .v, .al p17 (.new [.nils, .nils]), .ss 2 q17 q32])) (.sj v26_0 (.sO [.fa p33 2 q8, .ld p34 q33 .v, .P p35 (.lenl q34) tI, .mv p36 (ci 0) tI] (.block 0 (.loop v26_7 c26_7b))) c26_0)))
def x26 : XFn := ⟨[.v, .v, tI, tI, .v, .v, tI], false, [(.cells 8 p14), (.tmp p15), (.tmp p16)], c26_e⟩
def e26_2 (k t7 t14 h) := kN k [(p7, t7), (p14, t14)] h
def S26_2 (D : CallD) (m : Nat) (t7 t14 : AV) (h : HP) : Res2 :=
 cellsC 8 t7 h fun t242 =>
 stsC 8 t14 t242 h fun h21 =>
 cellsC 8 t14 h21 fun t14a =>
 some (.ret (.tup [t14a, (vW (Int.ofNat 0)), (AV.int .u64 (Int.ofNat 0))]) h21, .no)
def e26_4 (k t2 t3 t6 t7 t8 t14 t17 t19 t21 h) := kN k [(p2, (vI t2)), (p3, (vI t3)), (p6, (vI t6)), (p7, t7), (p8, t8), (p14, t14), (p17, t17), (p19, t19), (p21, (vI t21))] h
def S26_4 (D : CallD) (m : Nat) (g3 : Int → Int → Int → AV → AV → AV → AV → AV → Int → HP → Res2) (t2 t3 t6 : Int) (t7 t8 t14 t17 t19 : AV) (t21 : Int) (h : HP) : Res2 :=
 faC 6 t7 fun t189 =>
 ldI t189 h fun t190 =>
 let t191 := wrQ .i64 (addQ t190 (Int.ofNat 1))
 faC 6 t7 fun t192 =>
 stoC t192 (vI t191) h fun h34 =>
 g3 t2 t3 t6 t7 t8 t14 t17 t19 t21 h34
def e26_5 (k t2 t3 t6 t7 t8 t14 t17 t19 t21 t22 t232 h) := kN k [(p2, (vI t2)), (p3, (vI t3)), (p6, (vI t6)), (p7, t7), (p8, t8), (p14, t14), (p17, t17), (p19, t19), (p21, (vI t21)), (p22, t22), (p232, (vB t232))] h
def S26_5 (D : CallD) (m : Nat) (g3 : Int → Int → Int → AV → AV → AV → AV → AV → Int → HP → Res2) (t2 t3 t6 : Int) (t7 t8 t14 t17 t19 : AV) (t21 : Int) (t22 : AV) (t232 : Bool) (h : HP) : Res2 :=
 br t232 (
 cellsC 8 t7 h fun t237 =>
 cellsC 9 t22 h fun t238 =>
 cellsC 2 t17 h fun t239 =>
 cal D 58 [t237, t238, t239, (vI t6)] h fun t241 h42 =>
 stsC 8 t7 t241 h42 fun h43 =>
 g3 t2 t3 t6 t7 t8 t14 t17 t19 t21 h43) (
 cellsC 9 t22 h fun t112 =>
 cellsC 2 t17 h fun t113 =>
 cal D 59 [t112, t113] h fun t114 h44 =>
 faC 6 t7 fun t115 =>
 ldI t115 h44 fun t116 =>
 let t117 := wrQ .i64 (addQ t116 (Int.ofNat 1))
 faC 6 t7 fun t118 =>
 stoC t118 (vI t117) h44 fun h45 =>
 g3 t2 t3 t6 t7 t8 t14 t17 t19 t21 h45)
def e26_3 (k t2 t3 t6 t7 t8 t14 t17 t19 t21 h) := kN k [(p2, (vI t2)), (p3, (vI t3)), (p6, (vI t6)), (p7, t7), (p8, t8), (p14, t14), (p17, t17), (p19, t19), (p21, (vI t21))] h
def S26_3b (D : CallD) (m : Nat) (g3 : Int → Int → Int → AV → AV → AV → AV → AV → Int → HP → Res2) (t2 t3 t6 : Int) (t7 t8 t14 t17 t19 : AV) (t21 : Int) (h : HP) : Res2 :=
 faC 7 t7 fun t93 =>
 ldI t93 h fun t94 =>
 let t95 := ltQ t94 (Int.ofNat 0)
 br t95 (
 faC 6 t7 fun t96 =>
 ldI t96 h fun t97 =>
 faC 5 t7 fun t98 =>
 ldI t98 h fun t99 =>
 let t100 := leQ t99 t97
 br t100 (
 cellsC 8 t7 h fun t101 =>
 cal D 25 [t101, (vI (Int.ofNat 0))] h fun t102 h22 =>
 stsC 8 t14 t102 h22 fun h23 =>
 cellsC 8 t14 h23 fun t14a =>
 some (.ret (.tup [t14a, (vW (Int.ofNat 0)), (AV.int .u64 (Int.ofNat 0))]) h23, .no)) (
 faC 5 t8 fun t103 =>
 cellC t103 h fun t104 =>
 iasC 9 t104 (vI t21) fun t106 =>
 cellsC 9 t106 h fun t107 =>
 let t22 := AV.ptr (HP.nxQ h) 0
 let h24 := HP.newQ h (.cells true [(kI 0), (kI 0), (kI 0), (kI 0), (.int .u32 (.ofNat 0)), (.int .u64 (.ofNat 0)), (.str []), .nils, (kI 0)])
 stsC 9 t22 t107 h24 fun h25 =>
 let t109 := wrQ .i64 (addQ t21 (Int.ofNat 1))
 let t110 := (AV.ptr (HP.nxQ h) (Nat.add 0 0))
 ldI t110 h25 fun t111 =>
 let t120 := eqQ t111 (Int.ofNat 17)
 br t120 (
 let t121 := (AV.ptr (HP.nxQ h) (Nat.add 0 2))
 ldI t121 h25 fun t122 =>
 let t123 := leQ (Int.ofNat 0) t122
 obB (brV t123 (
 let t126 := notQ (eqQ t3 (Int.ofNat 0))
 some (vB t126)) (
 some (vB false))) fun t127 =>
 obB (brV t127 (
 faCV 3 t8 fun t129 =>
 cellCV t129 h25 fun t130 =>
 let t131 := (AV.ptr (HP.nxQ h) (Nat.add 0 2))
 ldIV t131 h25 fun t132 =>
 iasCV 1 t130 (vI t132) fun t133 =>
 ldIV t133 h25 fun t134 =>
 let t136 := notQ (eqQ t134 t3)
 some (vB t136)) (
 some (vB false))) fun t137 =>
 br t137 (
 cellsC 8 t7 h25 fun t138 =>
 cal D 25 [t138, (vI (Int.ofNat 2))] h25 fun t139 h26 =>
 stsC 8 t14 t139 h26 fun h27 =>
 cellsC 8 t14 h27 fun t14a =>
 some (.ret (.tup [t14a, (vW (Int.ofNat 0)), (AV.int .u64 (Int.ofNat 0))]) h27, .no)) (
 faC 6 t7 fun t140 =>
 ldI t140 h25 fun t141 =>
 let t142 := wrQ .i64 (addQ t141 (Int.ofNat 1))
 faC 6 t7 fun t143 =>
 stoC t143 (vI t142) h25 fun h28 =>
 let t144 := (AV.ptr (HP.nxQ h) (Nat.add 0 2))
 ldI t144 h28 fun t145 =>
 let t146 := ltQ t145 (Int.ofNat 0)
 br t146 (
 cellsC 8 t7 h28 fun t147 =>
 stsC 8 t14 t147 h28 fun h29 =>
 cellsC 8 t14 h29 fun t14a =>
 some (.ret (.tup [t14a, (vW (Int.ofNat 0)), (AV.int .u64 (Int.ofNat 0))]) h29, .no)) (
 cellsC 8 t7 h28 fun t148 =>
 faC 0 t17 fun t149 =>
 cellC t149 h28 fun t150 =>
 let t151 := (AV.ptr (HP.nxQ h) (Nat.add 0 2))
 ldI t151 h28 fun t152 =>
 iasC 1 t150 (vI t152) fun t153 =>
 ldW t153 h28 fun t154 =>
 faC 1 t17 fun t155 =>
 cellC t155 h28 fun t156 =>
 let t157 := (AV.ptr (HP.nxQ h) (Nat.add 0 2))
 ldI t157 h28 fun t158 =>
 iasC 1 t156 (vI t158) fun t159 =>
 cellC t159 h28 fun vt160 => asI .u64 vt160 fun t160 =>
 stsC 8 t14 t148 h28 fun h30 =>
 br (againE (.stores 8 q14 q148) [⟨none, .cell q149, p150⟩, ⟨none, .cell q151, p152⟩, ⟨none, .cell q153, p154⟩, ⟨none, .cell q155, p156⟩, ⟨none, .cell q157, p158⟩, ⟨none, .cell q159, p160⟩] (mkT [(p14, t14), (p160, (AV.int .u64 t160)), (p159, t159), (p158, (vI t158)), (p157, t157), (p156, t156), (p155, t155), (p154, (vW t154)), (p153, t153), (p152, (vI t152)), (p151, t151), (p150, t150), (p149, t149)]) h30) (
 cellsC 8 t14 h30 fun t14a =>
 some (.ret (.tup [t14a, (vW t154), (AV.int .u64 t160)]) h30, .no)) none))) (
 let t162 := eqQ t111 (Int.ofNat 16)
 br t162 (
 cellsC 8 t7 h25 fun t163 =>
 cellsC 6 t8 h25 fun t164 =>
 cellsC 9 t22 h25 fun t166 =>
 cellsC 2 t17 h25 fun t167 =>
 cal D 57 [t163, t164, (vI t2), t166, t167, (vI t6)] h25 fun t169 h31 =>
 stsC 8 t7 t169 h31 fun h32 =>
 g3 t2 t3 t6 t7 t8 t14 t17 t19 t109 h32) (
 let t171 := eqQ t111 (Int.ofNat 18)
 br t171 (
 let t172 := (AV.ptr (HP.nxQ h) (Nat.add 0 8))
 ldI t172 h25 fun t173 =>
 faC 6 t7 fun t174 =>
 ldI t174 h25 fun t175 =>
 let t176 := wrQ .i64 (addQ t175 (Int.ofNat 1))
 faC 6 t7 fun t177 =>
 stoC t177 (vI t176) h25 fun h33 =>
 g3 t2 t3 t6 t7 t8 t14 t17 t19 t173 h33) (
 let t179 := eqQ t111 (Int.ofNat 19)
 br t179 (
 faC 0 t17 fun t180 =>
 cellC t180 h25 fun t181 =>
 let t182 := (AV.ptr (HP.nxQ h) (Nat.add 0 2))
 ldI t182 h25 fun t183 =>
 iasC 1 t181 (vI t183) fun t184 =>
 ldW t184 h25 fun t185 =>
 binC .neq (vW t185) (vW (Int.ofNat 0)) fun vt186 => asB vt186 fun t186 =>
 br t186 (
 let t187 := (AV.ptr (HP.nxQ h) (Nat.add 0 8))
 ldI t187 h25 fun t188 =>
 S26_4 D m g3 t2 t3 t6 t7 t8 t14 t17 t19 t188 h25) (
 S26_4 D m g3 t2 t3 t6 t7 t8 t14 t17 t19 t109 h25)) (
 let t194 := eqQ t111 (Int.ofNat 10)
 br t194 (
 cellsC 8 t7 h25 fun t195 =>
 let t197 := (AV.ptr (HP.nxQ h) (Nat.add 0 6))
 ldS t197 h25 fun t198 =>
 cal D 55 [t195, (vI t2), (vS t198)] h25 fun t199 h35 =>
 asI .i64 t199 fun t199a =>
 let t201 := eqQ t199a (Int.ofNat 0)
 br t201 (
 cellsC 8 t7 h35 fun t202 =>
 cal D 25 [t202, (vI (Int.ofNat 2))] h35 fun t203 h36 =>
 stsC 8 t14 t203 h36 fun h37 =>
 cellsC 8 t14 h37 fun t14a =>
 some (.ret (.tup [t14a, (vW (Int.ofNat 0)), (AV.int .u64 (Int.ofNat 0))]) h37, .no)) (
 faC 0 t17 fun t204 =>
 cellC t204 h35 fun t205 =>
 let t206 := (AV.ptr (HP.nxQ h) (Nat.add 0 1))
 ldI t206 h35 fun t207 =>
 let t209 := wrapF .u32 t199a
 iasC 1 t205 (vI t207) fun t210 =>
 stoC t210 (vW t209) h35 fun h38 =>
 faC 6 t7 fun t211 =>
 ldI t211 h38 fun t212 =>
 let t213 := wrQ .i64 (addQ t212 (Int.ofNat 1))
 faC 6 t7 fun t214 =>
 stoC t214 (vI t213) h38 fun h39 =>
 g3 t2 t3 t6 t7 t8 t14 t17 t19 t109 h39)) (
 let t216 := eqQ t111 (Int.ofNat 11)
 br t216 (
 faC 0 t17 fun t217 =>
 cellC t217 h25 fun t218 =>
 let t219 := (AV.ptr (HP.nxQ h) (Nat.add 0 1))
 ldI t219 h25 fun t220 =>
 let t222 := (AV.ptr (HP.nxQ h) (Nat.add 0 4))
 ldW t222 h25 fun t223 =>
 iasC 1 t19 (vW t223) fun t224 =>
 ldI t224 h25 fun t225 =>
 let t226 := wrapF .u32 t225
 iasC 1 t218 (vI t220) fun t227 =>
 stoC t227 (vW t226) h25 fun h40 =>
 faC 6 t7 fun t228 =>
 ldI t228 h40 fun t229 =>
 let t230 := wrQ .i64 (addQ t229 (Int.ofNat 1))
 faC 6 t7 fun t231 =>
 stoC t231 (vI t230) h40 fun h41 =>
 g3 t2 t3 t6 t7 t8 t14 t17 t19 t109 h41) (
 let t233 := eqQ t111 (Int.ofNat 12)
 br t233 (
 S26_5 D m g3 t2 t3 t6 t7 t8 t14 t17 t19 t109 t22 t233 h25) (
 let t234 := eqQ t111 (Int.ofNat 13)
 br t234 (
 S26_5 D m g3 t2 t3 t6 t7 t8 t14 t17 t19 t109 t22 t234 h25) (
 let t235 := eqQ t111 (Int.ofNat 14)
 br t235 (
 S26_5 D m g3 t2 t3 t6 t7 t8 t14 t17 t19 t109 t22 t235 h25) (
 let t236 := eqQ t111 (Int.ofNat 15)
 S26_5 D m g3 t2 t3 t6 t7 t8 t14 t17 t19 t109 t22 t236 h25))))))))))) (
 S26_2 D m t7 t14 h)
def S26_3 (D : CallD) (m : Nat) : Int → Int → Int → AV → AV → AV → AV → AV → Int → HP → Res2 := nrec (fun _ _ _ _ _ _ _ _ _ _ => none) (fun _ g => S26_3b D m g) m
def e26_1 (k t2 t3 t6 t7 t8 t14 t17 t19 h) := kN k [(p2, (vI t2)), (p3, (vI t3)), (p6, (vI t6)), (p7, t7), (p8, t8), (p14, t14), (p17, t17), (p19, t19)] h
def S26_1 (D : CallD) (m : Nat) (t2 t3 t6 : Int) (t7 t8 t14 t17 t19 : AV) (h : HP) : Res2 :=
 cellsC 8 t7 h fun t90 =>
 cal D 54 [t90, (vI t6)] h fun t92 h19 =>
 stsC 8 t7 t92 h19 fun h20 =>
 S26_3 D m t2 t3 t6 t7 t8 t14 t17 t19 (Int.ofNat 0) h20
def e26_6 (k t2 t3 t6 t7 t8 t14 t17 t19 t74 t75 h) := kN k [(p2, (vI t2)), (p3, (vI t3)), (p6, (vI t6)), (p7, t7), (p8, t8), (p14, t14), (p17, t17), (p19, t19), (p74, (vI t74)), (p75, (vI t75))] h
def S26_6b (D : CallD) (m : Nat) (g6 : Int → Int → Int → AV → AV → AV → AV → AV → Int → Int → HP → Res2) (t2 t3 t6 : Int) (t7 t8 t14 t17 t19 : AV) (t74 t75 : Int) (h : HP) : Res2 :=
 let t76 := ltQ t75 t74
 br t76 (
 let t80 := AV.slice (HP.nxQ h) 0 1 (.exact 1)
 let h46 := HP.newQ h (.cells true [(vI t6)])
 eff (.app 1 8 (.c t19) (.c t80)) h46 fun t81 h47 =>
 faC 4 t8 fun t83 =>
 cellC t83 h47 fun t84 =>
 iasC 1 t84 (vI t75) fun t86 =>
 ldI t86 h47 fun t87 =>
 let t88 := wrQ .i64 (addQ t6 t87)
 let t89 := wrQ .i64 (addQ t75 (Int.ofNat 1))
 g6 t2 t3 t88 t7 t8 t14 t17 t81 t74 t89 h47) (
 S26_1 D m t2 t3 t6 t7 t8 t14 t17 t19 h)
def S26_6 (D : CallD) (m : Nat) : Int → Int → Int → AV → AV → AV → AV → AV → Int → Int → HP → Res2 := nrec (fun _ _ _ _ _ _ _ _ _ _ _ => none) (fun _ g => S26_6b D m g) m
def e26_0 (k t2 t3 t6 t7 t8 t14 t17 h) := kN k [(p2, (vI t2)), (p3, (vI t3)), (p6, (vI t6)), (p7, t7), (p8, t8), (p14, t14), (p17, t17)] h
def S26_0 (D : CallD) (m : Nat) (t2 t3 t6 : Int) (t7 t8 t14 t17 : AV) (h : HP) : Res2 :=
 faC 4 t8 fun t72 =>
 cellC t72 h fun t73 =>
 lenC t73 fun vt74 => asI .i64 vt74 fun t74 =>
 S26_6 D m t2 t3 t6 t7 t8 t14 t17 (.nils : AV) t74 (Int.ofNat 0) h
def e26_7 (k t2 t3 t5 t6 t7 t8 t11 t14 t17 t35 t36 h) := kN k [(p2, (vI t2)), (p3, (vI t3)), (p5, t5), (p6, (vI t6)), (p7, t7), (p8, t8), (p11, t11), (p14, t14), (p17, t17), (p35, (vI t35)), (p36, (vI t36))] h
def S26_7b (D : CallD) (m : Nat) (g7 : Int → Int → AV → Int → AV → AV → AV → AV → AV → Int → Int → HP → Res2) (t2 t3 : Int) (t5 : AV) (t6 : Int) (t7 t8 t11 t14 t17 : AV) (t35 t36 : Int) (h : HP) : Res2 :=
 let t37 := ltQ t36 t35
 br t37 (
 faC 0 t17 fun t39 =>
 cellC t39 h fun t40 =>
 faC 2 t8 fun t41 =>
 cellC t41 h fun t42 =>
 iasC 1 t42 (vI t36) fun t44 =>
 ldI t44 h fun t45 =>
 faC 0 t11 fun t46 =>
 cellC t46 h fun t47 =>
 iasC 1 t5 (vI t36) fun t50 =>
 ldI t50 h fun t51 =>
 iasC 1 t47 (vI t51) fun t52 =>
 ldW t52 h fun t53 =>
 iasC 1 t40 (vI t45) fun t54 =>
 stoC t54 (vW t53) h fun h48 =>
 faC 1 t17 fun t55 =>
 cellC t55 h48 fun t56 =>
 faC 2 t8 fun t57 =>
 cellC t57 h48 fun t58 =>
 iasC 1 t58 (vI t36) fun t60 =>
 ldI t60 h48 fun t61 =>
 faC 1 t11 fun t62 =>
 cellC t62 h48 fun t63 =>
 iasC 1 t5 (vI t36) fun t66 =>
 ldI t66 h48 fun t67 =>
 iasC 1 t63 (vI t67) fun t68 =>
 cellC t68 h48 fun vt69 => asI .u64 vt69 fun t69 =>
 iasC 1 t56 (vI t61) fun t70 =>
 stoC t70 (AV.int .u64 t69) h48 fun h49 =>
 let t71 := wrQ .i64 (addQ t36 (Int.ofNat 1))
 g7 t2 t3 t5 t6 t7 t8 t11 t14 t17 t35 t71 h49) (
 S26_0 D m t2 t3 t6 t7 t8 t14 t17 h)
def S26_7 (D : CallD) (m : Nat) : Int → Int → AV → Int → AV → AV → AV → AV → AV → Int → Int → HP → Res2 := nrec (fun _ _ _ _ _ _ _ _ _ _ _ _ => none) (fun _ g => S26_7b D m g) m
def e26_8 (k t0 t1 t2 t3 t4 t5 t6 h) := kN k [(p0, t0), (p1, t1), (p2, (vI t2)), (p3, (vI t3)), (p4, t4), (p5, t5), (p6, (vI t6))] h
def S26_8 (D : CallD) (m : Nat) (t0 t1 : AV) (t2 t3 : Int) (t4 t5 : AV) (t6 : Int) (h : HP) : Res2 :=
 let t7 := AV.ptr (HP.nxQ h) 0
 let h9 := HP.newQ h (.cells true (AV.cells t0))
 let t8 := AV.ptr (HP.nxQ h9) 0
 let h10 := HP.newQ h9 (.cells true (AV.cells t1))
 let t11 := AV.ptr (HP.nxQ h10) 0
 let h11 := HP.newQ h10 (.cells true (AV.cells t4))
 let t14 := AV.ptr (HP.nxQ h11) 0
 let h12 := HP.newQ h11 (.cells true [.nils, .nils, .nils, .nils, .nils, (kI 0), (kI 0), (kI 0)])
 let t24 := (AV.ptr (HP.nxQ h9) (Nat.add 0 3))
 cellC t24 h12 fun t25 =>
 lenC t25 fun vt26 => asI .i64 vt26 fun t26 =>
 obQ (evA (.mksl [(.int .u32 (.ofNat 0))] 4 (.c (vI t26)) (.c (vI t26))) .leaf) fun r13 =>
 let t27 := vkV r13.2 (HP.nxQ h12)
 let h14 := HP.newQ h12 r13.1
 let t28 := (AV.ptr (HP.nxQ h9) (Nat.add 0 3))
 cellC t28 h14 fun t29 =>
 lenC t29 fun vt30 => asI .i64 vt30 fun t30 =>
 obQ (evA (.mksl [(.int .u64 (.ofNat 0))] 8 (.c (vI t30)) (.c (vI t30))) .leaf) fun r15 =>
 let t31 := vkV r15.2 (HP.nxQ h14)
 let h16 := HP.newQ h14 r15.1
 obQ (evP (.build [.nils, .nils] [⟨0, 1, (.c t27)⟩, ⟨1, 1, (.c t31)⟩]) .leaf) fun t32 =>
 let t17 := AV.ptr (HP.nxQ h16) 0
 let h17 := HP.newQ h16 (.cells true [.nils, .nils])
 stsC 2 t17 t32 h17 fun h18 =>
 let t33 := (AV.ptr (HP.nxQ h9) (Nat.add 0 2))
 cellC t33 h18 fun t34 =>
 lenC t34 fun vt35 => asI .i64 vt35 fun t35 =>
 S26_7 D m t2 t3 t5 t6 t7 t8 t11 t14 t17 t35 (Int.ofNat 0) h18
def S26 : SFn := fun D m args h u => nou u <| popV args fun t0 args => popV args fun t1 args => popI .i64 args fun t2 args => popI .i64 args fun t3 args => popV args fun t4 args => popV args fun t5 args => popI .i64 args fun t6 args => endA args (S26_8 D m t0 t1 t2 t3 t4 t5 t6 h)
theorem T26_2 (hE : FX x26 D m E) : S26_2 D m = e26_2 (E c26_2 []) := by unfold S26_2; rw [hE c26_2]; kernel_rfl
theorem T26_4 (hE : FX x26 D m E) (G3) : S26_4 D m (e26_3 G3) = e26_4 (E c26_4 [.blk 6, .blk 5, .lp v26_3 G3, .blk 4, .sj v26_2 c26_2]) := by unfold S26_4; rw [hE c26_4]; kernel_rfl
theorem T26_5 (hE : FX x26 D m E) (G3) : S26_5 D m (e26_3 G3) = e26_5 (E c26_5 [.blk 6, .blk 5, .lp v26_3 G3, .blk 4, .sj v26_2 c26_2]) := by unfold S26_5; rw [hE c26_5]; kernel_rfl
theorem T26_3b (hE : FX x26 D m E) (G3) : S26_3b D m (e26_3 G3) = e26_3 (E c26_3b [.lp v26_3 G3, .blk 4, .sj v26_2 c26_2]) := by unfold S26_3b; rw [T26_4 hE G3, T26_5 hE G3, T26_2 hE, hE c26_3b]; kernel_rfl
theorem T26_3 (hE : FX x26 D m E) : S26_3 D m = e26_3 (nrec (fun _ => none) (fun _ G3 st => E c26_3b [.lp v26_3 G3, .blk 4, .sj v26_2 c26_2] st) m) :=
  nrec_emb e26_3 (fun _ _ _ _ _ _ _ _ _ _ => none) (fun g => S26_3b D m g) (fun G3 st => E c26_3b [.lp v26_3 G3, .blk 4, .sj v26_2 c26_2] st) rfl (fun g => T26_3b hE g) m
theorem T26_1 (hE : FX x26 D m E) : S26_1 D m = e26_1 (E c26_1 []) := by unfold S26_1; rw [T26_3 hE, hE c26_1]; kernel_rfl
theorem T26_6b (hE : FX x26 D m E) (G6) : S26_6b D m (e26_6 G6) = e26_6 (E c26_6b [.lp v26_6 G6, .blk 2, .sj v26_1 c26_1]) := by unfold S26_6b; rw [T26_1 hE, hE c26_6b]; kernel_rfl
theorem T26_6 (hE : FX x26 D m E) : S26_6 D m = e26_6 (nrec (fun _ => none) (fun _ G6 st => E c26_6b [.lp v26_6 G6, .blk 2, .sj v26_1 c26_1] st) m) :=
  nrec_emb e26_6 (fun _ _ _ _ _ _ _ _ _ _ _ => none) (fun g => S26_6b D m g) (fun G6 st => E c26_6b [.lp v26_6 G6, .blk 2, .sj v26_1 c26_1] st) rfl (fun g => T26_6b hE g) m
theorem T26_0 (hE : FX x26 D m E) : S26_0 D m = e26_0 (E c26_0 []) := by unfold S26_0; rw [T26_6 hE, hE c26_0]; kernel_rfl
theorem T26_7b (hE : FX x26 D m E) (G7) : S26_7b D m (e26_7 G7) = e26_7 (E c26_7b [.lp v26_7 G7, .blk 0, .sj v26_0 c26_0]) := by unfold S26_7b; rw [T26_0 hE, hE c26_7b]; kernel_rfl
theorem T26_7 (hE : FX x26 D m E) : S26_7 D m = e26_7 (nrec (fun _ => none) (fun _ G7 st => E c26_7b [.lp v26_7 G7, .blk 0, .sj v26_0 c26_0] st) m) :=
  nrec_emb e26_7 (fun _ _ _ _ _ _ _ _ _ _ _ _ => none) (fun g => S26_7b D m g) (fun G7 st => E c26_7b [.lp v26_7 G7, .blk 0, .sj v26_0 c26_0] st) rfl (fun g => T26_7b hE g) m
theorem T26_8 (hE : FX x26 D m E) : S26_8 D m = e26_8 (E c26_e []) := by unfold S26_8; rw [T26_7 hE, hE c26_e]; kernel_rfl
theorem X26 : XTie S26 x26 := X_of fun D m E hE args h u => by unfold S26; rw [T26_8 hE]; kernel_rfl
/- 27 -/
def c27_e : XC := (.sO [.mv p2 (ci 0) tI] (.sO [.mv p4 q0 tW, .P p5 (.conv (.ii .i64) q4) tI, .mv p3 q5 tI] (.seq (.seq (.oX [.mv p6 q3 tI, .bn p7 .geq q6 (ci 2147483648) .b]) (.cond q7 (.seq (.oX [.mv p8 q3 tI, .bn p9 .sub q8 (ci 4294967296) tI, .mv p2 q9 tI]) .ret) .skip)) (.sO [.mv p10 q3 tI, .mv p2 q10 tI] (.s .ret)))))
def x27 : XFn := ⟨[tW], false, [(.tmp p2)], c27_e⟩
def e27_0 (k t0 h) := kN k [(p0, (vW t0))] h
def S27_0 (D : CallD) (m : Nat) (t0 : Int) (h : HP) : Res2 :=
 obI .i64 (convV (.ii .i64) (vW t0)) fun t5 =>
 let t7 := leQ (Int.ofNat 2147483648) t5
 br t7 (
 let t9 := wrQ .i64 (t5 - (Int.ofNat 4294967296))
 some (.ret (vI t9) h, .no)) (
 some (.ret (vI t5) h, .no))
def S27 : SFn := fun D m args h u => nou u <| popI .u32 args fun t0 args => endA args (S27_0 D m t0 h)
theorem T27_0 (hE : FX x27 D m E) : S27_0 D m = e27_0 (E c27_e []) := by unfold S27_0; rw [hE c27_e]; kernel_rfl
theorem X27 : XTie S27 x27 := X_of fun D m E hE args h u => by unfold S27; rw [T27_0 hE]; kernel_rfl
/- 28 -/
def v28_0 : List Pos := [p3]
def c28_0 : XC := (.sO [.mv p10 q3 tI, .P p11 (.conv (.ii .u32) q10) tW, .mv p2 q11 tW] (.s .ret))
def c28_e : XC := (.sO [.mv p2 (.c (.int .u32 (.ofNat 0))) tW] (.sO [.mv p4 q0 tI, .bn p5 .rem q4 (ci 4294967296) tI, .mv p3 q5 tI] (.sj v28_0 (.sO [.mv p6 q3 tI, .bn p7 .lss q6 (ci 0) .b] (.cond q7 (.s (.oX [.mv p8 q3 tI, .bn p9 .add q8 (ci 4294967296) tI, .mv p3 q9 tI])) (.s .skip))) c28_0)))
def x28 : XFn := ⟨[tI], false, [(.tmp p2)], c28_e⟩
def e28_0 (k t3 h) := kN k [(p3, (vI t3))] h
def S28_0 (D : CallD) (m : Nat) (t3 : Int) (h : HP) : Res2 :=
 let t11 := wrapF .u32 t3
 some (.ret (vW t11) h, .no)
def e28_1 (k t0 h) := kN k [(p0, (vI t0))] h
def S28_1 (D : CallD) (m : Nat) (t0 : Int) (h : HP) : Res2 :=
 let t5 := Int.tmod t0 (Int.ofNat 4294967296)
 let t7 := ltQ t5 (Int.ofNat 0)
 br t7 (
 let t9 := wrQ .i64 (addQ t5 (Int.ofNat 4294967296))
 S28_0 D m t9 h) (
 S28_0 D m t5 h)
def S28 : SFn := fun D m args h u => nou u <| popI .i64 args fun t0 args => endA args (S28_1 D m t0 h)
theorem T28_0 (hE : FX x28 D m E) : S28_0 D m = e28_0 (E c28_0 []) := by unfold S28_0; rw [hE c28_0]; kernel_rfl
theorem T28_1 (hE : FX x28 D m E) : S28_1 D m = e28_1 (E c28_e []) := by unfold S28_1; rw [T28_0 hE, hE c28_e]; kernel_rfl
theorem X28 : XTie S28 x28 := X_of fun D m E hE args h u => by unfold S28; rw [T28_1 hE]; kernel_rfl
/- 34 -/
def c34_e : XC := (.sO [.mv p2 (.c (.int .u64 (.ofNat 0))) (.i .u64), .mv p3 (.c (.int .u64 (.ofNat 0))) (.i .u64), .mv p4 (.c (.int .u64 (.ofNat 0))) (.i .u64)] (.sO [.mv p5 q0 (.i .u64), .bn p6 .quo q5 (.c (.int .u64 (.ofNat 9223372036854775808))) (.i .u64), .mv p7 q0 (.i .u64), .bn p8 .quo q7 (.c (.int .u64 (.ofNat 4503599627370496))) (.i .u64), .bn p9 .rem q8 (.c (.int .u64 (.ofNat 2048))) (.i .u64), .mv p10 q0 (.i .u64), .bn p11 .rem q10 (.c (.int .u64 (.ofNat 4503599627370496))) (.i .u64), .mv p2 q6 (.i .u64), .mv p3 q9 (.i .u64), .mv p4 q11 (.i .u64)] (.s .ret)))
def x34 : XFn := ⟨[(.i .u64)], false, [(.tmp p2), (.tmp p3), (.tmp p4)], c34_e⟩
def e34_0 (k t0 h) := kN k [(p0, (AV.int .u64 t0))] h
def S34_0 (D : CallD) (m : Nat) (t0 : Int) (h : HP) : Res2 :=
 binC .quo (AV.int .u64 t0) (AV.int .u64 (Int.ofNat 9223372036854775808)) fun vt6 => asI .u64 vt6 fun t6 =>
 binC .quo (AV.int .u64 t0) (AV.int .u64 (Int.ofNat 4503599627370496)) fun vt8 => asI .u64 vt8 fun t8 =>
 binC .rem (AV.int .u64 t8) (AV.int .u64 (Int.ofNat 2048)) fun vt9 => asI .u64 vt9 fun t9 =>
 binC .rem (AV.int .u64 t0) (AV.int .u64 (Int.ofNat 4503599627370496)) fun vt11 => asI .u64 vt11 fun t11 =>
 some (.ret (.tup [(AV.int .u64 t6), (AV.int .u64 t9), (AV.int .u64 t11)]) h, .no)
def S34 : SFn := fun D m args h u => nou u <| popI .u64 args fun t0 args => endA args (S34_0 D m t0 h)
theorem T34_0 (hE : FX x34 D m E) : S34_0 D m = e34_0 (E c34_e []) := by unfold S34_0; rw [hE c34_e]; kernel_rfl
theorem X34 : XTie S34 x34 := X_of fun D m E hE args h u => by unfold S34; rw [T34_0 hE]; kernel_rfl
/- 35 -/
def c35_e : XC := (.sO [.mv p2 (cb false) .b] (.sO [.mv p7 q0 (.i .u64), .cl p8 34 [q7] .v, .mv p6 q8 .v, .P p9 (.ext q6 0) (.i .u64), .P p10 (.ext q6 1) (.i .u64), .P p11 (.ext q6 2) (.i .u64), .mv p3 q9 (.i .u64), .mv p4 q10 (.i .u64), .mv p5 q11 (.i .u64)] (.sO [.mv p12 q4 (.i .u64), .bn p13 .eql q12 (.c (.int .u64 (.ofNat 2047))) .b, .mv p14 q13 .b, .ge p14 (XL.of [.G p14 true p15 (.mov q5) (.i .u64), .G p14 true p16 (.bin .neq q15 (.c (.int .u64 (.ofNat 0)))) .b, .P p17 (.pick q14 q16 (cb false)) .b]) p17 .b, .mv p2 q17 .b] (.s .ret))))
def x35 : XFn := ⟨[(.i .u64)], false, [(.tmp p2)], c35_e⟩
def e35_0 (k t0 h) := kN k [(p0, (AV.int .u64 t0))] h
def S35_0 (D : CallD) (m : Nat) (t0 : Int) (h : HP) : Res2 :=
 cal D 34 [(AV.int .u64 t0)] h fun t8 h1 =>
 extC t8 0 fun vt9 => asI .u64 vt9 fun t9 =>
 extC t8 1 fun vt10 => asI .u64 vt10 fun t10 =>
 extC t8 2 fun vt11 => asI .u64 vt11 fun t11 =>
 binC .eql (AV.int .u64 t10) (AV.int .u64 (Int.ofNat 2047)) fun vt13 => asB vt13 fun t13 =>
 obB (brV t13 (
 binCV .neq (AV.int .u64 t11) (AV.int .u64 (Int.ofNat 0)) fun vt16 => asBV vt16 fun t16 =>
 some (vB t16)) (
 some (vB false))) fun t17 =>
 some (.ret (vB t17) h1, .no)
def S35 : SFn := fun D m args h u => nou u <| popI .u64 args fun t0 args => endA args (S35_0 D m t0 h)
theorem T35_0 (hE : FX x35 D m E) : S35_0 D m = e35_0 (E c35_e []) := by unfold S35_0; rw [hE c35_e]; kernel_rfl
theorem X35 : XTie S35 x35 := X_of fun D m E hE args h u => by unfold S35; rw [T35_0 hE]; kernel_rfl
/- 36 -/
def v36_0 : List Pos := [p5, p8, p11, p12, p13, p14, p15]
def c36_0 : XC := (.sO [.mv p45 q11 tI, .cl p46 41 [q45] .v, .mv p47 q12 tI, .mv p48 q15 tI, .bn p49 .sub q47 q48 tI, .cl p50 60 [q46, q49] .v, .mv p51 q13 tI, .cl p52 41 [q51] .v, .mv p53 q14 tI, .mv p54 q15 tI, .bn p55 .sub q53 q54 tI, .cl p56 60 [q52, q55] .v, .mv p16 q50 .v, .mv p17 q56 .v] (.seq (.seq (.oX [.mv p57 q5 (.i .u64), .mv p58 q8 (.i .u64), .bn p59 .eql q57 q58 .b]) (.cond q59 (.seq (.oX [.mv p60 q5 (.i .u64), .mv p61 q16 .v, .mv p62 q17 .v, .cl p63 61 [q61, q62] .v, .cl p64 41 [(ci 1)] .v, .mv p65 q15 tI, .cl p66 39 [q63, q64, q65] (.i .u64), .cl p67 37 [q60, q66] (.i .u64), .mv p4 q67 (.i .u64)]) .ret) .skip)) (.seq (.seq (.oX [.mv p68 q16 .v, .mv p69 q17 .v, .cl p70 62 [q68, q69] tI]) (.block 0 (.seq (.oX [.bn p72 .eql q70 (ci 0) .b, .mv p71 q72 .b]) (.cond q71 (.seq (.oX [.mv p4 (.c (.int .u64 (.ofNat 0))) (.i .u64)]) .ret) (.seq (.oX [.bn p74 .eql q70 (ci 1) .b, .mv p73 q74 .b]) (.cond q73 (.seq (.oX [.mv p75 q5 (.i .u64), .mv p76 q16 .v, .mv p77 q17 .v, .cl p78 63 [q76, q77] .v, .cl p79 41 [(ci 1)] .v, .mv p80 q15 tI, .cl p81 39 [q78, q79, q80] (.i .u64), .cl p82 37 [q75, q81] (.i .u64), .mv p4 q82 (.i .u64)]) .ret) .skip)))))) (.sO [.mv p83 q8 (.i .u64), .mv p84 q17 .v, .mv p85 q16 .v, .cl p86 63 [q84, q85] .v, .cl p87 41 [(ci 1)] .v, .mv p88 q15 tI, .cl p89 39 [q86, q87, q88] (.i .u64), .cl p90 37 [q83, q89] (.i .u64), .mv p4 q90 (.i .u64)] (.s .ret)))))
def c36_e : XC := (.sO [.mv p4 (.c (.int .u64 (.ofNat 0))) (.i .u64)] (.sO [.mv p19 q0 (.i .u64), .cl p20 34 [q19] .v, .mv p18 q20 .v, .P p21 (.ext q18 0) (.i .u64), .P p22 (.ext q18 1) (.i .u64), .P p23 (.ext q18 2) (.i .u64), .mv p5 q21 (.i .u64), .mv p6 q22 (.i .u64), .mv p7 q23 (.i .u64)] (.sO [.mv p25 q1 (.i .u64), .cl p26 34 [q25] .v, .mv p24 q26 .v, .P p27 (.ext q24 0) (.i .u64), .P p28 (.ext q24 1) (.i .u64), .P p29 (.ext q24 2) (.i .u64), .mv p8 q27 (.i .u64), .mv p9 q28 (.i .u64), .mv p10 q29 (.i .u64)] (.sO [.mv p31 q0 (.i .u64), .cl p32 38 [q31] .v, .mv p30 q32 .v, .P p33 (.ext q30 0) tI, .P p34 (.ext q30 1) tI, .mv p11 q33 tI, .mv p12 q34 tI] (.sO [.mv p36 q1 (.i .u64), .cl p37 38 [q36] .v, .mv p35 q37 .v, .P p38 (.ext q35 0) tI, .P p39 (.ext q35 1) tI, .mv p13 q38 tI, .mv p14 q39 tI] (.sO [.mv p40 q12 tI, .mv p15 q40 tI] (.sj v36_0 (.sO [.mv p41 q14 tI, .mv p42 q12 tI, .bn p43 .lss q41 q42 .b] (.cond q43 (.s (.oX [.mv p44 q14 tI, .mv p15 q44 tI])) (.s .skip))) c36_0)))))))
def x36 : XFn := ⟨[(.i .u64), (.i .u64)], false, [(.tmp p4)], c36_e⟩
def e36_0 (k t5 t8 t11 t12 t13 t14 t15 h) := kN k [(p5, (AV.int .u64 t5)), (p8, (AV.int .u64 t8)), (p11, (vI t11)), (p12, (vI t12)), (p13, (vI t13)), (p14, (vI t14)), (p15, (vI t15))] h
def S36_0 (D : CallD) (m : Nat) (t5 t8 t11 t12 t13 t14 t15 : Int) (h : HP) : Res2 :=
 cal D 41 [(vI t11)] h fun t46 h6 =>
 let t49 := wrQ .i64 (t12 - t15)
 cal D 60 [t46, (vI t49)] h6 fun t50 h7 =>
 cal D 41 [(vI t13)] h7 fun t52 h8 =>
 let t55 := wrQ .i64 (t14 - t15)
 cal D 60 [t52, (vI t55)] h8 fun t56 h9 =>
 binC .eql (AV.int .u64 t5) (AV.int .u64 t8) fun vt59 => asB vt59 fun t59 =>
 br t59 (
 cal D 61 [t50, t56] h9 fun t63 h10 =>
 cal D 41 [(vI (Int.ofNat 1))] h10 fun t64 h11 =>
 cal D 39 [t63, t64, (vI t15)] h11 fun t66 h12 =>
 asI .u64 t66 fun t66a =>
 cal D 37 [(AV.int .u64 t5), (AV.int .u64 t66a)] h12 fun t67 h13 =>
 asI .u64 t67 fun t67a =>
 some (.ret (AV.int .u64 t67a) h13, .no)) (
 cal D 62 [t50, t56] h9 fun t70 h14 =>
 asI .i64 t70 fun t70a =>
 let t72 := eqQ t70a (Int.ofNat 0)
 br t72 (
 some (.ret (AV.int .u64 (Int.ofNat 0)) h14, .no)) (
 let t74 := eqQ t70a (Int.ofNat 1)
 br t74 (
 cal D 63 [t50, t56] h14 fun t78 h15 =>
 cal D 41 [(vI (Int.ofNat 1))] h15 fun t79 h16 =>
 cal D 39 [t78, t79, (vI t15)] h16 fun t81 h17 =>
 asI .u64 t81 fun t81a =>
 cal D 37 [(AV.int .u64 t5), (AV.int .u64 t81a)] h17 fun t82 h18 =>
 asI .u64 t82 fun t82a =>
 some (.ret (AV.int .u64 t82a) h18, .no)) (
 cal D 63 [t56, t50] h14 fun t86 h19 =>
 cal D 41 [(vI (Int.ofNat 1))] h19 fun t87 h20 =>
 cal D 39 [t86, t87, (vI t15)] h20 fun t89 h21 =>
 asI .u64 t89 fun t89a =>
 cal D 37 [(AV.int .u64 t8), (AV.int .u64 t89a)] h21 fun t90 h22 =>
 asI .u64 t90 fun t90a =>
 some (.ret (AV.int .u64 t90a) h22, .no))))
def e36_1 (k t0 t1 h) := kN k [(p0, (AV.int .u64 t0)), (p1, (AV.int .u64 t1))] h
def S36_1 (D : CallD) (m : Nat) (t0 t1 : Int) (h : HP) : Res2 :=
 cal D 34 [(AV.int .u64 t0)] h fun t20 h2 =>
 extC t20 0 fun vt21 => asI .u64 vt21 fun t21 =>
 extC t20 1 fun vt22 => asI .u64 vt22 fun t22 =>
 extC t20 2 fun vt23 => asI .u64 vt23 fun t23 =>
 cal D 34 [(AV.int .u64 t1)] h2 fun t26 h3 =>
 extC t26 0 fun vt27 => asI .u64 vt27 fun t27 =>
 extC t26 1 fun vt28 => asI .u64 vt28 fun t28 =>
 extC t26 2 fun vt29 => asI .u64 vt29 fun t29 =>
 cal D 38 [(AV.int .u64 t0)] h3 fun t32 h4 =>
 extC t32 0 fun vt33 => asI .i64 vt33 fun t33 =>
 extC t32 1 fun vt34 => asI .i64 vt34 fun t34 =>
 cal D 38 [(AV.int .u64 t1)] h4 fun t37 h5 =>
 extC t37 0 fun vt38 => asI .i64 vt38 fun t38 =>
 extC t37 1 fun vt39 => asI .i64 vt39 fun t39 =>
 let t43 := ltQ t39 t34
 br t43 (
 S36_0 D m t21 t27 t33 t34 t38 t39 t39 h5) (
 S36_0 D m t21 t27 t33 t34 t38 t39 t34 h5)
def S36 : SFn := fun D m args h u => nou u <| popI .u64 args fun t0 args => popI .u64 args fun t1 args => endA args (S36_1 D m t0 t1 h)
theorem T36_0 (hE : FX x36 D m E) : S36_0 D m = e36_0 (E c36_0 []) := by unfold S36_0; rw [hE c36_0]; kernel_rfl
theorem T36_1 (hE : FX x36 D m E) : S36_1 D m = e36_1 (E c36_e []) := by unfold S36_1; rw [T36_0 hE, hE c36_e]; kernel_rfl
theorem X36 : XTie S36 x36 := X_of fun D m E hE args h u => by unfold S36; rw [T36_1 hE]; kernel_rfl
/- 37 -/
def c37_e : XC := (.sO [.mv p4 (.c (.int .u64 (.ofNat 0))) (.i .u64)] (.seq (.seq (.oX [.mv p5 q0 (.i .u64), .bn p6 .eql q5 (.c (.int .u64 (.ofNat 1))) .b]) (.cond q6 (.seq (.oX [.mv p7 q1 (.i .u64), .bn p8 .add q7 (.c (.int .u64 (.ofNat 9223372036854775808))) (.i .u64), .mv p4 q8 (.i .u64)]) .ret) .skip)) (.sO [.mv p9 q1 (.i .u64), .mv p4 q9 (.i .u64)] (.s .ret))))
def x37 : XFn := ⟨[(.i .u64), (.i .u64)], false, [(.tmp p4)], c37_e⟩
def e37_0 (k t0 t1 h) := kN k [(p0, (AV.int .u64 t0)), (p1, (AV.int .u64 t1))] h
def S37_0 (D : CallD) (m : Nat) (t0 t1 : Int) (h : HP) : Res2 :=
 binC .eql (AV.int .u64 t0) (AV.int .u64 (Int.ofNat 1)) fun vt6 => asB vt6 fun t6 =>
 br t6 (
 binC .add (AV.int .u64 t1) (AV.int .u64 (Int.ofNat 9223372036854775808)) fun vt8 => asI .u64 vt8 fun t8 =>
 some (.ret (AV.int .u64 t8) h, .no)) (
 some (.ret (AV.int .u64 t1) h, .no))
def S37 : SFn := fun D m args h u => nou u <| popI .u64 args fun t0 args => popI .u64 args fun t1 args => endA args (S37_0 D m t0 t1 h)
theorem T37_0 (hE : FX x37 D m E) : S37_0 D m = e37_0 (E c37_e []) := by unfold S37_0; rw [hE c37_e]; kernel_rfl
theorem X37 : XTie S37 x37 := X_of fun D m E hE args h u => by unfold S37; rw [T37_0 hE]; kernel_rfl
/- 38 -/
def c38_e : XC := (.sO [.mv p2 (ci 0) tI, .mv p3 (ci 0) tI] (.sO [.mv p8 q0 (.i .u64), .cl p9 34 [q8] .v, .mv p7 q9 .v, .P p10 (.ext q7 0) (.i .u64), .P p11 (.ext q7 1) (.i .u64), .P p12 (.ext q7 2) (.i .u64), .mv p4 q10 (.i .u64), .mv p5 q11 (.i .u64), .mv p6 q12 (.i .u64)] (.seq (.seq (.oX [.mv p13 q5 (.i .u64), .bn p14 .eql q13 (.c (.int .u64 (.ofNat 0))) .b]) (.cond q14 (.seq (.oX [.mv p15 q6 (.i .u64), .P p16 (.conv (.ii .i64) q15) tI, .mv p2 q16 tI, .mv p3 (.c (.int .i64 (.negSucc 1073))) tI]) .ret) .skip)) (.sO [.mv p17 q6 (.i .u64), .P p18 (.conv (.ii .i64) q17) tI, .bn p19 .add q18 (ci 4503599627370496) tI, .mv p20 q5 (.i .u64), .P p21 (.conv (.ii .i64) q20) tI, .bn p22 .sub q21 (ci 1075) tI, .mv p2 q19 tI, .mv p3 q22 tI] (.s .ret)))))
def x38 : XFn := ⟨[(.i .u64)], false, [(.tmp p2), (.tmp p3)], c38_e⟩
def e38_0 (k t0 h) := kN k [(p0, (AV.int .u64 t0))] h
def S38_0 (D : CallD) (m : Nat) (t0 : Int) (h : HP) : Res2 :=
 cal D 34 [(AV.int .u64 t0)] h fun t9 h1 =>
 extC t9 0 fun vt10 => asI .u64 vt10 fun t10 =>
 extC t9 1 fun vt11 => asI .u64 vt11 fun t11 =>
 extC t9 2 fun vt12 => asI .u64 vt12 fun t12 =>
 binC .eql (AV.int .u64 t11) (AV.int .u64 (Int.ofNat 0)) fun vt14 => asB vt14 fun t14 =>
 br t14 (
 obI .i64 (convV (.ii .i64) (AV.int .u64 t12)) fun t16 =>
 some (.ret (.tup [(vI t16), (vI (Int.negSucc 1073))]) h1, .no)) (
 obI .i64 (convV (.ii .i64) (AV.int .u64 t12)) fun t18 =>
 let t19 := wrQ .i64 (addQ t18 (Int.ofNat 4503599627370496))
 obI .i64 (convV (.ii .i64) (AV.int .u64 t11)) fun t21 =>
 let t22 := wrQ .i64 (t21 - (Int.ofNat 1075))
 some (.ret (.tup [(vI t19), (vI t22)]) h1, .no))
def S38 : SFn := fun D m args h u => nou u <| popI .u64 args fun t0 args => endA args (S38_0 D m t0 h)
theorem T38_0 (hE : FX x38 D m E) : S38_0 D m = e38_0 (E c38_e []) := by unfold S38_0; rw [hE c38_e]; kernel_rfl
theorem X38 : XTie S38 x38 := X_of fun D m E hE args h u => by unfold S38; rw [T38_0 hE]; kernel_rfl
/- 39 -/
def v39_1 : List Pos := [p2, p8]
def c39_1 : XC := (.seq (.seq (.oX [.mv p75 q8 tI, .bn p76 .lss q75 (ci 4503599627370496) .b]) (.cond q76 (.seq (.oX [.mv p77 q8 tI, .P p78 (.conv (.ii .u64) q77) (.i .u64), .mv p6 q78 (.i .u64)]) .ret) .skip)) (.seq (.seq (.oX [.mv p79 q2 tI, .bn p80 .add q79 (ci 1075) tI, .bn p81 .geq q80 (ci 2047) .b]) (.cond q81 (.seq (.oX [.mv p6 (.c (.int .u64 (.ofNat 9218868437227405312))) (.i .u64)]) .ret) .skip)) (.sO [.mv p82 q2 tI, .bn p83 .add q82 (ci 1075) tI, .P p84 (.conv (.ii .u64) q83) (.i .u64), .bn p85 .mul q84 (.c (.int .u64 (.ofNat 4503599627370496))) (.i .u64), .mv p86 q8 tI, .P p87 (.conv (.ii .u64) q86) (.i .u64), .bn p88 .add q85 q87 (.i .u64), .bn p89 .sub q88 (.c (.int .u64 (.ofNat 4503599627370496))) (.i .u64), .mv p6 q89 (.i .u64)] (.s .ret))))
def v39_0 : List Pos := [p2, p7, p8]
def c39_0 : XC := (.sO [.mv p66 q2 tI, .mv p67 q7 tI, .bn p68 .sub q66 q67 tI, .mv p2 q68 tI] (.sj v39_1 (.sO [.mv p69 q8 tI, .bn p70 .eql q69 (ci 9007199254740992) .b] (.cond q70 (.sO [.mv p71 q8 tI, .bn p72 .quo q71 (ci 2) tI, .mv p8 q72 tI] (.s (.oX [.mv p73 q2 tI, .bn p74 .add q73 (ci 1) tI, .mv p2 q74 tI]))) (.s .skip))) c39_1))
def v39_5 : List Pos := [p0, p1, p2, p7]
def c39_5 : XC := (.s (.oX [.mv p64 q7 tI, .bn p65 .sub q64 (ci 1) tI, .mv p7 q65 tI]))
def v39_6 : List Pos := [p2, p7, p8]
def c39_6 : XC := (.s (.exit 0))
def v39_4 : List Pos := [p0, p1, p2, p7, p10, p11]
def c39_4 : XC := (.sO [.mv p40 q10 .v, .mv p41 q11 .v, .cl p42 65 [q40, q41] .v, .mv p39 q42 .v, .P p43 (.ext q39 0) tI, .P p44 (.ext q39 1) .v, .mv p8 q43 tI, .mv p9 q44 .v] (.sj v39_5 (.sO [.mv p45 q8 tI, .bn p46 .lss q45 (ci 9007199254740992) .b] (.cond q46 (.sO [.mv p47 q9 .v, .cl p48 60 [q47, (ci 1)] .v, .mv p49 q11 .v, .cl p50 62 [q48, q49] tI, .mv p12 q50 tI] (.sj v39_6 (.sO [.mv p51 q12 tI, .bn p52 .gtr q51 (ci 0) .b, .mv p53 q52 .b, .ge p53 (XL.of [.G p53 false p54 (.mov q12) tI, .G p53 false p55 (.bin .eql q54 (ci 0)) .b, .G p53 false p56 (.mov q55) .b, .ge p56 (XL.of [.G p56 true p57 (.mov q8) tI, .G p56 true p58 (.bin .rem q57 (ci 2)) tI, .G p56 true p59 (.bin .eql q58 (ci 1)) .b, .G p53 false p60 (.pick q56 q59 (cb false)) .b]) p60 .b, .P p61 (.pick q53 (cb true) q60) .b]) p61 .b] (.cond q61 (.s (.oX [.mv p62 q8 tI, .bn p63 .add q62 (ci 1) tI, .mv p8 q63 tI])) (.s .skip))) c39_6)) (.s .skip))) c39_5))
def v39_3 : List Pos := [p0, p1, p2, p7]
def c39_3 : XC := (.sO [.mv p28 q0 .v, .mv p29 q1 .v, .mv p10 q28 .v, .mv p11 q29 .v] (.sj v39_4 (.sO [.mv p30 q7 tI, .bn p31 .gtr q30 (ci 0) .b] (.cond q31 (.s (.oX [.mv p32 q0 .v, .mv p33 q7 tI, .cl p34 60 [q32, q33] .v, .mv p10 q34 .v])) (.s (.oX [.mv p35 q1 .v, .mv p36 q7 tI, .P p37 (.un .neg q36) tI, .cl p38 60 [q35, q37] .v, .mv p11 q38 .v])))) c39_4))
def v39_2 : List Pos := [p0, p1, p2, p7]
def c39_2b : XC := (.block 1 (.sj v39_3 (.sO [.mv p22 q2 tI, .mv p23 q7 tI, .bn p24 .sub q22 q23 tI, .bn p25 .lss q24 (.c (.int .i64 (.negSucc 1073))) .b] (.cond q25 (.s (.oX [.mv p26 q2 tI, .bn p27 .add q26 (ci 1074) tI, .mv p7 q27 tI])) (.s .skip))) c39_3))
def c39_e : XC := (.sO [.mv p6 (.c (.int .u64 (.ofNat 0))) (.i .u64)] (.seq (.seq (.oX [.mv p13 q0 .v, .P p14 (.lenl q13) tI, .bn p15 .eql q14 (ci 0) .b]) (.cond q15 (.seq (.oX [.mv p6 (.c (.int .u64 (.ofNat 0))) (.i .u64)]) .ret) .skip)) (.sO [.mv p16 q0 .v, .cl p17 64 [q16] tI, .bn p18 .sub (ci 53) q17 tI, .mv p19 q1 .v, .cl p20 64 [q19] tI, .bn p21 .add q18 q20 tI, .mv p7 q21 tI] (.sO [.mv p8 (ci 0) tI] (.sO [.mv p9 (.c .nils) .v] (.sj v39_0 (.block 0 (.loop v39_2 c39_2b)) c39_0))))))
def x39 : XFn := ⟨[.v, .v, tI], false, [(.tmp p6)], c39_e⟩
def e39_1 (k t2 t8 h) := kN k [(p2, (vI t2)), (p8, (vI t8))] h
def S39_1 (D : CallD) (m : Nat) (t2 t8 : Int) (h : HP) : Res2 :=
 let t76 := ltQ t8 (Int.ofNat 4503599627370496)
 br t76 (
 let t78 := wrapF .u64 t8
 some (.ret (AV.int .u64 t78) h, .no)) (
 let t80 := wrQ .i64 (addQ t2 (Int.ofNat 1075))
 let t81 := leQ (Int.ofNat 2047) t80
 br t81 (
 some (.ret (AV.int .u64 (Int.ofNat 9218868437227405312)) h, .no)) (
 let t83 := wrQ .i64 (addQ t2 (Int.ofNat 1075))
 let t84 := wrapF .u64 t83
 binC .mul (AV.int .u64 t84) (AV.int .u64 (Int.ofNat 4503599627370496)) fun vt85 => asI .u64 vt85 fun t85 =>
 let t87 := wrapF .u64 t8
 binC .add (AV.int .u64 t85) (AV.int .u64 t87) fun vt88 => asI .u64 vt88 fun t88 =>
 binC .sub (AV.int .u64 t88) (AV.int .u64 (Int.ofNat 4503599627370496)) fun vt89 => asI .u64 vt89 fun t89 =>
 some (.ret (AV.int .u64 t89) h, .no)))
def e39_0 (k t2 t7 t8 h) := kN k [(p2, (vI t2)), (p7, (vI t7)), (p8, (vI t8))] h
def S39_0 (D : CallD) (m : Nat) (t2 t7 t8 : Int) (h : HP) : Res2 :=
 let t68 := wrQ .i64 (t2 - t7)
 let t70 := eqQ t8 (Int.ofNat 9007199254740992)
 br t70 (
 let t72 := wrapF .i64 (Int.tdiv t8 (Int.ofNat 2))
 let t74 := wrQ .i64 (addQ t68 (Int.ofNat 1))
 S39_1 D m t74 t72 h) (
 S39_1 D m t68 t8 h)
def e39_5 (k t0 t1 t2 t7 h) := kN k [(p0, t0), (p1, t1), (p2, (vI t2)), (p7, (vI t7))] h
def S39_5 (D : CallD) (m : Nat) (g2 : AV → AV → Int → Int → HP → Res2) (t0 t1 : AV) (t2 t7 : Int) (h : HP) : Res2 :=
 let t65 := wrQ .i64 (t7 - (Int.ofNat 1))
 g2 t0 t1 t2 t65 h
def e39_6 (k t2 t7 t8 h) := kN k [(p2, (vI t2)), (p7, (vI t7)), (p8, (vI t8))] h
def S39_6 (D : CallD) (m : Nat) (g2 : AV → AV → Int → Int → HP → Res2) (t2 t7 t8 : Int) (h : HP) : Res2 :=
 S39_0 D m t2 t7 t8 h
def e39_4 (k t0 t1 t2 t7 t10 t11 h) := kN k [(p0, t0), (p1, t1), (p2, (vI t2)), (p7, (vI t7)), (p10, t10), (p11, t11)] h
def S39_4 (D : CallD) (m : Nat) (g2 : AV → AV → Int → Int → HP → Res2) (t0 t1 : AV) (t2 t7 : Int) (t10 t11 : AV) (h : HP) : Res2 :=
 cal D 65 [t10, t11] h fun t42 h10 =>
 extC t42 0 fun vt43 => asI .i64 vt43 fun t43 =>
 extC t42 1 fun t44 =>
 let t46 := ltQ t43 (Int.ofNat 9007199254740992)
 br t46 (
 cal D 60 [t44, (vI (Int.ofNat 1))] h10 fun t48 h11 =>
 cal D 62 [t48, t11] h11 fun t50 h12 =>
 asI .i64 t50 fun t50a =>
 let t52 := ltQ (Int.ofNat 0) t50a
 obB (brV t52 (
 some (vB true)) (
 let t55 := eqQ t50a (Int.ofNat 0)
 obBV (brV t55 (
 let t58 := Int.tmod t43 (Int.ofNat 2)
 let t59 := eqQ t58 (Int.ofNat 1)
 some (vB t59)) (
 some (vB false))) fun t60 =>
 some (vB t60))) fun t61 =>
 br t61 (
 let t63 := wrQ .i64 (addQ t43 (Int.ofNat 1))
 S39_6 D m g2 t2 t7 t63 h12) (
 S39_6 D m g2 t2 t7 t43 h12)) (
 S39_5 D m g2 t0 t1 t2 t7 h10)
def e39_3 (k t0 t1 t2 t7 h) := kN k [(p0, t0), (p1, t1), (p2, (vI t2)), (p7, (vI t7))] h
def S39_3 (D : CallD) (m : Nat) (g2 : AV → AV → Int → Int → HP → Res2) (t0 t1 : AV) (t2 t7 : Int) (h : HP) : Res2 :=
 let t31 := ltQ (Int.ofNat 0) t7
 br t31 (
 cal D 60 [t0, (vI t7)] h fun t34 h13 =>
 S39_4 D m g2 t0 t1 t2 t7 t34 t1 h13) (
 let t37 := IntKind.wrap .i64 (0 - t7)
 cal D 60 [t1, (vI t37)] h fun t38 h14 =>
 S39_4 D m g2 t0 t1 t2 t7 t0 t38 h14)
def e39_2 (k t0 t1 t2 t7 h) := kN k [(p0, t0), (p1, t1), (p2, (vI t2)), (p7, (vI t7))] h
def S39_2b (D : CallD) (m : Nat) (g2 : AV → AV → Int → Int → HP → Res2) (t0 t1 : AV) (t2 t7 : Int) (h : HP) : Res2 :=
 let t24 := wrQ .i64 (t2 - t7)
 let t25 := ltQ t24 (Int.negSucc 1073)
 br t25 (
 let t27 := wrQ .i64 (addQ t2 (Int.ofNat 1074))
 S39_3 D m g2 t0 t1 t2 t27 h) (
 S39_3 D m g2 t0 t1 t2 t7 h)
def S39_2 (D : CallD) (m : Nat) : AV → AV → Int → Int → HP → Res2 := nrec (fun _ _ _ _ _ => none) (fun _ g => S39_2b D m g) m
def e39_7 (k t0 t1 t2 h) := kN k [(p0, t0), (p1, t1), (p2, (vI t2))] h
def S39_7 (D : CallD) (m : Nat) (t0 t1 : AV) (t2 : Int) (h : HP) : Res2 :=
 lenC t0 fun vt14 => asI .i64 vt14 fun t14 =>
 let t15 := eqQ t14 (Int.ofNat 0)
 br t15 (
 some (.ret (AV.int .u64 (Int.ofNat 0)) h, .no)) (
 cal D 64 [t0] h fun t17 h8 =>
 asI .i64 t17 fun t17a =>
 let t18 := wrQ .i64 ((Int.ofNat 53) - t17a)
 cal D 64 [t1] h8 fun t20 h9 =>
 asI .i64 t20 fun t20a =>
 let t21 := wrQ .i64 (addQ t18 t20a)
 S39_2 D m t0 t1 t2 t21 h9)
def S39 : SFn := fun D m args h u => nou u <| popV args fun t0 args => popV args fun t1 args => popI .i64 args fun t2 args => endA args (S39_7 D m t0 t1 t2 h)
theorem T39_1 (hE : FX x39 D m E) : S39_1 D m = e39_1 (E c39_1 []) := by unfold S39_1; rw [hE c39_1]; kernel_rfl
theorem T39_0 (hE : FX x39 D m E) : S39_0 D m = e39_0 (E c39_0 []) := by unfold S39_0; rw [T39_1 hE, hE c39_0]; kernel_rfl
theorem T39_5 (hE : FX x39 D m E) (G2) : S39_5 D m (e39_2 G2) = e39_5 (E c39_5 [.blk 1, .lp v39_2 G2, .blk 0, .sj v39_0 c39_0]) := by unfold S39_5; rw [hE c39_5]; kernel_rfl
theorem T39_6 (hE : FX x39 D m E) (G2) : S39_6 D m (e39_2 G2) = e39_6 (E c39_6 [.sj v39_5 c39_5, .blk 1, .lp v39_2 G2, .blk 0, .sj v39_0 c39_0]) := by unfold S39_6; rw [T39_0 hE, hE c39_6]; kernel_rfl
theorem T39_4 (hE : FX x39 D m E) (G2) : S39_4 D m (e39_2 G2) = e39_4 (E c39_4 [.blk 1, .lp v39_2 G2, .blk 0, .sj v39_0 c39_0]) := by unfold S39_4; rw [T39_6 hE G2, T39_5 hE G2, hE c39_4]; kernel_rfl
theorem T39_3 (hE : FX x39 D m E) (G2) : S39_3 D m (e39_2 G2) = e39_3 (E c39_3 [.blk 1, .lp v39_2 G2, .blk 0, .sj v39_0 c39_0]) := by unfold S39_3; rw [T39_4 hE G2, hE c39_3]; kernel_rfl
theorem T39_2b (hE : FX x39 D m E) (G2) : S39_2b D m (e39_2 G2) = e39_2 (E c39_2b [.lp v39_2 G2, .blk 0, .sj v39_0 c39_0]) := by unfold S39_2b; rw [T39_3 hE G2, hE c39_2b]; kernel_rfl
theorem T39_2 (hE : FX x39 D m E) : S39_2 D m = e39_2 (nrec (fun _ => none) (fun _ G2 st => E c39_2b [.lp v39_2 G2, .blk 0, .sj v39_0 c39_0] st) m) :=
  nrec_emb e39_2 (fun _ _ _ _ _ => none) (fun g => S39_2b D m g) (fun G2 st => E c39_2b [.lp v39_2 G2, .blk 0, .sj v39_0 c39_0] st) rfl (fun g => T39_2b hE g) m
theorem T39_7 (hE : FX x39 D m E) : S39_7 D m = e39_7 (E c39_e []) := by unfold S39_7; rw [T39_2 hE, hE c39_e]; kernel_rfl
theorem X39 : XTie S39 x39 := X_of fun D m E hE args h u => by unfold S39; rw [T39_7 hE]; kernel_rfl
/- 40 -/
def v40_0 : List Pos := [p5]
def c40_0 : XC := (.sO [.mv p23 q5 .v, .mv p4 q23 .v] (.s .ret))
def v40_1 : List Pos := [p0, p1, p5, p6]
def c40_1b : XC := (.seq (.seq (.oX [.mv p10 q6 tI, .bn p11 .geq q10 (ci 0) .b]) (.cond q11 .skip (.exit 0))) (.seq (.block 1 (.ops true (XL.of [.mv p14 q5 .v, .mv p16 q0 .v, .mv p17 q1 .v, .mv p18 q6 tI, .P p19 (.iaddr (.sl 1) q17 q18) .v, .ld p20 q19 tI, .o ⟨(some p15), (.call (.fn 60) [q14, (ci 16)]), none, [⟨none, .cell q19, p20⟩]⟩ .v, .cl p21 66 [q16, q20] .v, .cl p22 61 [q15, q21] .v, .mv p5 q22 .v]))) (.s (.oX [.mv p12 q6 tI, .bn p13 .sub q12 (ci 1) tI, .mv p6 q13 tI]))))
def c40_e : XC := (.sO [.mv p4 (.c .nils) .v] (.sO [.mv p5 (.c .nils) .v] (.sj v40_0 (.sO [.mv p7 q1 .v, .P p8 (.lenl q7) tI, .bn p9 .sub q8 (ci 1) tI, .mv p6 q9 tI] (.block 0 (.loop v40_1 c40_1b))) c40_0)))
def x40 : XFn := ⟨[.v, .v], false, [(.tmp p4)], c40_e⟩
def e40_0 (k t5 h) := kN k [(p5, t5)] h
def S40_0 (D : CallD) (m : Nat) (t5 : AV) (h : HP) : Res2 :=
 some (.ret t5 h, .no)
def e40_1 (k t0 t1 t5 t6 h) := kN k [(p0, t0), (p1, t1), (p5, t5), (p6, (vI t6))] h
def S40_1b (D : CallD) (m : Nat) (g1 : AV → AV → AV → Int → HP → Res2) (t0 t1 t5 : AV) (t6 : Int) (h : HP) : Res2 :=
 let t11 := leQ (Int.ofNat 0) t6
 br t11 (
 iasC 1 t1 (vI t6) fun t19 =>
 ldI t19 h fun t20 =>
 cal D 60 [t5, (vI (Int.ofNat 16))] h fun t15 h3 =>
 br (again [⟨none, .cell q19, p20⟩] (mkT [(p20, (vI t20)), (p19, t19)]) h3) (
 cal D 66 [t0, (vI t20)] h3 fun t21 h4 =>
 cal D 61 [t15, t21] h4 fun t22 h5 =>
 let t13 := wrQ .i64 (t6 - (Int.ofNat 1))
 g1 t0 t1 t22 t13 h5) none) (
 S40_0 D m t5 h)
def S40_1 (D : CallD) (m : Nat) : AV → AV → AV → Int → HP → Res2 := nrec (fun _ _ _ _ _ => none) (fun _ g => S40_1b D m g) m
def e40_2 (k t0 t1 h) := kN k [(p0, t0), (p1, t1)] h
def S40_2 (D : CallD) (m : Nat) (t0 t1 : AV) (h : HP) : Res2 :=
 lenC t1 fun vt8 => asI .i64 vt8 fun t8 =>
 let t9 := wrQ .i64 (t8 - (Int.ofNat 1))
 S40_1 D m t0 t1 (.nils : AV) t9 h
def S40 : SFn := fun D m args h u => nou u <| popV args fun t0 args => popV args fun t1 args => endA args (S40_2 D m t0 t1 h)
theorem T40_0 (hE : FX x40 D m E) : S40_0 D m = e40_0 (E c40_0 []) := by unfold S40_0; rw [hE c40_0]; kernel_rfl
theorem T40_1b (hE : FX x40 D m E) (G1) : S40_1b D m (e40_1 G1) = e40_1 (E c40_1b [.lp v40_1 G1, .blk 0, .sj v40_0 c40_0]) := by unfold S40_1b; rw [T40_0 hE, hE c40_1b]; kernel_rfl
theorem T40_1 (hE : FX x40 D m E) : S40_1 D m = e40_1 (nrec (fun _ => none) (fun _ G1 st => E c40_1b [.lp v40_1 G1, .blk 0, .sj v40_0 c40_0] st) m) :=
  nrec_emb e40_1 (fun _ _ _ _ _ => none) (fun g => S40_1b D m g) (fun G1 st => E c40_1b [.lp v40_1 G1, .blk 0, .sj v40_0 c40_0] st) rfl (fun g => T40_1b hE g) m
theorem T40_2 (hE : FX x40 D m E) : S40_2 D m = e40_2 (E c40_e []) := by unfold S40_2; rw [T40_1 hE, hE c40_e]; kernel_rfl
theorem X40 : XTie S40 x40 := X_of fun D m E hE args h u => by unfold S40; rw [T40_2 hE]; kernel_rfl
/- 41 -/
def v41_0 : List Pos := [p3]
def c41_0 : XC := (.sO [.mv p13 q3 .v, .mv p2 q13 .v] (.s .ret))
def v41_1 : List Pos := [p0, p3]
def c41_1b : XC := (.seq (.seq (.oX [.mv p4 q0 tI, .bn p5 .gtr q4 (ci 0) .b]) (.cond q5 .skip (.exit 0))) (.block 1 (.sO [.mv p6 q3 .v, .mv p7 q0 tI, .bn p8 .rem q7 (ci 65536) tI, .al p9 (.bsl [(kI 0)] 1 [⟨0, 1, q8⟩]), .o ⟨(some p10), (.e (.app 1 8 q6 q9)), none, []⟩ .v, .mv p3 q10 .v] (.s (.oX [.mv p11 q0 tI, .bn p12 .quo q11 (ci 65536) tI, .mv p0 q12 tI])))))
def c41_e : XC := (.sO [.mv p2 (.c .nils) .v] (.sO [.mv p3 (.c .nils) .v] (.sj v41_0 (.block 0 (.loop v41_1 c41_1b)) c41_0)))
def x41 : XFn := ⟨[tI], false, [(.tmp p2)], c41_e⟩
def e41_0 (k t3 h) := kN k [(p3, t3)] h
def S41_0 (D : CallD) (m : Nat) (t3 : AV) (h : HP) : Res2 :=
 some (.ret t3 h, .no)
def e41_1 (k t0 t3 h) := kN k [(p0, (vI t0)), (p3, t3)] h
def S41_1b (D : CallD) (m : Nat) (g1 : Int → AV → HP → Res2) (t0 : Int) (t3 : AV) (h : HP) : Res2 :=
 let t5 := ltQ (Int.ofNat 0) t0
 br t5 (
 let t8 := Int.tmod t0 (Int.ofNat 65536)
 let t9 := AV.slice (HP.nxQ h) 0 1 (.exact 1)
 let h3 := HP.newQ h (.cells true [(vI t8)])
 eff (.app 1 8 (.c t3) (.c t9)) h3 fun t10 h4 =>
 let t12 := wrapF .i64 (Int.tdiv t0 (Int.ofNat 65536))
 g1 t12 t10 h4) (
 S41_0 D m t3 h)
def S41_1 (D : CallD) (m : Nat) : Int → AV → HP → Res2 := nrec (fun _ _ _ => none) (fun _ g => S41_1b D m g) m
def e41_2 (k t0 h) := kN k [(p0, (vI t0))] h
def S41_2 (D : CallD) (m : Nat) (t0 : Int) (h : HP) : Res2 :=
 S41_1 D m t0 (.nils : AV) h
def S41 : SFn := fun D m args h u => nou u <| popI .i64 args fun t0 args => endA args (S41_2 D m t0 h)
theorem T41_0 (hE : FX x41 D m E) : S41_0 D m = e41_0 (E c41_0 []) := by unfold S41_0; rw [hE c41_0]; kernel_rfl
theorem T41_1b (hE : FX x41 D m E) (G1) : S41_1b D m (e41_1 G1) = e41_1 (E c41_1b [.lp v41_1 G1, .blk 0, .sj v41_0 c41_0]) := by unfold S41_1b; rw [T41_0 hE, hE c41_1b]; kernel_rfl
theorem T41_1 (hE : FX x41 D m E) : S41_1 D m = e41_1 (nrec (fun _ => none) (fun _ G1 st => E c41_1b [.lp v41_1 G1, .blk 0, .sj v41_0 c41_0] st) m) :=
  nrec_emb e41_1 (fun _ _ _ => none) (fun g => S41_1b D m g) (fun G1 st => E c41_1b [.lp v41_1 G1, .blk 0, .sj v41_0 c41_0] st) rfl (fun g => T41_1b hE g) m
theorem T41_2 (hE : FX x41 D m E) : S41_2 D m = e41_2 (E c41_e []) := by unfold S41_2; rw [T41_1 hE, hE c41_e]; kernel_rfl
theorem X41 : XTie S41 x41 := X_of fun D m E hE args h u => by unfold S41; rw [T41_2 hE]; kernel_rfl
/- 48 -/
def v48_0 : List Pos := [p2, p8, p9]
def c48_0 : XC := (.seq (.seq (.oX [.fa p46 3 q8, .ld p47 q46 tI, .bn p48 .neq q47 (ci 0) .b]) (.cond q48 (.seq (.ops true (XL.of [.P p49 (.build [.nils] []) .v, .fa p50 4 q8, .ld p51 q50 tI, .fa p52 3 q8, .ld p53 q52 tI, .o ⟨none, (.e (.stores 1 q2 q49)), none, [⟨none, .cell q50, p51⟩, ⟨none, .cell q52, p53⟩]⟩ .v, .mv p3 q51 tI, .mv p4 q53 tI])) .ret) .skip)) (.sO [.L p54 (.cells 1 q9) .v, .ss 1 q2 q54, .mv p3 (ci 0) tI, .mv p4 (ci 0) tI] (.s .ret)))
def v48_2 : List Pos := [p2, p8, p9]
def c48_2 : XC := (.block 1 (.sO [.P p34 (.build [(.bool false), (.bool false), (.bool false), (.str []), (kI 0), (kI 0), .nils, (.bool false), .nils, (kI 0), .nils, .nils, (.str []), (kI 0), (kI 0), (kI 0), (kI 0)] []) .v, .al p10 (.new [(.bool false), (.bool false), (.bool false), (.str []), (kI 0), (kI 0), .nils, (.bool false), .nils, (kI 0), .nils, .nils, (.str []), (kI 0), (kI 0), (kI 0), (kI 0)]), .ss 17 q10 q34] (.sO [.L p36 (.cells 5 q8) .v, .cl p37 83 [q36] .v, .mv p35 q37 .v, .P p38 (.ext q35 0) .v, .P p39 (.ext q35 1) .v, .ss 5 q8 q38, .ss 17 q10 q39] (.s (.oX [.fa p40 0 q9, .ld p41 q40 .v, .L p42 (.cells 17 q10) .v, .al p43 (.bsl [(.bool false), (.bool false), (.bool false), (.str []), (kI 0), (kI 0), .nils, (.bool false), .nils, (kI 0), .nils, .nils, (.str []), (kI 0), (kI 0), (kI 0), (kI 0)] 1 [⟨0, 17, q42⟩]), .o ⟨(some p44), (.e (.app 17 200 q41 q43)), none, []⟩ .v, .fa p45 0 q9, .st q45 q44])))))
def c48_4 : XC := (.cond q33 (.s .skip) (.s (.exit 0)))
def l48_3 : XL := (XL.of [])
def v48_1 : List Pos := [p2, p8, p9]
def c48_1b : XC := (.sj v48_2 (.opq false (XL.pre [.fa p25 3 q8, .ld p26 q25 tI, .bn p27 .eql q26 (ci 0) .b, .mv p28 q27 .b, .sp p28, .o ⟨(some p29), (.l (.cells 5 q8)), (some (p28, true)), []⟩ .v, .o ⟨(some p30), (.call (.fn 82) [q29]), (some (p28, true)), []⟩ .v, .G p28 true p31 (.field 0 1 false q30) tI, .G p28 true p32 (.bin .neq q31 (ci 0)) .b, .P p33 (.pick q28 q32 (cb false)) .b, .jn p28 [p2, p8, p9, p33]] l48_3) c48_4) c48_2)
def c48_e : XC := (.sO [.al p2 (.new [.nils]), .mv p3 (ci 0) tI, .mv p4 (ci 0) tI] (.sO [.mv p12 q0 .s, .cl p13 81 [q12] .v, .mv p11 q13 .v, .P p14 (.ext q11 0) .v, .P p15 (.ext q11 1) tI, .P p16 (.ext q11 2) tI, .mv p5 q14 .v, .mv p6 q15 tI, .mv p7 q16 tI] (.seq (.seq (.oX [.mv p17 q7 tI, .bn p18 .neq q17 (ci 0) .b]) (.cond q18 (.seq (.oX [.P p19 (.build [.nils] []) .v, .mv p20 q6 tI, .mv p21 q7 tI, .ss 1 q2 q19, .mv p3 q20 tI, .mv p4 q21 tI]) .ret) .skip)) (.sO [.mv p22 q5 .v, .P p23 (.build [.nils, (kI 0), (kI 0), (kI 0), (kI 0)] [⟨0, 1, q22⟩]) .v, .al p8 (.new [.nils, (kI 0), (kI 0), (kI 0), (kI 0)]), .ss 5 q8 q23] (.sO [.P p24 (.build [.nils] []) .v, .al p9 (.new [.nils]), .ss 1 q9 q24] (.sj v48_0 (.block 0 (.loop v48_1 c48_1b)) c48_0))))))
def x48 : XFn := ⟨[.s], false, [(.cells 1 p2), (.tmp p3), (.tmp p4)], c48_e⟩
def S48 : SFn := evFX x48
theorem X48 : XTie S48 x48 := fun _ _ _ _ _ => rfl
/- 49 -/
def v49_1 : List Pos := [p2, p5, p6]
def c49_1 : XC := (.seq (.seq (.oX [.fa p109 5 q5, .ld p110 q109 tI, .bn p111 .neq q110 (ci 0) .b]) (.cond q111 (.seq (.ops true (XL.of [.P p112 (.build [.nils] []) .v, .fa p113 6 q5, .ld p114 q113 tI, .fa p115 5 q5, .ld p116 q115 tI, .o ⟨none, (.e (.stores 1 q2 q112)), none, [⟨none, .cell q113, p114⟩, ⟨none, .cell q115, p116⟩]⟩ .v, .mv p3 q114 tI, .mv p4 q116 tI])) .ret) .skip)) (.sO [.L p117 (.cells 1 q6) .v, .ss 1 q2 q117, .mv p3 (ci 0) tI, .mv p4 (ci 0) tI] (.s .ret)))
def v49_3 : List Pos := [p1, p2, p5, p6, p47, p48]
def c49_3 : XC := (.s (.oX [.bn p108 .add q48 (ci 1) tI, .mv p48 q108 tI]))
def v49_4 : List Pos := [p1, p2, p5, p6, p9, p10, p47, p48]
def c49_4 : XC := (.sO [.mv p98 q10 .b, .P p99 (.un .not q98) .b] (.cond q99 (.s (.ops true (XL.of [.L p100 (.cells 7 q5) .v, .fa p101 0 q1, .ld p102 q101 .v, .mv p103 q9 tI, .P p104 (.iaddr (.sl 17) q102 q103) .v, .fa p105 16 q104, .ld p106 q105 tI, .cl p107 86 [q100, (ci 13), q106] .v, .ss 7 q5 q107]))) (.s .skip)))
def v49_5 : List Pos := [p1, p2, p5, p6, p9, p10, p47, p48, p69, p70]
def c49_5b : XC := (.sO [.bn p71 .lss q70 q69 .b] (.seq (.cond q71 .skip (.exit 4)) (.seq (.block 5 (.seq (.oX [.mv p72 q70 tI, .mv p11 q72 tI]) (.ops true (XL.of [.mv p73 q10 .b, .mv p74 q73 .b, .ge p74 (XL.of [.G p74 false p75 (.faddr 0 q1) .v, .o ⟨(some p76), (.l (.cell q75)), (some (p74, false)), []⟩ .v, .G p74 false p77 (.mov q11) tI, .G p74 false p78 (.iaddr (.sl 17) q76 q77) .v, .G p74 false p79 (.faddr 3 q78) .v, .o ⟨(some p80), (.l (.cell q79)), (some (p74, false)), []⟩ .s, .G p74 false p81 (.faddr 0 q1) .v, .o ⟨(some p82), (.l (.cell q81)), (some (p74, false)), []⟩ .v, .G p74 false p83 (.mov q9) tI, .G p74 false p84 (.iaddr (.sl 17) q82 q83) .v, .G p74 false p85 (.faddr 3 q84) .v, .o ⟨(some p86), (.l (.cell q85)), (some (p74, false)), []⟩ .s, .G p74 false p87 (.bin .eql q80 q86) .b, .G p74 false p88 (.mov q87) .b, .ge p88 (XL.of [.G p88 true p89 (.faddr 0 q1) .v, .o ⟨(some p90), (.l (.cell q89)), (some (p88, true)), []⟩ .v, .G p88 true p91 (.mov q11) tI, .G p88 true p92 (.iaddr (.sl 17) q90 q91) .v, .G p88 true p93 (.faddr 7 q92) .v, .o ⟨(some p94), (.l (.cell q93)), (some (p88, true)), []⟩ .b, .G p74 false p95 (.pick q88 q94 (cb false)) .b]) p95 .b, .P p96 (.pick q74 (cb true) q95) .b]) p96 .b, .mv p10 q96 .b])))) (.s (.oX [.bn p97 .add q70 (ci 1) tI, .mv p70 q97 tI])))))
def v49_2 : List Pos := [p1, p2, p5, p6, p47, p48]
def c49_2b : XC := (.sO [.bn p49 .lss q48 q47 .b] (.seq (.cond q49 .skip (.exit 2)) (.sj v49_3 (.block 3 (.sO [.mv p50 q48 tI, .mv p9 q50 tI] (.sO [.fa p51 0 q1, .ld p52 q51 .v, .mv p53 q9 tI, .P p54 (.iaddr (.sl 17) q52 q53) .v, .fa p55 0 q54, .ld p56 q55 .b, .P p57 (.un .not q56) .b, .mv p58 q57 .b, .ge p58 (XL.of [.G p58 false p59 (.faddr 0 q1) .v, .o ⟨(some p60), (.l (.cell q59)), (some (p58, false)), []⟩ .v, .G p58 false p61 (.mov q9) tI, .G p58 false p62 (.iaddr (.sl 17) q60 q61) .v, .G p58 false p63 (.faddr 1 q62) .v, .o ⟨(some p64), (.l (.cell q63)), (some (p58, false)), []⟩ .b, .G p58 false p65 (.un .not q64) .b, .P p66 (.pick q58 (cb true) q65) .b]) p66 .b, .mv p10 q66 .b] (.sj v49_4 (.sO [.fa p67 0 q1, .ld p68 q67 .v, .P p69 (.lenl q68) tI, .mv p70 (ci 0) tI] (.block 4 (.loop v49_5 c49_5b))) c49_4)))) c49_3)))
def v49_0 : List Pos := [p1, p2, p5, p6]
def c49_0 : XC := (.sj v49_1 (.sO [.fa p45 0 q1, .ld p46 q45 .v, .P p47 (.lenl q46) tI, .mv p48 (ci 0) tI] (.block 2 (.loop v49_2 c49_2b))) c49_1)
def v49_7 : List Pos := [p1, p2, p5, p6, p16, p17]
def c49_7 : XC := (.s (.oX [.bn p44 .add q17 (ci 1) tI, .mv p17 q44 tI]))
def v49_8 : List Pos := [p1, p2, p5, p6, p8, p16, p17]
def c49_8 : XC := (.s (.oX [.fa p38 0 q6, .ld p39 q38 .v, .L p40 (.cells 17 q8) .v, .al p41 (.bsl [(.bool false), (.bool false), (.bool false), (.str []), (kI 0), (kI 0), .nils, (.bool false), .nils, (kI 0), .nils, .nils, (.str []), (kI 0), (kI 0), (kI 0), (kI 0)] 1 [⟨0, 17, q40⟩]), .o ⟨(some p42), (.e (.app 17 200 q39 q41)), none, []⟩ .v, .fa p43 0 q6, .st q43 q42]))
def v49_6 : List Pos := [p1, p2, p5, p6, p16, p17]
def c49_6b : XC := (.sO [.bn p18 .lss q17 q16 .b] (.seq (.cond q18 .skip (.exit 0)) (.sj v49_7 (.block 1 (.sO [.mv p19 q17 tI, .mv p7 q19 tI] (.sO [.P p20 (.build [(.bool false), (.bool false), (.bool false), (.str []), (kI 0), (kI 0), .nils, (.bool false), .nils, (kI 0), .nils, .nils, (.str []), (kI 0), (kI 0), (kI 0), (kI 0)] []) .v, .al p8 (.new [(.bool false), (.bool false), (.bool false), (.str []), (kI 0), (kI 0), .nils, (.bool false), .nils, (kI 0), .nils, .nils, (.str []), (kI 0), (kI 0), (kI 0), (kI 0)]), .ss 17 q8 q20] (.sj v49_8 (.sO [.fa p21 5 q5, .ld p22 q21 tI, .bn p23 .eql q22 (ci 0) .b] (.cond q23 (.s (.ops true (XL.of [.L p25 (.cells 7 q5) .v, .fa p26 0 q1, .ld p27 q26 .v, .mv p28 q7 tI, .P p29 (.iaddr (.sl 17) q27 q28) .v, .L p30 (.cells 17 q29) .v, .fa p31 0 q1, .ld p32 q31 .v, .mv p33 q7 tI, .P p34 (.slice (.sl 17) q32 none (some q33) none) .v, .cl p35 85 [q25, q30, q34] .v, .mv p24 q35 .v, .P p36 (.ext q24 0) .v, .P p37 (.ext q24 1) .v, .ss 7 q5 q36, .ss 17 q8 q37]))) (.s .skip))) c49_8)))) c49_7)))
def c49_e : XC := (.sO [.al p1 (.box q0), .al p2 (.new [.nils]), .mv p3 (ci 0) tI, .mv p4 (ci 0) tI] (.sO [.cl p12 84 [] .v, .al p5 (.new [.nils, (kI 0), (kI 0), (kI 0), (kI 0), (kI 0), (kI 0)]), .ss 7 q5 q12] (.sO [.P p13 (.build [.nils] []) .v, .al p6 (.new [.nils]), .ss 1 q6 q13] (.sj v49_0 (.sO [.fa p14 0 q1, .ld p15 q14 .v, .P p16 (.lenl q15) tI, .mv p17 (ci 0) tI] (.block 0 (.loop v49_6 c49_6b))) c49_0))))
def x49 : XFn := ⟨[.v], false, [(.cells 1 p2), (.tmp p3), (.tmp p4)], c49_e⟩
def S49 : SFn := evFX x49
theorem X49 : XTie S49 x49 := fun _ _ _ _ _ => rfl
/- 50 -/
def v50_0 : List Pos := [p5]
def c50_0 : XC := (.sO [.mv p121 q5 .v, .mv p2 q121 .v, .mv p3 (ci 0) tI, .mv p4 (ci 0) tI] (.s .ret))
def v50_2 : List Pos := [p1, p5, p19, p20, p21]
def c50_2 : XC := (.s (.oX [.bn p120 .add q21 (ci 1) tI, .mv p21 q120 tI]))
def v50_3 : List Pos := [p1, p5, p9, p19, p20, p21]
def c50_3 : XC := (.s (.oX [.mv p116 q5 .v, .L p117 (.cells 4 q9) .v, .al p118 (.bsl [(.str []), (.bool false), .nils, .nils] 1 [⟨0, 4, q117⟩]), .o ⟨(some p119), (.e (.app 4 72 q116 q118)), none, []⟩ .v, .mv p5 q119 .v]))
def v50_5 : List Pos := [p1, p5, p7, p8, p9, p19, p20, p21, p48, p49, p50]
def c50_5 : XC := (.s (.oX [.bn p115 .add q50 (ci 1) tI, .mv p50 q115 tI]))
def v50_7 : List Pos := [p1, p5, p7, p8, p9, p10, p15, p19, p20, p21, p48, p49, p50, p97, p98]
def c50_7b : XC := (.sO [.bn p99 .lss q98 q97 .b] (.seq (.cond q99 .skip (.exit 5)) (.seq (.block 6 (.seq (.oX [.mv p100 q98 tI, .mv p17 q100 tI]) (.ops true (XL.of [.fa p101 2 q9, .ld p102 q101 .v, .mv p103 q8 tI, .mv p104 q10 tI, .bn p105 .mul q103 q104 tI, .mv p106 q17 tI, .bn p107 .add q105 q106 tI, .mv p108 q15 (.i .u64), .mv p109 q17 tI, .bn p110 .mul (ci 8) q109 tI, .bn p111 .shr q108 q110 (.i .u64), .P p112 (.conv (.ii .u8) q111) tC, .P p113 (.iaddr (.sl 1) q102 q107) .v, .st q113 q112])))) (.s (.oX [.bn p114 .add q98 (ci 1) tI, .mv p98 q114 tI])))))
def v50_6 : List Pos := [p1, p5, p7, p8, p9, p10, p15, p19, p20, p21, p48, p49, p50]
def c50_6 : XC := (.sO [.mv p97 q8 tI, .mv p98 (ci 0) tI] (.block 5 (.loop v50_7 c50_7b)))
def v50_8 : List Pos := [p1, p5, p7, p8, p9, p10, p12, p15, p16, p19, p20, p21, p48, p49, p50]
def c50_8 : XC := (.s (.oX [.fa p82 3 q9, .ld p83 q82 .v, .mv p84 q8 tI, .mv p85 q10 tI, .bn p86 .mul q84 q85 tI, .fa p87 3 q12, .ld p88 q87 .s, .mv p89 q16 tI, .fa p90 4 q12, .ld p91 q90 tI, .bn p92 .mul q89 q91 tI, .P p93 (.build [(kI 0), (.str []), (kI 0)] [⟨0, 1, q86⟩, ⟨1, 1, q88⟩, ⟨2, 1, q92⟩]) .v, .al p94 (.bsl [(kI 0), (.str []), (kI 0)] 1 [⟨0, 3, q93⟩]), .o ⟨(some p95), (.e (.app 3 32 q83 q94)), none, []⟩ .v, .fa p96 3 q9, .st q96 q95]))
def v50_4 : List Pos := [p1, p5, p7, p8, p9, p19, p20, p21, p48, p49, p50]
def c50_4b : XC := (.sO [.bn p51 .lss q50 q49 .b] (.seq (.cond q51 .skip (.exit 2)) (.sj v50_5 (.block 3 (.sO [.mv p52 q50 tI, .P p53 (.iaddr (.sl 8) q48 q50) .v, .L p54 (.cells 8 q53) .v, .al p11 (.new [(kI 0), (.str []), (.str []), (.int .u32 (.ofNat 0)), (.int .u64 (.ofNat 0)), .nils, (kI 0), (kI 0)]), .mv p10 q52 tI, .ss 8 q11 q54] (.sO [.L p56 (.cells 1 q1) .v, .L p57 (.cells 8 q11) .v, .cl p58 88 [q56, q57] .v, .mv p55 q58 .v, .P p59 (.ext q55 0) .v, .P p60 (.ext q55 1) tI, .P p61 (.ext q55 2) tI, .al p12 (.new [(kI 0), (.int .u32 (.ofNat 0)), (.int .u64 (.ofNat 0)), (.str []), (kI 0)]), .ss 5 q12 q59, .mv p13 q60 tI, .mv p14 q61 tI] (.seq (.seq (.oX [.mv p62 q14 tI, .bn p63 .neq q62 (ci 0) .b]) (.cond q63 (.seq (.oX [.mv p64 q13 tI, .mv p65 q14 tI, .mv p2 (.c .nils) .v, .mv p3 q64 tI, .mv p4 q65 tI]) .ret) .skip)) (.sO [.fa p66 1 q12, .ld p67 q66 tW, .P p68 (.conv (.ii .u64) q67) (.i .u64), .mv p15 q68 (.i .u64)] (.sj v50_6 (.block 4 (.sO [.fa p70 4 q7, .ld p71 q70 tI, .bn p72 .eql q71 (ci 2) .b, .mv p69 q72 .b] (.cond q69 (.s (.oX [.fa p73 2 q12, .ld p74 q73 (.i .u64), .mv p15 q74 (.i .u64)])) (.sO [.fa p76 3 q12, .ld p77 q76 .s, .bn p78 .neq q77 (.c (.str [])) .b, .mv p75 q78 .b] (.cond q75 (.sO [.mv p16 (ci 4) tI] (.sj v50_8 (.sO [.fa p79 0 q12, .ld p80 q79 tI, .bn p81 .eql q80 (ci 4) .b] (.cond q81 (.s (.oX [.mv p16 (ci 8) tI])) (.s .skip))) c50_8)) (.s .skip)))))) c50_6)))))) c50_5)))
def v50_1 : List Pos := [p1, p5, p19, p20, p21]
def c50_1b : XC := (.sO [.bn p22 .lss q21 q20 .b] (.seq (.cond q22 .skip (.exit 0)) (.sj v50_2 (.block 1 (.sO [.P p23 (.iaddr (.sl 17) q19 q21) .v, .L p24 (.cells 17 q23) .v, .al p7 (.new [(.bool false), (.bool false), (.bool false), (.str []), (kI 0), (kI 0), .nils, (.bool false), .nils, (kI 0), .nils, .nils, (.str []), (kI 0), (kI 0), (kI 0), (kI 0)]), .ss 17 q7 q24] (.seq (.seq (.oX [.fa p25 0 q7, .ld p26 q25 .b, .mv p27 q26 .b, .ge p27 (XL.of [.G p27 false p28 (.faddr 2 q7) .v, .o ⟨(some p29), (.l (.cell q28)), (some (p27, false)), []⟩ .b, .P p30 (.pick q27 (cb true) q29) .b]) p30 .b]) (.cond q30 (.exit 1) .skip)) (.sO [.fa p31 4 q7, .ld p32 q31 tI, .cl p33 87 [q32] tI, .mv p8 q33 tI] (.seq (.ops true (XL.of [.fa p34 3 q7, .ld p35 q34 .s, .fa p36 1 q7, .ld p37 q36 .b, .mv p38 q8 tI, .fa p39 5 q7, .ld p40 q39 tI, .P p41 (.mm true [q40, (ci 1)]) tI, .bn p42 .mul q38 q41 tI, .bn p43 .add q42 (ci 7) tI, .bn p44 .andNot q43 (ci 7) tI, .al p45 (.mksl [(.int .u8 (.ofNat 0))] 1 q44 q44), .P p46 (.build [(.str []), (.bool false), .nils, .nils] [⟨0, 1, q35⟩, ⟨1, 1, q37⟩, ⟨2, 1, q45⟩]) .v, .al p9 (.new [(.str []), (.bool false), .nils, .nils]), .ss 4 q9 q46])) (.sj v50_3 (.sO [.fa p47 6 q7, .ld p48 q47 .v, .P p49 (.lenl q48) tI, .mv p50 (ci 0) tI] (.block 2 (.loop v50_4 c50_4b))) c50_3)))))) c50_2)))
def c50_e : XC := (.sO [.al p1 (.box q0), .mv p2 (.c .nils) .v, .mv p3 (ci 0) tI, .mv p4 (ci 0) tI] (.sO [.mv p5 (.c .nils) .v] (.sj v50_0 (.sO [.fa p18 0 q1, .ld p19 q18 .v, .P p20 (.lenl q19) tI, .mv p21 (ci 0) tI] (.block 0 (.loop v50_1 c50_1b))) c50_0)))
def x50 : XFn := ⟨[.v], false, [(.tmp p2), (.tmp p3), (.tmp p4)], c50_e⟩
def S50 : SFn := evFX x50
theorem X50 : XTie S50 x50 := fun _ _ _ _ _ => rfl
/- 51 -/
def v51_1 : List Pos := [p1, p2, p3]
def c51_1 : XC := (.sO [.mv p74 q3 .v, .fa p75 9 q1, .fa p76 2 q75, .ld p77 q76 .v, .cl p78 93 [q74, q77] .v] (.sO [.mv p79 q3 .v, .cl p80 94 [q79, (.c .nils)] .v] (.sO [.mv p81 q3 .v, .P p82 (.nilck q81) .v, .fa p83 0 q82, .L p84 (.cells 6 q83) .v, .ss 6 q2 q84] (.s .ret))))
def v51_2 : List Pos := [p1, p2, p3, p52, p53, p54]
def c51_2b : XC := (.sO [.bn p55 .lss q54 q53 .b] (.seq (.cond q55 .skip (.exit 2)) (.seq (.block 3 (.seq (.oX [.mv p56 q54 tI, .P p57 (.iaddr (.sl 3) q52 q54) .v, .L p58 (.cells 3 q57) .v, .al p7 (.new [(.str []), (kI 0), (kI 0)]), .mv p6 q56 tI, .ss 3 q7 q58]) (.ops true (XL.of [.mv p59 q3 .v, .fa p60 0 q7, .ld p61 q60 .s, .fa p62 1 q7, .ld p63 q62 tI, .mv p64 q3 .v, .P p65 (.nilck q64) .v, .fa p66 0 q65, .fa p67 2 q66, .ld p68 q67 .v, .mv p69 q6 tI, .P p70 (.iaddr (.sl 1) q68 q69) .v, .ld p71 q70 tI, .cl p72 92 [q59, q61, q63, (ci 0), q71] .v])))) (.s (.oX [.bn p73 .add q54 (ci 1) tI, .mv p54 q73 tI])))))
def v51_0 : List Pos := [p1, p2, p3]
def c51_0 : XC := (.sj v51_1 (.sO [.fa p51 8 q1, .ld p52 q51 .v, .P p53 (.lenl q52) tI, .mv p54 (ci 0) tI] (.block 2 (.loop v51_2 c51_2b))) c51_1)
def v51_3 : List Pos := [p1, p2, p3, p28, p29, p30]
def c51_3b : XC := (.sO [.bn p31 .lss q30 q29 .b] (.seq (.cond q31 .skip (.exit 0)) (.seq (.block 1 (.seq (.oX [.P p32 (.iaddr (.sl 3) q28 q30) .v, .L p33 (.cells 3 q32) .v, .al p5 (.new [(.str []), (kI 0), (kI 0)]), .ss 3 q5 q33]) (.ops true (XL.of [.mv p34 q3 .v, .mv p35 q3 .v, .P p36 (.nilck q35) .v, .fa p37 0 q36, .fa p38 2 q37, .ld p39 q38 .v, .mv p40 q3 .v, .fa p41 1 q5, .ld p42 q41 tI, .o ⟨(some p43), (.call (.fn 91) [q42]), none, [⟨none, .cell q38, p39⟩]⟩ tI, .o ⟨(some p44), (.call (.fn 90) [q40, q43]), none, [⟨none, .cell q38, p39⟩]⟩ tI, .al p45 (.bsl [(kI 0)] 1 [⟨0, 1, q44⟩]), .o ⟨(some p46), (.e (.app 1 8 q39 q45)), none, []⟩ .v, .P p47 (.nilck q34) .v, .fa p48 0 q47, .fa p49 2 q48, .st q49 q46])))) (.s (.oX [.bn p50 .add q30 (ci 1) tI, .mv p30 q50 tI])))))
def c51_e : XC := (.sO [.al p1 (.box q0), .al p2 (.new [(.str []), (.bool false), .nils, .nils, .nils, .nils])] (.sO [.fa p8 3 q1, .ld p9 q8 .s, .fa p10 1 q1, .ld p11 q10 .b, .P p12 (.build [(.str []), (.bool false), .nils, .nils, .nils, .nils] [⟨0, 1, q9⟩, ⟨1, 1, q11⟩]) .v, .al p13 (.mkmap), .al p14 (.mkmap), .fa p15 4 q1, .ld p16 q15 tI, .P p17 (.build [(.str []), (.bool false), .nils, .nils, .nils, .nils, .nilm, .nilm, (kI 0), .nils] [⟨0, 6, q12⟩, ⟨6, 1, q13⟩, ⟨7, 1, q14⟩, ⟨8, 1, q16⟩]) .v, .al p18 (.box q17), .mv p3 q18 .v] (.seq (.ops true (XL.of [.fa p19 9 q1, .fa p20 2 q19, .ld p21 q20 .v, .mv p22 q3 .v, .P p23 (.nilck q22) .v, .fa p24 7 q23, .ld p25 q24 .v, .cl p26 89 [q21, q25] .v])) (.sj v51_0 (.sO [.fa p27 8 q1, .ld p28 q27 .v, .P p29 (.lenl q28) tI, .mv p30 (ci 0) tI] (.block 0 (.loop v51_3 c51_3b))) c51_0))))
def x51 : XFn := ⟨[.v], false, [(.cells 6 p2)], c51_e⟩
def S51 : SFn := evFX x51
theorem X51 : XTie S51 x51 := fun _ _ _ _ _ => rfl
end
end Go.Proofs.YtcoldhmbmcdemaaGreat.Sx
