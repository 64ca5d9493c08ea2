/- Functions, printed by a program of ours: their code, what they do, and that it is so. -/
import Derived.Test.YtblciblkocameaaGreatSp
set_option maxRecDepth 8000
set_option linter.unusedVariables false
namespace Go.Proofs.YtblciblkocameaaGreat.Sx
open Go Go.Proofs.YtblciblkocameaaGreat.Ev
set_option linter.unusedSectionVars false
noncomputable section
variable [Rho]
variable {D : CallD} {m : Nat} {E : XE}
/- 186 -/
def v186_0 : List Pos := [p2, p3]
def c186_0 : XC := (.seq (.seq (.oX [.fa p28 5 q2, .ld p29 q28 .v, .L p30 (.eqp false q29 (.c .nilp)) .b, .mv p31 q30 .b, .ge p31 (XL.of [.G p31 false p32 (.faddr 5 q3) .v, .o ⟨(some p33), (.l (.cell q32)), (some (p31, false)), []⟩ .v, .o ⟨(some p34), (.l (.eqp false q33 (.c .nilp))), (some (p31, false)), []⟩ .b, .P p35 (.pick q31 (cb true) q34) .b]) p35 .b]) (.cond q35 (.seq (.oX [.fa p36 5 q2, .ld p37 q36 .v, .fa p38 5 q3, .ld p39 q38 .v, .L p40 (.eqp false q37 q39) .b, .mv p4 q40 .b]) .ret) .skip)) (.seq (.ops true (XL.of [.fa p41 5 q2, .ld p42 q41 .v, .fa p43 5 q3, .ld p44 q43 .v, .L p45 (.eqp false q42 q44) .b, .mv p46 q45 .b, .ge p46 (XL.of [.G p46 false p47 (.faddr 6 q2) .v, .o ⟨(some p48), (.l (.cell q47)), (some (p46, false)), []⟩ tI, .G p46 false p49 (.faddr 5 q2) .v, .o ⟨(some p50), (.l (.cell q49)), (some (p46, false)), []⟩ .v, .G p46 false p51 (.nilck q50) .v, .G p46 false p52 (.faddr 0 q51) .v, .o ⟨(some p53), (.l (.cell q52)), (some (p46, false)), []⟩ .v, .G p46 false p54 (.lenl q53) tI, .G p46 false p55 (.bin .lss q48 q54) .b, .G p46 false p56 (.mov q55) .b, .ge p56 (XL.of [.G p56 true p57 (.faddr 6 q3) .v, .o ⟨(some p58), (.l (.cell q57)), (some (p56, true)), []⟩ tI, .G p56 true p59 (.faddr 5 q3) .v, .o ⟨(some p60), (.l (.cell q59)), (some (p56, true)), []⟩ .v, .G p56 true p61 (.nilck q60) .v, .G p56 true p62 (.faddr 0 q61) .v, .o ⟨(some p63), (.l (.cell q62)), (some (p56, true)), []⟩ .v, .G p56 true p64 (.lenl q63) tI, .G p56 true p65 (.bin .lss q58 q64) .b, .G p46 false p66 (.pick q56 q65 (cb false)) .b]) p66 .b, .P p67 (.pick q46 (cb true) q66) .b]) p67 .b, .cl p68 46 [q67] .v])) (.sO [.fa p69 5 q2, .ld p70 q69 .v, .fa p71 5 q3, .ld p72 q71 .v, .L p73 (.eqp false q70 q72) .b, .mv p74 q73 .b, .ge p74 (XL.of [.G p74 true p75 (.faddr 6 q2) .v, .o ⟨(some p76), (.l (.cell q75)), (some (p74, true)), []⟩ tI, .G p74 true p77 (.faddr 6 q3) .v, .o ⟨(some p78), (.l (.cell q77)), (some (p74, true)), []⟩ tI, .G p74 true p79 (.bin .eql q76 q78) .b, .P p80 (.pick q74 q79 (cb false)) .b]) p80 .b, .mv p4 q80 .b] (.s .ret))))
def v186_1 : List Pos := [p2, p3, p9, p10, p11]
def c186_1b : XC := (.sO [.bn p12 .lss q11 q10 .b] (.seq (.cond q12 .skip (.exit 0)) (.seq (.block 1 (.seq (.oX [.P p13 (.iaddr (.sl 7) q9 q11) .v, .L p14 (.cells 7 q13) .v, .al p6 (.new [(kI 0), (.int .u32 (.ofNat 0)), (.int .u64 (.ofNat 0)), (.str []), (kI 0), .nilp, (kI 0)]), .ss 7 q6 q14]) (.oX [.fa p15 5 q6, .ld p16 q15 .v, .L p17 (.eqp false q16 (.c .nilp)) .b, .mv p18 q17 .b, .ge p18 (XL.of [.G p18 false p19 (.faddr 5 q6) .v, .o ⟨(some p20), (.l (.cell q19)), (some (p18, false)), []⟩ .v, .G p18 false p21 (.nilck q20) .v, .G p18 false p22 (.faddr 1 q21) .v, .o ⟨(some p23), (.l (.cell q22)), (some (p18, false)), []⟩ .b, .G p18 false p24 (.un .not q23) .b, .P p25 (.pick q18 (cb true) q24) .b]) p25 .b, .cl p26 46 [q25] .v]))) (.s (.oX [.bn p27 .add q11 (ci 1) tI, .mv p11 q27 tI])))))
def c186_e : XC := (.sO [.al p2 (.box q0), .al p3 (.box q1), .mv p4 (cb false) .b] (.sj v186_0 (.sO [.L p7 (.cells 7 q2) .v, .L p8 (.cells 7 q3) .v, .al p9 (.bsl [(kI 0), (.int .u32 (.ofNat 0)), (.int .u64 (.ofNat 0)), (.str []), (kI 0), .nilp, (kI 0), (kI 0), (.int .u32 (.ofNat 0)), (.int .u64 (.ofNat 0)), (.str []), (kI 0), .nilp, (kI 0)] 2 [⟨0, 7, q7⟩, ⟨7, 7, q8⟩]), .P p10 (.lenl q9) tI, .mv p11 (ci 0) tI] (.block 0 (.loop v186_1 c186_1b))) c186_0))
def x186 : XFn := ⟨[.v, .v], false, [(.tmp p4)], c186_e⟩
def e186_0 (k t2 t3 h) := kN k [(p2, t2), (p3, t3)] h
def S186_0 (D : CallD) (m : Nat) (t2 t3 : AV) (h : HP) : Res2 :=
 faC 5 t2 fun t28 =>
 cellC t28 h fun t29 =>
 obB (eqPtr false t29 (.nilp : AV) h) fun t30 =>
 obB (brV t30 (
 some (vB true)) (
 faCV 5 t3 fun t32 =>
 cellCV t32 h fun t33 =>
 obBV (eqPtr false t33 (.nilp : AV) h) fun t34 =>
 some (vB t34))) fun t35 =>
 br t35 (
 faC 5 t2 fun t36 =>
 cellC t36 h fun t37 =>
 faC 5 t3 fun t38 =>
 cellC t38 h fun t39 =>
 obB (eqPtr false t37 t39 h) fun t40 =>
 some (.ret (vB t40) h, .no)) (
 faC 5 t2 fun t41 =>
 cellC t41 h fun t42 =>
 faC 5 t3 fun t43 =>
 cellC t43 h fun t44 =>
 obB (eqPtr false t42 t44 h) fun t45 =>
 obB (brV t45 (
 some (vB true)) (
 faCV 6 t2 fun t47 =>
 ldIV t47 h fun t48 =>
 faCV 5 t2 fun t49 =>
 cellCV t49 h fun t50 =>
 nilckCV t50 fun t51 =>
 faCV 0 t51 fun t52 =>
 cellCV t52 h fun t53 =>
 lenCV t53 fun vt54 => asIV .i64 vt54 fun t54 =>
 let t55 := ltQ t48 t54
 obBV (brV t55 (
 faCV 6 t3 fun t57 =>
 ldIV t57 h fun t58 =>
 faCV 5 t3 fun t59 =>
 cellCV t59 h fun t60 =>
 nilckCV t60 fun t61 =>
 faCV 0 t61 fun t62 =>
 cellCV t62 h fun t63 =>
 lenCV t63 fun vt64 => asIV .i64 vt64 fun t64 =>
 let t65 := ltQ t58 t64
 some (vB t65)) (
 some (vB false))) fun t66 =>
 some (vB t66))) fun t67 =>
 cal D 46 [(vB t67)] h fun t68 h5 =>
 faC 5 t2 fun t69 =>
 cellC t69 h5 fun t70 =>
 faC 5 t3 fun t71 =>
 cellC t71 h5 fun t72 =>
 obB (eqPtr false t70 t72 h5) fun t73 =>
 obB (brV t73 (
 faCV 6 t2 fun t75 =>
 ldIV t75 h5 fun t76 =>
 faCV 6 t3 fun t77 =>
 ldIV t77 h5 fun t78 =>
 let t79 := eqQ t76 t78
 some (vB t79)) (
 some (vB false))) fun t80 =>
 some (.ret (vB t80) h5, .no))
def e186_1 (k t2 t3 t9 t10 t11 h) := kN k [(p2, t2), (p3, t3), (p9, t9), (p10, (vI t10)), (p11, (vI t11))] h
def S186_1b (D : CallD) (m : Nat) (g1 : AV → AV → AV → Int → Int → HP → Res2) (t2 t3 t9 : AV) (t10 t11 : Int) (h : HP) : Res2 :=
 let t12 := ltQ t11 t10
 br t12 (
 iasC 7 t9 (vI t11) fun t13 =>
 cellsC 7 t13 h fun t14 =>
 let t6 := P0 h
 let h8 := nQ h [(kI 0), (.int .u32 (.ofNat 0)), (.int .u64 (.ofNat 0)), (.str []), (kI 0), .nilp, (kI 0)]
 stsC 7 t6 t14 h8 fun h9 =>
 let t15 := (AV.ptr (HP.nxQ h) (Nat.add 0 5))
 cellC t15 h9 fun t16 =>
 obB (eqPtr false t16 (.nilp : AV) h9) fun t17 =>
 obB (brV t17 (
 some (vB true)) (
 let t19 := (AV.ptr (HP.nxQ h) (Nat.add 0 5))
 cellCV t19 h9 fun t20 =>
 nilckCV t20 fun t21 =>
 faCV 1 t21 fun t22 =>
 ldBV t22 h9 fun t23 =>
 let t24 := !t23
 some (vB t24))) fun t25 =>
 cal D 46 [(vB t25)] h9 fun t26 h10 =>
 let t27 := wrQ .i64 (addQ t11 (Int.ofNat 1))
 g1 t2 t3 t9 t10 t27 h10) (
 S186_0 D m t2 t3 h)
def S186_1 (D : CallD) (m : Nat) : AV → AV → AV → Int → Int → HP → Res2 := nrec (fun _ _ _ _ _ _ => none) (fun _ g => S186_1b D m g) m
def e186_2 (k t0 t1 h) := kN k [(p0, t0), (p1, t1)] h
def S186_2 (D : CallD) (m : Nat) (t0 t1 : AV) (h : HP) : Res2 :=
 let t2 := P0 h
 let h3 := HP.newQ h (.cells true (AV.cells t0))
 let t3 := P0 h3
 let h4 := HP.newQ h3 (.cells true (AV.cells t1))
 cellsC 7 t2 h4 fun t7 =>
 cellsC 7 t3 h4 fun t8 =>
 obQ (evA (.bsl [(kI 0), (.int .u32 (.ofNat 0)), (.int .u64 (.ofNat 0)), (.str []), (kI 0), .nilp, (kI 0), (kI 0), (.int .u32 (.ofNat 0)), (.int .u64 (.ofNat 0)), (.str []), (kI 0), .nilp, (kI 0)] 2 [⟨0, 7, (.c t7)⟩, ⟨7, 7, (.c t8)⟩]) .leaf) fun r6 =>
 let t9 := vkV r6.2 (HP.nxQ h4)
 let h7 := HP.newQ h4 r6.1
 lenC t9 fun vt10 => asI .i64 vt10 fun t10 =>
 S186_1 D m t2 t3 t9 t10 (Int.ofNat 0) h7
def S186 : SFn := fun D m args h u => nou u <| popV args fun t0 args => popV args fun t1 args => endA args (S186_2 D m t0 t1 h)
theorem T186_0 (hE : FX x186 D m E) : S186_0 D m = e186_0 (E c186_0 []) := by unfold S186_0; rw [hE c186_0]; kernel_rfl
theorem T186_1b (hE : FX x186 D m E) (G1) : S186_1b D m (e186_1 G1) = e186_1 (E c186_1b [.lp v186_1 G1, .blk 0, .sj v186_0 c186_0]) := by unfold S186_1b; rw [T186_0 hE, hE c186_1b]; kernel_rfl
theorem T186_1 (hE : FX x186 D m E) : S186_1 D m = e186_1 (nrec (fun _ => none) (fun _ G1 st => E c186_1b [.lp v186_1 G1, .blk 0, .sj v186_0 c186_0] st) m) :=
  nrec_emb e186_1 (fun _ _ _ _ _ _ => none) (fun g => S186_1b D m g) (fun G1 st => E c186_1b [.lp v186_1 G1, .blk 0, .sj v186_0 c186_0] st) rfl (fun g => T186_1b hE g) m
theorem T186_2 (hE : FX x186 D m E) : S186_2 D m = e186_2 (E c186_e []) := by unfold S186_2; rw [T186_1 hE, hE c186_e]; kernel_rfl
theorem X186 : XTie S186 x186 := X_of fun D m E hE args h u => by unfold S186; rw [T186_2 hE]; kernel_rfl
/- 187 -/
def c187_e : XC := (.sO [.al p1 (.box q0), .al p2 (.new [.nils, (kI 0), (kI 0), (kI 0), (kI 0)]), .al p3 (.new [(kI 0), (.str []), (.str []), (.int .u32 (.ofNat 0)), (.int .u64 (.ofNat 0)), .nils, (kI 0), (kI 0)])] (.sO [.L p9 (.cells 5 q1) .v, .cl p10 50 [q9] .v, .al p4 (.new [(kI 0), (.str []), (kI 0)]), .ss 3 q4 q10] (.seq (.seq (.oX [.fa p11 0 q4, .ld p12 q11 tI]) (.block 0 (.seq (.oX [.bn p14 .eql q12 (ci 2) .b, .mv p13 q14 .b]) (.cond q13 (.seq (.ops true (XL.of [.L p15 (.cells 5 q1) .v, .fa p17 1 q4, .ld p18 q17 .s, .fa p21 2 q4, .ld p22 q21 tI, .o ⟨(some p16), (.call (.fn 74) [q15]), none, [⟨none, .cell q17, p18⟩, ⟨none, .cell q21, p22⟩]⟩ .v, .o ⟨(some p19), (.call (.fn 113) [q18]), none, [⟨none, .cell q21, p22⟩]⟩ tI, .P p20 (.conv (.ii .u32) q19) tW, .P p23 (.build [(kI 0), (.str []), (.str []), (.int .u32 (.ofNat 0)), (.int .u64 (.ofNat 0)), .nils, (kI 0), (kI 0)] [⟨0, 1, (ci 1)⟩, ⟨3, 1, q20⟩, ⟨7, 1, q22⟩]) .v, .o ⟨none, (.e (.stores 5 q2 q16)), none, [⟨none, .cell q21, p22⟩]⟩ .v, .ss 8 q3 q23])) .ret) (.seq (.oX [.bn p25 .eql q12 (ci 3) .b, .mv p24 q25 .b]) (.cond q24 (.seq (.oX [.fa p27 1 q4, .ld p28 q27 .s, .cl p29 194 [q28] .v, .mv p26 q29 .v, .P p30 (.ext q26 0) (.i .u64), .P p31 (.ext q26 1) .b, .mv p5 q30 (.i .u64), .mv p6 q31 .b]) (.seq (.ops true (XL.of [.L p32 (.cells 5 q1) .v, .mv p34 q5 (.i .u64), .fa p35 2 q4, .ld p36 q35 tI, .P p37 (.build [(kI 0), (.str []), (.str []), (.int .u32 (.ofNat 0)), (.int .u64 (.ofNat 0)), .nils, (kI 0), (kI 0)] [⟨0, 1, (ci 2)⟩, ⟨4, 1, q34⟩, ⟨7, 1, q36⟩]) .v, .o ⟨(some p33), (.call (.fn 74) [q32]), none, [⟨none, .cell q35, p36⟩]⟩ .v, .o ⟨none, (.e (.stores 5 q2 q33)), none, [⟨none, .cell q35, p36⟩]⟩ .v, .ss 8 q3 q37])) .ret)) (.seq (.oX [.bn p39 .eql q12 (ci 1) .b, .mv p38 q39 .b]) (.cond q38 (.seq (.oX [.L p40 (.cells 5 q1) .v, .cl p41 74 [q40] .v, .ss 5 q1 q41]) (.seq (.seq (.oX [.L p42 (.cells 5 q1) .v, .cl p43 73 [q42, (.c (.str [40]))] .b, .P p44 (.un .not q43) .b]) (.cond q44 (.seq (.ops true (XL.of [.L p45 (.cells 5 q1) .v, .fa p46 1 q4, .ld p47 q46 .s, .fa p48 2 q4, .ld p49 q48 tI, .P p50 (.build [(kI 0), (.str []), (.str []), (.int .u32 (.ofNat 0)), (.int .u64 (.ofNat 0)), .nils, (kI 0), (kI 0)] [⟨0, 1, (ci 3)⟩, ⟨2, 1, q47⟩, ⟨7, 1, q49⟩]) .v, .o ⟨none, (.e (.stores 5 q2 q45)), none, [⟨none, .cell q46, p47⟩, ⟨none, .cell q48, p49⟩]⟩ .v, .ss 8 q3 q50])) .ret) .skip)) (.seq (.oX [.fa p51 1 q4, .ld p52 q51 .s, .fa p53 2 q4, .ld p54 q53 tI, .P p55 (.build [(kI 0), (.str []), (.str []), (.int .u32 (.ofNat 0)), (.int .u64 (.ofNat 0)), .nils, (kI 0), (kI 0)] [⟨0, 1, (ci 7)⟩, ⟨2, 1, q52⟩, ⟨7, 1, q54⟩]) .v, .al p7 (.new [(kI 0), (.str []), (.str []), (.int .u32 (.ofNat 0)), (.int .u64 (.ofNat 0)), .nils, (kI 0), (kI 0)]), .ss 8 q7 q55]) (.seq (.oX [.L p57 (.cells 5 q1) .v, .cl p58 74 [q57] .v, .cl p59 195 [q58] .v, .mv p56 q59 .v, .P p60 (.ext q56 0) .v, .P p61 (.ext q56 1) .v, .ss 5 q1 q60, .fa p62 5 q7, .st q62 q61]) (.seq (.ops true (XL.of [.L p63 (.cells 5 q1) .v, .L p64 (.cells 8 q7) .v, .o ⟨none, (.e (.stores 5 q2 q63)), none, [⟨none, .cells 8 q7, p64⟩]⟩ .v, .ss 8 q3 q64])) .ret))))) .skip)))))))) (.sO [.P p65 (.build [(kI 0), (.str []), (.str []), (.int .u32 (.ofNat 0)), (.int .u64 (.ofNat 0)), .nils, (kI 0), (kI 0)] []) .v, .al p8 (.new [(kI 0), (.str []), (.str []), (.int .u32 (.ofNat 0)), (.int .u64 (.ofNat 0)), .nils, (kI 0), (kI 0)]), .ss 8 q8 q65] (.sO [.L p67 (.cells 5 q1) .v, .cl p68 79 [q67, (.c (.str [40]))] .v, .cl p69 81 [q68] .v, .mv p66 q69 .v, .P p70 (.ext q66 0) .v, .P p71 (.ext q66 1) .v, .ss 5 q1 q70, .ss 8 q8 q71] (.seq (.ops true (XL.of [.L p72 (.cells 5 q1) .v, .L p74 (.cells 8 q8) .v, .o ⟨(some p73), (.call (.fn 79) [q72, (.c (.str [41]))]), none, [⟨none, .cells 8 q8, p74⟩]⟩ .v, .o ⟨none, (.e (.stores 5 q2 q73)), none, [⟨none, .cells 8 q8, p74⟩]⟩ .v, .ss 8 q3 q74])) (.s .ret)))))))
def x187 : XFn := ⟨[.v], false, [(.cells 5 p2), (.cells 8 p3)], c187_e⟩
def e187_0 (k t0 h) := kN k [(p0, t0)] h
def S187_0 (D : CallD) (m : Nat) (t0 : AV) (h : HP) : Res2 :=
 let t1 := P0 h
 let h1 := HP.newQ h (.cells true (AV.cells t0))
 let t2 := P0 h1
 let h2 := nQ h1 [.nils, (kI 0), (kI 0), (kI 0), (kI 0)]
 let t3 := P0 h2
 let h3 := nQ h2 [(kI 0), (.str []), (.str []), (.int .u32 (.ofNat 0)), (.int .u64 (.ofNat 0)), .nils, (kI 0), (kI 0)]
 cellsC 5 t1 h3 fun t9 =>
 cal D 50 [t9] h3 fun t10 h4 =>
 let t4 := P0 h4
 let h5 := nQ h4 [(kI 0), (.str []), (kI 0)]
 stsC 3 t4 t10 h5 fun h6 =>
 let t11 := (AV.ptr (HP.nxQ h4) (Nat.add 0 0))
 ldI t11 h6 fun t12 =>
 let t14 := eqQ t12 (Int.ofNat 2)
 br t14 (
 cellsC 5 t1 h6 fun t15 =>
 let t17 := (AV.ptr (HP.nxQ h4) (Nat.add 0 1))
 ldS t17 h6 fun t18 =>
 let t21 := (AV.ptr (HP.nxQ h4) (Nat.add 0 2))
 ldI t21 h6 fun t22 =>
 cal D 74 [t15] h6 fun t16 h7 =>
 br (again [⟨none, .cell q17, p18⟩, ⟨none, .cell q21, p22⟩] (mkT [(p22, (vI t22)), (p21, t21), (p18, (vS t18)), (p17, t17)]) h7) (
 cal D 113 [(vS t18)] h7 fun t19 h8 =>
 br (again [⟨none, .cell q21, p22⟩] (mkT [(p22, (vI t22)), (p21, t21)]) h8) (
 asI .i64 t19 fun t19a =>
 let t20 := wrapF .u32 t19a
 let t23 := (AV.agg [(kI 1), (vS ([] : LN)), (vS ([] : LN)), (vW t20), (AV.int .u64 (Int.ofNat 0)), (.nils : AV), (kI 0), (vI t22)])
 stsC 5 t2 t16 h8 fun h9 =>
 br (againE (.stores 5 q2 q16) [⟨none, .cell q21, p22⟩] (mkT [(p2, t2), (p22, (vI t22)), (p21, t21)]) h9) (
 stsC 8 t3 t23 h9 fun h10 =>
 cellsC 5 t2 h10 fun t2a =>
 cellsC 8 t3 h10 fun t3a =>
 some (.ret (.tup [t2a, t3a]) h10, .no)) none) none) none) (
 let t25 := eqQ t12 (Int.ofNat 3)
 br t25 (
 let t27 := (AV.ptr (HP.nxQ h4) (Nat.add 0 1))
 ldS t27 h6 fun t28 =>
 cal D 194 [(vS t28)] h6 fun t29 h11 =>
 extC t29 0 fun vt30 => asI .u64 vt30 fun t30 =>
 extC t29 1 fun vt31 => asB vt31 fun t31 =>
 cellsC 5 t1 h11 fun t32 =>
 let t35 := (AV.ptr (HP.nxQ h4) (Nat.add 0 2))
 ldI t35 h11 fun t36 =>
 let t37 := (AV.agg [(kI 2), (vS ([] : LN)), (vS ([] : LN)), (vW (Int.ofNat 0)), (AV.int .u64 t30), (.nils : AV), (kI 0), (vI t36)])
 cal D 74 [t32] h11 fun t33 h12 =>
 br (again [⟨none, .cell q35, p36⟩] (mkT [(p36, (vI t36)), (p35, t35)]) h12) (
 stsC 5 t2 t33 h12 fun h13 =>
 br (againE (.stores 5 q2 q33) [⟨none, .cell q35, p36⟩] (mkT [(p2, t2), (p36, (vI t36)), (p35, t35)]) h13) (
 stsC 8 t3 t37 h13 fun h14 =>
 cellsC 5 t2 h14 fun t2a =>
 cellsC 8 t3 h14 fun t3a =>
 some (.ret (.tup [t2a, t3a]) h14, .no)) none) none) (
 let t39 := eqQ t12 (Int.ofNat 1)
 br t39 (
 cellsC 5 t1 h6 fun t40 =>
 cal D 74 [t40] h6 fun t41 h15 =>
 stsC 5 t1 t41 h15 fun h16 =>
 cellsC 5 t1 h16 fun t42 =>
 cal D 73 [t42, (vS ([40] : LN))] h16 fun t43 h17 =>
 asB t43 fun t43a =>
 let t44 := !t43a
 br t44 (
 cellsC 5 t1 h17 fun t45 =>
 let t46 := (AV.ptr (HP.nxQ h4) (Nat.add 0 1))
 ldS t46 h17 fun t47 =>
 let t48 := (AV.ptr (HP.nxQ h4) (Nat.add 0 2))
 ldI t48 h17 fun t49 =>
 let t50 := (AV.agg [(kI 3), (vS ([] : LN)), (vS t47), (vW (Int.ofNat 0)), (AV.int .u64 (Int.ofNat 0)), (.nils : AV), (kI 0), (vI t49)])
 stsC 5 t2 t45 h17 fun h18 =>
 br (againE (.stores 5 q2 q45) [⟨none, .cell q46, p47⟩, ⟨none, .cell q48, p49⟩] (mkT [(p2, t2), (p49, (vI t49)), (p48, t48), (p47, (vS t47)), (p46, t46)]) h18) (
 stsC 8 t3 t50 h18 fun h19 =>
 cellsC 5 t2 h19 fun t2a =>
 cellsC 8 t3 h19 fun t3a =>
 some (.ret (.tup [t2a, t3a]) h19, .no)) none) (
 let t51 := (AV.ptr (HP.nxQ h4) (Nat.add 0 1))
 ldS t51 h17 fun t52 =>
 let t53 := (AV.ptr (HP.nxQ h4) (Nat.add 0 2))
 ldI t53 h17 fun t54 =>
 let t55 := (AV.agg [(kI 7), (vS ([] : LN)), (vS t52), (vW (Int.ofNat 0)), (AV.int .u64 (Int.ofNat 0)), (.nils : AV), (kI 0), (vI t54)])
 let t7 := P0 h17
 let h20 := nQ h17 [(kI 0), (.str []), (.str []), (.int .u32 (.ofNat 0)), (.int .u64 (.ofNat 0)), .nils, (kI 0), (kI 0)]
 stsC 8 t7 t55 h20 fun h21 =>
 cellsC 5 t1 h21 fun t57 =>
 cal D 74 [t57] h21 fun t58 h22 =>
 cal D 195 [t58] h22 fun t59 h23 =>
 extC t59 0 fun t60 =>
 extC t59 1 fun t61 =>
 stsC 5 t1 t60 h23 fun h24 =>
 let t62 := (AV.ptr (HP.nxQ h17) (Nat.add 0 5))
 stoC t62 t61 h24 fun h25 =>
 cellsC 5 t1 h25 fun t63 =>
 cellsC 8 t7 h25 fun t64 =>
 stsC 5 t2 t63 h25 fun h26 =>
 br (againE (.stores 5 q2 q63) [⟨none, .cells 8 q7, p64⟩] (mkT [(p2, t2), (p64, t64), (p7, t7)]) h26) (
 stsC 8 t3 t64 h26 fun h27 =>
 cellsC 5 t2 h27 fun t2a =>
 cellsC 8 t3 h27 fun t3a =>
 some (.ret (.tup [t2a, t3a]) h27, .no)) none)) (
 let t65 := (AV.agg [(kI 0), (vS ([] : LN)), (vS ([] : LN)), (vW (Int.ofNat 0)), (AV.int .u64 (Int.ofNat 0)), (.nils : AV), (kI 0), (kI 0)])
 let t8 := P0 h6
 let h28 := nQ h6 [(kI 0), (.str []), (.str []), (.int .u32 (.ofNat 0)), (.int .u64 (.ofNat 0)), .nils, (kI 0), (kI 0)]
 stsC 8 t8 t65 h28 fun h29 =>
 cellsC 5 t1 h29 fun t67 =>
 cal D 79 [t67, (vS ([40] : LN))] h29 fun t68 h30 =>
 cal D 81 [t68] h30 fun t69 h31 =>
 extC t69 0 fun t70 =>
 extC t69 1 fun t71 =>
 stsC 5 t1 t70 h31 fun h32 =>
 stsC 8 t8 t71 h32 fun h33 =>
 cellsC 5 t1 h33 fun t72 =>
 cellsC 8 t8 h33 fun t74 =>
 cal D 79 [t72, (vS ([41] : LN))] h33 fun t73 h34 =>
 br (again [⟨none, .cells 8 q8, p74⟩] (mkT [(p74, t74), (p8, t8)]) h34) (
 stsC 5 t2 t73 h34 fun h35 =>
 br (againE (.stores 5 q2 q73) [⟨none, .cells 8 q8, p74⟩] (mkT [(p2, t2), (p74, t74), (p8, t8)]) h35) (
 stsC 8 t3 t74 h35 fun h36 =>
 cellsC 5 t2 h36 fun t2a =>
 cellsC 8 t3 h36 fun t3a =>
 some (.ret (.tup [t2a, t3a]) h36, .no)) none) none)))
def S187 : SFn := fun D m args h u => nou u <| popV args fun t0 args => endA args (S187_0 D m t0 h)
theorem T187_0 (hE : FX x187 D m E) : S187_0 D m = e187_0 (E c187_e []) := by unfold S187_0; rw [hE c187_e]; kernel_rfl
theorem X187 : XTie S187 x187 := X_of fun D m E hE args h u => by unfold S187; rw [T187_0 hE]; kernel_rfl
/- 191 -/
def v191_0 : List Pos := [p0, p1, p2, p8, p9]
def c191_0 : XC := (.seq (.seq (.oX [.mv p48 q0 tI]) (.block 2 (.seq (.oX [.bn p50 .eql q48 (ci 14) .b, .mv p49 q50 .b]) (.cond q49 (.seq (.oX [.mv p51 q8 (.i .i32), .mv p52 q9 (.i .i32), .bn p53 .quo q51 q52 (.i .i32), .P p54 (.conv (.ii .u32) q53) tW, .mv p6 q54 tW, .mv p7 (ci 0) tI]) .ret) (.seq (.oX [.bn p56 .eql q48 (ci 15) .b, .mv p55 q56 .b]) (.cond q55 (.seq (.oX [.mv p57 q1 tW, .mv p58 q2 tW, .bn p59 .quo q57 q58 tW, .mv p6 q59 tW, .mv p7 (ci 0) tI]) .ret) (.seq (.oX [.bn p61 .eql q48 (ci 16) .b, .mv p60 q61 .b]) (.cond q60 (.seq (.oX [.mv p62 q8 (.i .i32), .mv p63 q9 (.i .i32), .bn p64 .rem q62 q63 (.i .i32), .P p65 (.conv (.ii .u32) q64) tW, .mv p6 q65 tW, .mv p7 (ci 0) tI]) .ret) (.seq (.oX [.bn p67 .eql q48 (ci 17) .b, .mv p66 q67 .b]) (.cond q66 (.seq (.oX [.mv p68 q1 tW, .mv p69 q2 tW, .bn p70 .rem q68 q69 tW, .mv p6 q70 tW, .mv p7 (ci 0) tI]) .ret) .skip)))))))))) (.sO [.mv p6 (.c (.int .u32 (.ofNat 0))) tW, .mv p7 (ci 1) tI] (.s .ret)))
def v191_1 : List Pos := []
def c191_1 : XC := (.sO [.mv p6 (.c (.int .u32 (.ofNat 0))) tW, .mv p7 (ci 1) tI] (.s .ret))
def v191_3 : List Pos := [p1, p44]
def c191_3 : XC := (.cond q44 (.sO [.mv p47 q1 tW, .mv p6 q47 tW, .mv p7 (ci 0) tI] (.s .ret)) (.s .skip))
def v191_2 : List Pos := [p1, p40, p41]
def c191_2 : XC := (.cond q41 (.sO [.mv p6 (.c (.int .u32 (.ofNat 4294967295))) tW, .mv p7 (ci 0) tI] (.s .ret)) (.sj v191_3 (.sO [.bn p45 .eql q40 (ci 16) .b, .mv p44 q45 .b] (.cond q44 (.s .skip) (.s (.oX [.bn p46 .eql q40 (ci 17) .b, .mv p44 q46 .b])))) c191_3))
def c191_e : XC := (.sO [.mv p6 (.c (.int .u32 (.ofNat 0))) tW, .mv p7 (ci 0) tI] (.sO [.mv p12 q1 tW, .P p13 (.conv (.ii .i32) q12) (.i .i32), .mv p14 q2 tW, .P p15 (.conv (.ii .i32) q14) (.i .i32), .mv p8 q13 (.i .i32), .mv p9 q15 (.i .i32)] (.sO [.mv p17 q1 tW, .mv p18 q2 tW, .cl p19 150 [q17, q18] .v, .mv p16 q19 .v, .P p20 (.ext q16 0) tW, .P p21 (.ext q16 1) tW, .mv p10 q20 tW, .mv p11 q21 tW] (.seq (.seq (.oX [.mv p22 q0 tI]) (.block 0 (.seq (.oX [.bn p24 .eql q22 (ci 11) .b, .mv p23 q24 .b]) (.cond q23 (.seq (.oX [.mv p25 q11 tW, .mv p6 q25 tW, .mv p7 (ci 0) tI]) .ret) (.seq (.oX [.bn p27 .eql q22 (ci 12) .b, .mv p26 q27 .b]) (.cond q26 (.seq (.oX [.mv p28 q8 (.i .i32), .P p29 (.conv (.ii .i64) q28) tI, .mv p30 q9 (.i .i32), .P p31 (.conv (.ii .i64) q30) tI, .bn p32 .mul q29 q31 tI, .bn p33 .shr q32 (.c (.int .u64 (.ofNat 32))) tI, .P p34 (.conv (.ii .u32) q33) tW, .mv p6 q34 tW, .mv p7 (ci 0) tI]) .ret) (.seq (.oX [.bn p36 .eql q22 (ci 13) .b, .mv p35 q36 .b]) (.cond q35 (.seq (.oX [.mv p37 q10 tW, .mv p6 q37 tW, .mv p7 (ci 0) tI]) .ret) .skip)))))))) (.sj v191_0 (.sO [.mv p38 q2 tW, .bn p39 .eql q38 (.c (.int .u32 (.ofNat 0))) .b] (.cond q39 (.sj v191_1 (.sO [.mv p40 q0 tI] (.block 1 (.sj v191_2 (.sO [.bn p42 .eql q40 (ci 14) .b, .mv p41 q42 .b] (.cond q41 (.s .skip) (.s (.oX [.bn p43 .eql q40 (ci 15) .b, .mv p41 q43 .b])))) c191_2))) c191_1) (.s .skip))) c191_0)))))
def x191 : XFn := ⟨[tI, tW, tW], false, [(.tmp p6), (.tmp p7)], c191_e⟩
def e191_0 (k t0 t1 t2 t8 t9 h) := kN k [(p0, (vI t0)), (p1, (vW t1)), (p2, (vW t2)), (p8, (AV.int .i32 t8)), (p9, (AV.int .i32 t9))] h
def S191_0 (D : CallD) (m : Nat) (t0 t1 t2 t8 t9 : Int) (h : HP) : Res2 :=
 let t50 := eqQ t0 (Int.ofNat 14)
 br t50 (
 obI .i32 (intBin .quo .i32 t8 t9) fun t53 =>
 let t54 := wrapF .u32 t53
 some (.ret (.tup [(vW t54), (kI 0)]) h, .no)) (
 let t56 := eqQ t0 (Int.ofNat 15)
 br t56 (
 binC .quo (vW t1) (vW t2) fun vt59 => asI .u32 vt59 fun t59 =>
 some (.ret (.tup [(vW t59), (kI 0)]) h, .no)) (
 let t61 := eqQ t0 (Int.ofNat 16)
 br t61 (
 obI .i32 (intBin .rem .i32 t8 t9) fun t64 =>
 let t65 := wrapF .u32 t64
 some (.ret (.tup [(vW t65), (kI 0)]) h, .no)) (
 let t67 := eqQ t0 (Int.ofNat 17)
 br t67 (
 binC .rem (vW t1) (vW t2) fun vt70 => asI .u32 vt70 fun t70 =>
 some (.ret (.tup [(vW t70), (kI 0)]) h, .no)) (
 some (.ret (.tup [(vW (Int.ofNat 0)), (kI 1)]) h, .no)))))
def e191_1 (k h) := kN k [] h
def S191_1 (D : CallD) (m : Nat) (h : HP) : Res2 :=
 some (.ret (.tup [(vW (Int.ofNat 0)), (kI 1)]) h, .no)
def e191_3 (k t1 t44 h) := kN k [(p1, (vW t1)), (p44, (vB t44))] h
def S191_3 (D : CallD) (m : Nat) (t1 : Int) (t44 : Bool) (h : HP) : Res2 :=
 br t44 (
 some (.ret (.tup [(vW t1), (kI 0)]) h, .no)) (
 S191_1 D m h)
def e191_2 (k t1 t40 t41 h) := kN k [(p1, (vW t1)), (p40, (vI t40)), (p41, (vB t41))] h
def S191_2 (D : CallD) (m : Nat) (t1 t40 : Int) (t41 : Bool) (h : HP) : Res2 :=
 br t41 (
 some (.ret (.tup [(vW (Int.ofNat 4294967295)), (kI 0)]) h, .no)) (
 let t45 := eqQ t40 (Int.ofNat 16)
 br t45 (
 S191_3 D m t1 t45 h) (
 let t46 := eqQ t40 (Int.ofNat 17)
 S191_3 D m t1 t46 h))
def e191_4 (k t0 t1 t2 h) := kN k [(p0, (vI t0)), (p1, (vW t1)), (p2, (vW t2))] h
def S191_4 (D : CallD) (m : Nat) (t0 t1 t2 : Int) (h : HP) : Res2 :=
 obI .i32 (convV (.ii .i32) (vW t1)) fun t13 =>
 obI .i32 (convV (.ii .i32) (vW t2)) fun t15 =>
 cal D 150 [(vW t1), (vW t2)] h fun t19 h5 =>
 extC t19 0 fun vt20 => asI .u32 vt20 fun t20 =>
 extC t19 1 fun vt21 => asI .u32 vt21 fun t21 =>
 let t24 := eqQ t0 (Int.ofNat 11)
 br t24 (
 some (.ret (.tup [(vW t21), (kI 0)]) h5, .no)) (
 let t27 := eqQ t0 (Int.ofNat 12)
 br t27 (
 let t29 := wrapF .i64 t13
 let t31 := wrapF .i64 t15
 let t32 := wrQ .i64 (t29 * t31)
 let t33 := shrF .i64 t32 32
 let t34 := wrapF .u32 t33
 some (.ret (.tup [(vW t34), (kI 0)]) h5, .no)) (
 let t36 := eqQ t0 (Int.ofNat 13)
 br t36 (
 some (.ret (.tup [(vW t20), (kI 0)]) h5, .no)) (
 binC .eql (vW t2) (vW (Int.ofNat 0)) fun vt39 => asB vt39 fun t39 =>
 br t39 (
 let t42 := eqQ t0 (Int.ofNat 14)
 br t42 (
 S191_2 D m t1 t0 t42 h5) (
 let t43 := eqQ t0 (Int.ofNat 15)
 S191_2 D m t1 t0 t43 h5)) (
 S191_0 D m t0 t1 t2 t13 t15 h5))))
def S191 : SFn := fun D m args h u => nou u <| popI .i64 args fun t0 args => popI .u32 args fun t1 args => popI .u32 args fun t2 args => endA args (S191_4 D m t0 t1 t2 h)
theorem T191_0 (hE : FX x191 D m E) : S191_0 D m = e191_0 (E c191_0 []) := by unfold S191_0; rw [hE c191_0]; kernel_rfl
theorem T191_1 (hE : FX x191 D m E) : S191_1 D m = e191_1 (E c191_1 [.sj v191_0 c191_0]) := by unfold S191_1; rw [hE c191_1]; kernel_rfl
theorem T191_3 (hE : FX x191 D m E) : S191_3 D m = e191_3 (E c191_3 [.blk 1, .sj v191_1 c191_1, .sj v191_0 c191_0]) := by unfold S191_3; rw [T191_1 hE, hE c191_3]; kernel_rfl
theorem T191_2 (hE : FX x191 D m E) : S191_2 D m = e191_2 (E c191_2 [.blk 1, .sj v191_1 c191_1, .sj v191_0 c191_0]) := by unfold S191_2; rw [T191_3 hE, hE c191_2]; kernel_rfl
theorem T191_4 (hE : FX x191 D m E) : S191_4 D m = e191_4 (E c191_e []) := by unfold S191_4; rw [T191_2 hE, T191_0 hE, hE c191_e]; kernel_rfl
theorem X191 : XTie S191 x191 := X_of fun D m E hE args h u => by unfold S191; rw [T191_4 hE]; kernel_rfl
/- 195 -/
def v195_0 : List Pos := [p1, p2, p4]
def c195_0 : XC := (.sO [.L p36 (.cells 5 q1) .v, .mv p37 q4 .v, .ss 5 q2 q36, .mv p3 q37 .v] (.s .ret))
def v195_1 : List Pos := [p1, p2, p4]
def c195_1b : XC := (.seq (.seq (.oX [.fa p10 3 q1, .ld p11 q10 tI, .bn p12 .eql q11 (ci 0) .b]) (.cond q12 .skip (.exit 0))) (.block 1 (.seq (.seq (.oX [.mv p13 q4 .v, .P p14 (.lenl q13) tI, .bn p15 .geq q14 (ci 8) .b]) (.cond q15 (.seq (.oX [.L p16 (.cells 5 q1) .v, .cl p17 111 [q16, (ci 5)] .v, .ss 5 q2 q17, .mv p3 (.c .nils) .v]) .ret) .skip)) (.sO [.P p18 (.build [(kI 0), (.str []), (.str []), (.int .u32 (.ofNat 0)), (.int .u64 (.ofNat 0)), .nils, (kI 0), (kI 0)] []) .v, .al p5 (.new [(kI 0), (.str []), (.str []), (.int .u32 (.ofNat 0)), (.int .u64 (.ofNat 0)), .nils, (kI 0), (kI 0)]), .ss 8 q5 q18] (.sO [.L p20 (.cells 5 q1) .v, .cl p21 81 [q20] .v, .mv p19 q21 .v, .P p22 (.ext q19 0) .v, .P p23 (.ext q19 1) .v, .ss 5 q1 q22, .ss 8 q5 q23] (.sO [.mv p24 q4 .v, .L p25 (.cells 8 q5) .v, .al p26 (.bsl [(kI 0), (.str []), (.str []), (.int .u32 (.ofNat 0)), (.int .u64 (.ofNat 0)), .nils, (kI 0), (kI 0)] 1 [⟨0, 8, q25⟩]), .o ⟨(some p27), (.e (.app 8 96 q24 q26)), none, []⟩ .v, .mv p4 q27 .v] (.seq (.seq (.oX [.L p28 (.cells 5 q1) .v, .cl p29 73 [q28, (.c (.str [44]))] .b, .P p30 (.un .not q29) .b]) (.cond q30 (.seq (.oX [.L p31 (.cells 5 q1) .v, .cl p32 79 [q31, (.c (.str [41]))] .v, .mv p33 q4 .v, .ss 5 q2 q32, .mv p3 q33 .v]) .ret) .skip)) (.s (.oX [.L p34 (.cells 5 q1) .v, .cl p35 74 [q34] .v, .ss 5 q1 q35])))))))))
def c195_e : XC := (.sO [.al p1 (.box q0), .al p2 (.new [.nils, (kI 0), (kI 0), (kI 0), (kI 0)]), .mv p3 (.c .nils) .v] (.seq (.seq (.oX [.L p6 (.cells 5 q1) .v, .cl p7 73 [q6, (.c (.str [41]))] .b]) (.cond q7 (.seq (.oX [.L p8 (.cells 5 q1) .v, .cl p9 74 [q8] .v, .ss 5 q2 q9, .mv p3 (.c .nils) .v]) .ret) .skip)) (.sO [.mv p4 (.c .nils) .v] (.sj v195_0 (.block 0 (.loop v195_1 c195_1b)) c195_0))))
def x195 : XFn := ⟨[.v], false, [(.cells 5 p2), (.tmp p3)], c195_e⟩
def e195_0 (k t1 t2 t4 h) := kN k [(p1, t1), (p2, t2), (p4, t4)] h
def S195_0 (D : CallD) (m : Nat) (t1 t2 t4 : AV) (h : HP) : Res2 :=
 cellsC 5 t1 h fun t36 =>
 stsC 5 t2 t36 h fun h8 =>
 cellsC 5 t2 h8 fun t2a =>
 some (.ret (.tup [t2a, t4]) h8, .no)
def e195_1 (k t1 t2 t4 h) := kN k [(p1, t1), (p2, t2), (p4, t4)] h
def S195_1b (D : CallD) (m : Nat) (g1 : AV → AV → AV → HP → Res2) (t1 t2 t4 : AV) (h : HP) : Res2 :=
 faC 3 t1 fun t10 =>
 ldI t10 h fun t11 =>
 let t12 := eqQ t11 (Int.ofNat 0)
 br t12 (
 lenC t4 fun vt14 => asI .i64 vt14 fun t14 =>
 let t15 := leQ (Int.ofNat 8) t14
 br t15 (
 cellsC 5 t1 h fun t16 =>
 cal D 111 [t16, (kI 5)] h fun t17 h9 =>
 stsC 5 t2 t17 h9 fun h10 =>
 cellsC 5 t2 h10 fun t2a =>
 some (.ret (.tup [t2a, (.nils : AV)]) h10, .no)) (
 let t18 := (AV.agg [(kI 0), (vS ([] : LN)), (vS ([] : LN)), (vW (Int.ofNat 0)), (AV.int .u64 (Int.ofNat 0)), (.nils : AV), (kI 0), (kI 0)])
 let t5 := P0 h
 let h11 := nQ h [(kI 0), (.str []), (.str []), (.int .u32 (.ofNat 0)), (.int .u64 (.ofNat 0)), .nils, (kI 0), (kI 0)]
 stsC 8 t5 t18 h11 fun h12 =>
 cellsC 5 t1 h12 fun t20 =>
 cal D 81 [t20] h12 fun t21 h13 =>
 extC t21 0 fun t22 =>
 extC t21 1 fun t23 =>
 stsC 5 t1 t22 h13 fun h14 =>
 stsC 8 t5 t23 h14 fun h15 =>
 cellsC 8 t5 h15 fun t25 =>
 obQ (evA (.bsl [(kI 0), (.str []), (.str []), (.int .u32 (.ofNat 0)), (.int .u64 (.ofNat 0)), .nils, (kI 0), (kI 0)] 1 [⟨0, 8, (.c t25)⟩]) .leaf) fun r16 =>
 let t26 := vkV r16.2 (HP.nxQ h15)
 let h17 := HP.newQ h15 r16.1
 eff (.app 8 96 (.c t4) (.c t26)) h17 fun t27 h18 =>
 cellsC 5 t1 h18 fun t28 =>
 cal D 73 [t28, (vS ([44] : LN))] h18 fun t29 h19 =>
 asB t29 fun t29a =>
 let t30 := !t29a
 br t30 (
 cellsC 5 t1 h19 fun t31 =>
 cal D 79 [t31, (vS ([41] : LN))] h19 fun t32 h20 =>
 stsC 5 t2 t32 h20 fun h21 =>
 cellsC 5 t2 h21 fun t2a =>
 some (.ret (.tup [t2a, t27]) h21, .no)) (
 cellsC 5 t1 h19 fun t34 =>
 cal D 74 [t34] h19 fun t35 h22 =>
 stsC 5 t1 t35 h22 fun h23 =>
 g1 t1 t2 t27 h23))) (
 S195_0 D m t1 t2 t4 h)
def S195_1 (D : CallD) (m : Nat) : AV → AV → AV → HP → Res2 := nrec (fun _ _ _ _ => none) (fun _ g => S195_1b D m g) m
def e195_2 (k t0 h) := kN k [(p0, t0)] h
def S195_2 (D : CallD) (m : Nat) (t0 : AV) (h : HP) : Res2 :=
 let t1 := P0 h
 let h3 := HP.newQ h (.cells true (AV.cells t0))
 let t2 := P0 h3
 let h4 := nQ h3 [.nils, (kI 0), (kI 0), (kI 0), (kI 0)]
 cellsC 5 t1 h4 fun t6 =>
 cal D 73 [t6, (vS ([41] : LN))] h4 fun t7 h5 =>
 asB t7 fun t7a =>
 br t7a (
 cellsC 5 t1 h5 fun t8 =>
 cal D 74 [t8] h5 fun t9 h6 =>
 stsC 5 t2 t9 h6 fun h7 =>
 cellsC 5 t2 h7 fun t2a =>
 some (.ret (.tup [t2a, (.nils : AV)]) h7, .no)) (
 S195_1 D m t1 t2 (.nils : AV) h5)
def S195 : SFn := fun D m args h u => nou u <| popV args fun t0 args => endA args (S195_2 D m t0 h)
theorem T195_0 (hE : FX x195 D m E) : S195_0 D m = e195_0 (E c195_0 []) := by unfold S195_0; rw [hE c195_0]; kernel_rfl
theorem T195_1b (hE : FX x195 D m E) (G1) : S195_1b D m (e195_1 G1) = e195_1 (E c195_1b [.lp v195_1 G1, .blk 0, .sj v195_0 c195_0]) := by unfold S195_1b; rw [T195_0 hE, hE c195_1b]; kernel_rfl
theorem T195_1 (hE : FX x195 D m E) : S195_1 D m = e195_1 (nrec (fun _ => none) (fun _ G1 st => E c195_1b [.lp v195_1 G1, .blk 0, .sj v195_0 c195_0] st) m) :=
  nrec_emb e195_1 (fun _ _ _ _ => none) (fun g => S195_1b D m g) (fun G1 st => E c195_1b [.lp v195_1 G1, .blk 0, .sj v195_0 c195_0] st) rfl (fun g => T195_1b hE g) m
theorem T195_2 (hE : FX x195 D m E) : S195_2 D m = e195_2 (E c195_e []) := by unfold S195_2; rw [T195_1 hE, hE c195_e]; kernel_rfl
theorem X195 : XTie S195 x195 := X_of fun D m E hE args h u => by unfold S195; rw [T195_2 hE]; kernel_rfl
end
end Go.Proofs.YtblciblkocameaaGreat.Sx
