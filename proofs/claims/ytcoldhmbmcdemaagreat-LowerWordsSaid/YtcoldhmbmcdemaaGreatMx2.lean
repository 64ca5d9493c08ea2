/- Functions, printed by a program of ours: their code, what they do, and that it is so. -/
import Derived.Test.YtcoldhmbmcdemaaGreatMp
set_option maxRecDepth 8000
set_option linter.unusedVariables false
namespace Go.Proofs.YtcoldhmbmcdemaaGreat.Sx
open Go Go.Proofs.YtcoldhmbmcdemaaGreat.Ev
noncomputable section
variable {D : CallD} {m : Nat} {E : XE}
/- 134 -/
def v134_0 : List Pos := [p1, p2, p3]
def c134_0 : XC := (.sO [.mv p29 q3 .v, .fa p30 0 q1, .st q30 q29] (.sO [.fa p31 1 q1, .ld p32 q31 tI, .bn p33 .sub q32 (ci 1) tI, .fa p34 1 q1, .st q34 q33] (.sO [.L p35 (.cells 7 q1) .v, .ss 7 q2 q35] (.s .ret))))
def v134_2 : List Pos := [p1, p2, p3, p7, p8]
def c134_2 : XC := (.s (.oX [.bn p28 .add q8 (ci 1) tI, .mv p8 q28 tI]))
def v134_1 : List Pos := [p1, p2, p3, p7, p8]
def c134_1b : XC := (.sO [.bn p9 .lss q8 q7 .b] (.seq (.cond q9 .skip (.exit 0)) (.sj v134_2 (.block 1 (.sO [.mv p10 q8 tI, .mv p4 q10 tI] (.seq (.ops true (XL.of [.fa p11 0 q1, .ld p12 q11 .v, .mv p13 q4 tI, .P p14 (.iaddr (.sl 19) q12 q13) .v, .fa p15 18 q14, .ld p16 q15 tI, .fa p17 1 q1, .ld p18 q17 tI, .bn p19 .lss q16 q18 .b])) (.cond q19 (.s (.oX [.mv p20 q3 .v, .fa p21 0 q1, .ld p22 q21 .v, .mv p23 q4 tI, .P p24 (.iaddr (.sl 19) q22 q23) .v, .L p25 (.cells 19 q24) .v, .al p26 (.bsl [(.bool false), (.bool false), (.bool false), (.str []), (kI 0), (kI 0), .nils, (.bool false), .nils, (kI 0), .nils, .nils, (.str []), (kI 0), (kI 0), (kI 0), (kI 0), (.str []), (kI 0)] 1 [⟨0, 19, q25⟩]), .o ⟨(some p27), (.e (.app 19 224 q20 q26)), none, []⟩ .v, .mv p3 q27 .v])) (.s .skip))))) c134_2)))
def c134_e : XC := (.sO [.al p1 (.box q0), .al p2 (.new [.nils, (kI 0), (kI 0), (kI 0), (kI 0), (kI 0), (kI 0)])] (.sO [.mv p3 (.c .nils) .v] (.sj v134_0 (.sO [.fa p5 0 q1, .ld p6 q5 .v, .P p7 (.lenl q6) tI, .mv p8 (ci 0) tI] (.block 0 (.loop v134_1 c134_1b))) c134_0)))
def x134 : XFn := ⟨[.v], false, [(.cells 7 p2)], c134_e⟩
def e134_0 (k t1 t2 t3 h) := kN k [(p1, t1), (p2, t2), (p3, t3)] h
def S134_0 (D : CallD) (m : Nat) (t1 t2 t3 : AV) (h : HP) : Res2 :=
 faC 0 t1 fun t30 =>
 stoC t30 t3 h fun h6 =>
 faC 1 t1 fun t31 =>
 ldI t31 h6 fun t32 =>
 let t33 := wrQ .i64 (t32 - (Int.ofNat 1))
 faC 1 t1 fun t34 =>
 stoC t34 (vI t33) h6 fun h7 =>
 cellsC 7 t1 h7 fun t35 =>
 stsC 7 t2 t35 h7 fun h8 =>
 cellsC 7 t2 h8 fun t2a =>
 some (.ret t2a h8, .no)
def e134_2 (k t1 t2 t3 t7 t8 h) := kN k [(p1, t1), (p2, t2), (p3, t3), (p7, (vI t7)), (p8, (vI t8))] h
def S134_2 (D : CallD) (m : Nat) (g1 : AV → AV → AV → Int → Int → HP → Res2) (t1 t2 t3 : AV) (t7 t8 : Int) (h : HP) : Res2 :=
 let t28 := wrQ .i64 (addQ t8 (Int.ofNat 1))
 g1 t1 t2 t3 t7 t28 h
def e134_1 (k t1 t2 t3 t7 t8 h) := kN k [(p1, t1), (p2, t2), (p3, t3), (p7, (vI t7)), (p8, (vI t8))] h
def S134_1b (D : CallD) (m : Nat) (g1 : AV → AV → AV → Int → Int → HP → Res2) (t1 t2 t3 : AV) (t7 t8 : Int) (h : HP) : Res2 :=
 let t9 := ltQ t8 t7
 br t9 (
 faC 0 t1 fun t11 =>
 cellC t11 h fun t12 =>
 iasC 19 t12 (vI t8) fun t14 =>
 faC 18 t14 fun t15 =>
 ldI t15 h fun t16 =>
 faC 1 t1 fun t17 =>
 ldI t17 h fun t18 =>
 let t19 := ltQ t16 t18
 br t19 (
 faC 0 t1 fun t21 =>
 cellC t21 h fun t22 =>
 iasC 19 t22 (vI t8) fun t24 =>
 cellsC 19 t24 h fun t25 =>
 obQ (evA (.bsl [(.bool false), (.bool false), (.bool false), (.str []), (kI 0), (kI 0), .nils, (.bool false), .nils, (kI 0), .nils, .nils, (.str []), (kI 0), (kI 0), (kI 0), (kI 0), (.str []), (kI 0)] 1 [⟨0, 19, (.c t25)⟩]) .leaf) fun r9 =>
 let t26 := vkV r9.2 (HP.nxQ h)
 let h10 := HP.newQ h r9.1
 eff (.app 19 224 (.c t3) (.c t26)) h10 fun t27 h11 =>
 S134_2 D m g1 t1 t2 t27 t7 t8 h11) (
 S134_2 D m g1 t1 t2 t3 t7 t8 h)) (
 S134_0 D m t1 t2 t3 h)
def S134_1 (D : CallD) (m : Nat) : AV → AV → AV → Int → Int → HP → Res2 := nrec (fun _ _ _ _ _ _ => none) (fun _ g => S134_1b D m g) m
def e134_3 (k t0 h) := kN k [(p0, t0)] h
def S134_3 (D : CallD) (m : Nat) (t0 : AV) (h : HP) : Res2 :=
 let t1 := AV.ptr (HP.nxQ h) 0
 let h4 := HP.newQ h (.cells true (AV.cells t0))
 let t2 := AV.ptr (HP.nxQ h4) 0
 let h5 := HP.newQ h4 (.cells true [.nils, (kI 0), (kI 0), (kI 0), (kI 0), (kI 0), (kI 0)])
 let t5 := (AV.ptr (HP.nxQ h) (Nat.add 0 0))
 cellC t5 h5 fun t6 =>
 lenC t6 fun vt7 => asI .i64 vt7 fun t7 =>
 S134_1 D m t1 t2 (.nils : AV) t7 (Int.ofNat 0) h5
def S134 : SFn := fun D m args h u => nou u <| popV args fun t0 args => endA args (S134_3 D m t0 h)
theorem T134_0 (hE : FX x134 D m E) : S134_0 D m = e134_0 (E c134_0 []) := by unfold S134_0; rw [hE c134_0]; kernel_rfl
theorem T134_2 (hE : FX x134 D m E) (G1) : S134_2 D m (e134_1 G1) = e134_2 (E c134_2 [.lp v134_1 G1, .blk 0, .sj v134_0 c134_0]) := by unfold S134_2; rw [hE c134_2]; kernel_rfl
theorem T134_1b (hE : FX x134 D m E) (G1) : S134_1b D m (e134_1 G1) = e134_1 (E c134_1b [.lp v134_1 G1, .blk 0, .sj v134_0 c134_0]) := by unfold S134_1b; rw [T134_2 hE G1, T134_0 hE, hE c134_1b]; kernel_rfl
theorem T134_1 (hE : FX x134 D m E) : S134_1 D m = e134_1 (nrec (fun _ => none) (fun _ G1 st => E c134_1b [.lp v134_1 G1, .blk 0, .sj v134_0 c134_0] st) m) :=
  nrec_emb e134_1 (fun _ _ _ _ _ _ => none) (fun g => S134_1b D m g) (fun G1 st => E c134_1b [.lp v134_1 G1, .blk 0, .sj v134_0 c134_0] st) rfl (fun g => T134_1b hE g) m
theorem T134_3 (hE : FX x134 D m E) : S134_3 D m = e134_3 (E c134_e []) := by unfold S134_3; rw [T134_1 hE, hE c134_e]; kernel_rfl
theorem X134 : XTie S134 x134 := X_of fun D m E hE args h u => by unfold S134; rw [T134_3 hE]; kernel_rfl
/- 137 -/
def v137_1 : List Pos := [p1, p6, p7, p8]
def c137_1 : XC := (.s (.oX [.bn p38 .add q8 (ci 1) tI, .mv p8 q38 tI]))
def v137_2 : List Pos := [p1, p5, p6, p7, p8]
def c137_2 : XC := (.s (.oX [.fa p34 5 q5, .ld p35 q34 .v, .mv p36 q1 .v, .cl p37 137 [q35, q36] .v]))
def v137_0 : List Pos := [p1, p6, p7, p8]
def c137_0b : XC := (.sO [.bn p9 .lss q8 q7 .b] (.seq (.cond q9 .skip (.exit 0)) (.sj v137_1 (.block 1 (.sO [.P p10 (.iaddr (.sl 8) q6 q8) .v, .L p11 (.cells 8 q10) .v, .al p5 (.new [(kI 0), (.str []), (.str []), (.int .u32 (.ofNat 0)), (.int .u64 (.ofNat 0)), .nils, (kI 0), (kI 0)]), .ss 8 q5 q11] (.sj v137_2 (.sO [.fa p12 0 q5, .ld p13 q12 tI, .bn p14 .eql q13 (ci 4) .b, .mv p15 q14 .b, .ge p15 (XL.of [.G p15 true p16 (.faddr 1 q5) .v, .o ⟨(some p17), (.l (.cell q16)), (some (p15, true)), []⟩ .s, .G p15 true p18 (.bin .eql q17 (.c (.str [38]))) .b, .P p19 (.pick q15 q18 (cb false)) .b]) p19 .b, .mv p20 q19 .b, .ge p20 (XL.of [.G p20 true p21 (.faddr 5 q5) .v, .o ⟨(some p22), (.l (.cell q21)), (some (p20, true)), []⟩ .v, .G p20 true p23 (.iaddr (.sl 8) q22 (ci 0)) .v, .G p20 true p24 (.faddr 0 q23) .v, .o ⟨(some p25), (.l (.cell q24)), (some (p20, true)), []⟩ tI, .G p20 true p26 (.bin .eql q25 (ci 3)) .b, .P p27 (.pick q20 q26 (cb false)) .b]) p27 .b] (.cond q27 (.s (.oX [.mv p28 q1 .v, .fa p29 5 q5, .ld p30 q29 .v, .P p31 (.iaddr (.sl 8) q30 (ci 0)) .v, .fa p32 2 q31, .ld p33 q32 .s, .o ⟨none, (.e (.mset .str q28 q33 (cb true))), none, []⟩ .v])) (.s .skip))) c137_2))) c137_1)))
def c137_e : XC := (.sO [.mv p6 q0 .v, .P p7 (.lenl q6) tI, .mv p8 (ci 0) tI] (.block 0 (.loop v137_0 c137_0b)))
def x137 : XFn := ⟨[.v, .v], false, [], c137_e⟩
def e137_1 (k t1 t6 t7 t8 h) := kN k [(p1, t1), (p6, t6), (p7, (vI t7)), (p8, (vI t8))] h
def S137_1 (D : CallD) (m : Nat) (g0 : AV → AV → Int → Int → HP → Res2) (t1 t6 : AV) (t7 t8 : Int) (h : HP) : Res2 :=
 let t38 := wrQ .i64 (addQ t8 (Int.ofNat 1))
 g0 t1 t6 t7 t38 h
def e137_2 (k t1 t5 t6 t7 t8 h) := kN k [(p1, t1), (p5, t5), (p6, t6), (p7, (vI t7)), (p8, (vI t8))] h
def S137_2 (D : CallD) (m : Nat) (g0 : AV → AV → Int → Int → HP → Res2) (t1 t5 t6 : AV) (t7 t8 : Int) (h : HP) : Res2 :=
 faC 5 t5 fun t34 =>
 cellC t34 h fun t35 =>
 cal D 137 [t35, t1] h fun t37 h6 =>
 S137_1 D m g0 t1 t6 t7 t8 h6
def e137_0 (k t1 t6 t7 t8 h) := kN k [(p1, t1), (p6, t6), (p7, (vI t7)), (p8, (vI t8))] h
def S137_0b (D : CallD) (m : Nat) (g0 : AV → AV → Int → Int → HP → Res2) (t1 t6 : AV) (t7 t8 : Int) (h : HP) : Res2 :=
 let t9 := ltQ t8 t7
 br t9 (
 iasC 8 t6 (vI t8) fun t10 =>
 cellsC 8 t10 h fun t11 =>
 let t5 := AV.ptr (HP.nxQ h) 0
 let h4 := HP.newQ h (.cells true [(kI 0), (.str []), (.str []), (.int .u32 (.ofNat 0)), (.int .u64 (.ofNat 0)), .nils, (kI 0), (kI 0)])
 stsC 8 t5 t11 h4 fun h5 =>
 let t12 := (AV.ptr (HP.nxQ h) (Nat.add 0 0))
 ldI t12 h5 fun t13 =>
 let t14 := eqQ t13 (Int.ofNat 4)
 obB (brV t14 (
 let t16 := (AV.ptr (HP.nxQ h) (Nat.add 0 1))
 ldSV t16 h5 fun t17 =>
 let t18 := eqL t17 ([38] : LN)
 some (vB t18)) (
 some (vB false))) fun t19 =>
 obB (brV t19 (
 let t21 := (AV.ptr (HP.nxQ h) (Nat.add 0 5))
 cellCV t21 h5 fun t22 =>
 iasCV 8 t22 (vI (Int.ofNat 0)) fun t23 =>
 faCV 0 t23 fun t24 =>
 ldIV t24 h5 fun t25 =>
 let t26 := eqQ t25 (Int.ofNat 3)
 some (vB t26)) (
 some (vB false))) fun t27 =>
 br t27 (
 let t29 := (AV.ptr (HP.nxQ h) (Nat.add 0 5))
 cellC t29 h5 fun t30 =>
 iasC 8 t30 (vI (Int.ofNat 0)) fun t31 =>
 faC 2 t31 fun t32 =>
 ldS t32 h5 fun t33 =>
 eff (.mset .str (.c t1) (.c (vS t33)) (.c (vB true))) h5 fun t0 h7 =>
 S137_2 D m g0 t1 t5 t6 t7 t8 h7) (
 S137_2 D m g0 t1 t5 t6 t7 t8 h5)) (
 some (.ret (.tup []) h, .no))
def S137_0 (D : CallD) (m : Nat) : AV → AV → Int → Int → HP → Res2 := nrec (fun _ _ _ _ _ => none) (fun _ g => S137_0b D m g) m
def e137_3 (k t0 t1 h) := kN k [(p0, t0), (p1, t1)] h
def S137_3 (D : CallD) (m : Nat) (t0 t1 : AV) (h : HP) : Res2 :=
 lenC t0 fun vt7 => asI .i64 vt7 fun t7 =>
 S137_0 D m t1 t0 t7 (Int.ofNat 0) h
def S137 : SFn := fun D m args h u => nou u <| popV args fun t0 args => popV args fun t1 args => endA args (S137_3 D m t0 t1 h)
theorem T137_1 (hE : FX x137 D m E) (G0) : S137_1 D m (e137_0 G0) = e137_1 (E c137_1 [.lp v137_0 G0, .blk 0]) := by unfold S137_1; rw [hE c137_1]; kernel_rfl
theorem T137_2 (hE : FX x137 D m E) (G0) : S137_2 D m (e137_0 G0) = e137_2 (E c137_2 [.blk 1, .sj v137_1 c137_1, .lp v137_0 G0, .blk 0]) := by unfold S137_2; rw [T137_1 hE G0, hE c137_2]; kernel_rfl
theorem T137_0b (hE : FX x137 D m E) (G0) : S137_0b D m (e137_0 G0) = e137_0 (E c137_0b [.lp v137_0 G0, .blk 0]) := by unfold S137_0b; rw [T137_2 hE G0, hE c137_0b]; kernel_rfl
theorem T137_0 (hE : FX x137 D m E) : S137_0 D m = e137_0 (nrec (fun _ => none) (fun _ G0 st => E c137_0b [.lp v137_0 G0, .blk 0] st) m) :=
  nrec_emb e137_0 (fun _ _ _ _ _ => none) (fun g => S137_0b D m g) (fun G0 st => E c137_0b [.lp v137_0 G0, .blk 0] st) rfl (fun g => T137_0b hE g) m
theorem T137_3 (hE : FX x137 D m E) : S137_3 D m = e137_3 (E c137_e []) := by unfold S137_3; rw [T137_0 hE, hE c137_e]; kernel_rfl
theorem X137 : XTie S137 x137 := X_of fun D m E hE args h u => by unfold S137; rw [T137_3 hE]; kernel_rfl
/- 138 -/
def v138_0 : List Pos := [p0, p1, p8, p9]
def c138_0 : XC := (.seq (.ops true (XL.of [.mv p65 q0 .v, .P p66 (.nilck q65) .v, .fa p67 6 q66, .ld p68 q67 .v, .mv p69 q1 .s, .L p70 (.cells 4 q9) .v, .o ⟨none, (.e (.mset .str q68 q69 q70)), none, []⟩ .v])) (.sO [.L p71 (.cells 4 q9) .v, .ss 4 q8 q71] (.s .ret)))
def c138_e : XC := (.sO [.al p8 (.new [(kI 0), (kI 0), (kI 0), (kI 0)])] (.sO [.mv p12 q0 .v, .P p13 (.nilck q12) .v, .fa p14 6 q13, .ld p15 q14 .v, .mv p16 q1 .s, .L p17 (.look .str (.agg [(kI 0), (kI 0), (kI 0), (kI 0)]) true q15 q16) .v, .mv p11 q17 .v, .P p18 (.ext q11 0) .v, .P p19 (.ext q11 1) .b, .al p9 (.new [(kI 0), (kI 0), (kI 0), (kI 0)]), .ss 4 q9 q18, .mv p10 q19 .b] (.seq (.seq (.oX [.mv p20 q10 .b]) (.cond q20 (.seq (.oX [.L p21 (.cells 4 q9) .v, .ss 4 q8 q21]) .ret) .skip)) (.sO [.mv p22 q2 tI, .mv p23 q3 tI, .P p24 (.build [(kI 0), (kI 0), (kI 0), (kI 0)] [⟨0, 1, (.c (.int .i64 (.negSucc 0)))⟩, ⟨1, 1, (.c (.int .i64 (.negSucc 0)))⟩, ⟨2, 1, q22⟩, ⟨3, 1, q23⟩]) .v, .ss 4 q9 q24] (.sj v138_0 (.sO [.mv p25 q3 tI, .bn p26 .gtr q25 (ci 0) .b, .mv p27 q26 .b, .ge p27 (XL.of [.G p27 false p28 (.mov q0) .v, .G p27 false p29 (.nilck q28) .v, .G p27 false p30 (.faddr 7 q29) .v, .o ⟨(some p31), (.l (.cell q30)), (some (p27, false)), []⟩ .v, .G p27 false p32 (.mov q1) .s, .o ⟨(some p33), (.l (.look .str (.bool false) false q31 q32)), (some (p27, false)), []⟩ .b, .P p34 (.pick q27 (cb true) q33) .b]) p34 .b] (.cond q34 (.sO [.mv p35 q0 .v, .P p36 (.nilck q35) .v, .fa p37 0 q36, .fa p38 4 q37, .ld p39 q38 .v, .P p40 (.lenl q39) tI, .fa p41 1 q9, .st q41 q40] (.s (.ops true (XL.of [.mv p42 q0 .v, .mv p43 q0 .v, .P p44 (.nilck q43) .v, .fa p45 0 q44, .fa p46 4 q45, .ld p47 q46 .v, .mv p48 q2 tI, .mv p50 q3 tI, .P p51 (.mm true [q50, (ci 1)]) tI, .o ⟨(some p49), (.call (.fn 177) [q48]), none, [⟨none, .cell q46, p47⟩]⟩ tI, .bn p52 .mul q49 q51 tI, .bn p53 .add q52 (ci 7) tI, .bn p54 .andNot q53 (ci 7) tI, .al p55 (.bsl [(kI 0)] 1 [⟨0, 1, q54⟩]), .o ⟨(some p56), (.e (.app 1 8 q47 q55)), none, []⟩ .v, .P p57 (.nilck q42) .v, .fa p58 0 q57, .fa p59 4 q58, .st q59 q56])))) (.s (.oX [.mv p60 q0 .v, .mv p61 q2 tI, .cl p62 91 [q61] tI, .cl p63 90 [q60, q62] tI, .fa p64 0 q9, .st q64 q63])))) c138_0)))))
def x138 : XFn := ⟨[.v, .s, tI, tI], false, [(.cells 4 p8)], c138_e⟩
def e138_0 (k t0 t1 t8 t9 h) := kN k [(p0, t0), (p1, (vS t1)), (p8, t8), (p9, t9)] h
def S138_0 (D : CallD) (m : Nat) (t0 : AV) (t1 : LN) (t8 t9 : AV) (h : HP) : Res2 :=
 nilckC t0 fun t66 =>
 faC 6 t66 fun t67 =>
 cellC t67 h fun t68 =>
 cellsC 4 t9 h fun t70 =>
 eff (.mset .str (.c t68) (.c (vS t1)) (.c t70)) h fun t0a h7 =>
 cellsC 4 t9 h7 fun t71 =>
 stsC 4 t8 t71 h7 fun h8 =>
 cellsC 4 t8 h8 fun t8a =>
 some (.ret t8a h8, .no)
def e138_1 (k t0 t1 t2 t3 h) := kN k [(p0, t0), (p1, (vS t1)), (p2, (vI t2)), (p3, (vI t3))] h
def S138_1 (D : CallD) (m : Nat) (t0 : AV) (t1 : LN) (t2 t3 : Int) (h : HP) : Res2 :=
 let t8 := AV.ptr (HP.nxQ h) 0
 let h2 := HP.newQ h (.cells true [(kI 0), (kI 0), (kI 0), (kI 0)])
 nilckC t0 fun t13 =>
 faC 6 t13 fun t14 =>
 cellC t14 h2 fun t15 =>
 obQ (evL (.look .str (.agg [(kI 0), (kI 0), (kI 0), (kI 0)]) true (.c t15) (.c (vS t1))) .leaf h2) fun t17 =>
 extC t17 0 fun t18 =>
 extC t17 1 fun vt19 => asB vt19 fun t19 =>
 let t9 := AV.ptr (HP.nxQ h2) 0
 let h3 := HP.newQ h2 (.cells true [(kI 0), (kI 0), (kI 0), (kI 0)])
 stsC 4 t9 t18 h3 fun h4 =>
 br t19 (
 cellsC 4 t9 h4 fun t21 =>
 stsC 4 t8 t21 h4 fun h5 =>
 cellsC 4 t8 h5 fun t8a =>
 some (.ret t8a h5, .no)) (
 let t24 := (AV.agg [(vI (Int.negSucc 0)), (vI (Int.negSucc 0)), (vI t2), (vI t3)])
 stsC 4 t9 t24 h4 fun h6 =>
 let t26 := ltQ (Int.ofNat 0) t3
 obB (brV t26 (
 some (vB true)) (
 nilckCV t0 fun t29 =>
 faCV 7 t29 fun t30 =>
 cellCV t30 h6 fun t31 =>
 obBV (evL (.look .str (.bool false) false (.c t31) (.c (vS t1))) .leaf h6) fun t33 =>
 some (vB t33))) fun t34 =>
 br t34 (
 nilckC t0 fun t36 =>
 faC 0 t36 fun t37 =>
 faC 4 t37 fun t38 =>
 cellC t38 h6 fun t39 =>
 lenC t39 fun vt40 => asI .i64 vt40 fun t40 =>
 let t41 := (AV.ptr (HP.nxQ h2) (Nat.add 0 1))
 stoC t41 (vI t40) h6 fun h9 =>
 nilckC t0 fun t44 =>
 faC 0 t44 fun t45 =>
 faC 4 t45 fun t46 =>
 cellC t46 h9 fun t47 =>
 let t51 := mmI true t3 (Int.ofNat 1)
 cal D 177 [(vI t2)] h9 fun t49 h10 =>
 br (again [⟨none, .cell q46, p47⟩] (mkT [(p47, t47), (p46, t46)]) h10) (
 asI .i64 t49 fun t49a =>
 let t52 := wrQ .i64 (t49a * t51)
 let t53 := wrQ .i64 (addQ t52 (Int.ofNat 7))
 let t54 := IntKind.wrap .i64 (BitVec.ofInt (IntKind.bits .i64) t53 &&& ~~~ BitVec.ofInt (IntKind.bits .i64) (Int.ofNat 7)).toNat
 let t55 := AV.slice (HP.nxQ h10) 0 1 (.exact 1)
 let h11 := HP.newQ h10 (.cells true [(vI t54)])
 eff (.app 1 8 (.c t47) (.c t55)) h11 fun t56 h12 =>
 nilckC t0 fun t57 =>
 faC 0 t57 fun t58 =>
 faC 4 t58 fun t59 =>
 stoC t59 t56 h12 fun h13 =>
 S138_0 D m t0 t1 t8 t9 h13) none) (
 cal D 91 [(vI t2)] h6 fun t62 h14 =>
 asI .i64 t62 fun t62a =>
 cal D 90 [t0, (vI t62a)] h14 fun t63 h15 =>
 asI .i64 t63 fun t63a =>
 let t64 := (AV.ptr (HP.nxQ h2) (Nat.add 0 0))
 stoC t64 (vI t63a) h15 fun h16 =>
 S138_0 D m t0 t1 t8 t9 h16))
def S138 : SFn := fun D m args h u => nou u <| popV args fun t0 args => popS args fun t1 args => popI .i64 args fun t2 args => popI .i64 args fun t3 args => endA args (S138_1 D m t0 t1 t2 t3 h)
theorem T138_0 (hE : FX x138 D m E) : S138_0 D m = e138_0 (E c138_0 []) := by unfold S138_0; rw [hE c138_0]; kernel_rfl
theorem T138_1 (hE : FX x138 D m E) : S138_1 D m = e138_1 (E c138_e []) := by unfold S138_1; rw [T138_0 hE, hE c138_e]; kernel_rfl
theorem X138 : XTie S138 x138 := X_of fun D m E hE args h u => by unfold S138; rw [T138_1 hE]; kernel_rfl
/- 139 -/
def c139_e : XC := (.sO [.mv p4 (ci 0) tI] (.seq (.seq (.oX [.mv p6 q1 tI, .cl p7 91 [q6] tI, .bn p8 .eql q7 (ci 2) .b]) (.cond q8 (.seq (.oX [.mv p9 q0 .v, .cl p10 90 [q9, (ci 2)] tI, .mv p5 q10 tI]) (.seq (.oX [.mv p11 q0 .v, .mv p12 q5 tI, .P p13 (.build [(kI 0), (kI 0), (kI 0), (kI 0), (.int .u32 (.ofNat 0)), (.int .u64 (.ofNat 0)), (.str []), .nils, (kI 0)] [⟨0, 1, (ci 2)⟩, ⟨1, 1, q12⟩]) .v, .cl p14 140 [q11, q13] .v]) (.seq (.oX [.mv p15 q5 tI, .mv p4 q15 tI]) .ret))) .skip)) (.sO [.mv p16 q0 .v, .cl p17 178 [q16, (.c (.int .u32 (.ofNat 0)))] tI, .mv p4 q17 tI] (.s .ret))))
def x139 : XFn := ⟨[.v, tI], false, [(.tmp p4)], c139_e⟩
def e139_0 (k t0 t1 h) := kN k [(p0, t0), (p1, (vI t1))] h
def S139_0 (D : CallD) (m : Nat) (t0 : AV) (t1 : Int) (h : HP) : Res2 :=
 cal D 91 [(vI t1)] h fun t7 h1 =>
 asI .i64 t7 fun t7a =>
 let t8 := eqQ t7a (Int.ofNat 2)
 br t8 (
 cal D 90 [t0, (vI (Int.ofNat 2))] h1 fun t10 h2 =>
 asI .i64 t10 fun t10a =>
 let t13 := (AV.agg [(vI (Int.ofNat 2)), (vI t10a), (vI (Int.ofNat 0)), (vI (Int.ofNat 0)), (vW (Int.ofNat 0)), (AV.int .u64 (Int.ofNat 0)), (vS ([] : LN)), (.nils : AV), (vI (Int.ofNat 0))])
 cal D 140 [t0, t13] h2 fun t14 h3 =>
 some (.ret (vI t10a) h3, .no)) (
 cal D 178 [t0, (vW (Int.ofNat 0))] h1 fun t17 h4 =>
 asI .i64 t17 fun t17a =>
 some (.ret (vI t17a) h4, .no))
def S139 : SFn := fun D m args h u => nou u <| popV args fun t0 args => popI .i64 args fun t1 args => endA args (S139_0 D m t0 t1 h)
theorem T139_0 (hE : FX x139 D m E) : S139_0 D m = e139_0 (E c139_e []) := by unfold S139_0; rw [hE c139_e]; kernel_rfl
theorem X139 : XTie S139 x139 := X_of fun D m E hE args h u => by unfold S139; rw [T139_0 hE]; kernel_rfl
/- 140 -/
def c140_e : XC := (.sO [.al p3 (.box q1)] (.s (.ops true (XL.of [.mv p4 q0 .v, .mv p5 q0 .v, .P p6 (.nilck q5) .v, .fa p7 0 q6, .fa p8 5 q7, .ld p9 q8 .v, .L p10 (.cells 9 q3) .v, .al p11 (.bsl [(kI 0), (kI 0), (kI 0), (kI 0), (.int .u32 (.ofNat 0)), (.int .u64 (.ofNat 0)), (.str []), .nils, (kI 0)] 1 [⟨0, 9, q10⟩]), .o ⟨(some p12), (.e (.app 9 96 q9 q11)), none, []⟩ .v, .P p13 (.nilck q4) .v, .fa p14 0 q13, .fa p15 5 q14, .st q15 q12]))))
def x140 : XFn := ⟨[.v, .v], false, [], c140_e⟩
def e140_0 (k t0 t1 h) := kN k [(p0, t0), (p1, t1)] h
def S140_0 (D : CallD) (m : Nat) (t0 t1 : AV) (h : HP) : Res2 :=
 let t3 := AV.ptr (HP.nxQ h) 0
 let h1 := HP.newQ h (.cells true (AV.cells t1))
 nilckC t0 fun t6 =>
 faC 0 t6 fun t7 =>
 faC 5 t7 fun t8 =>
 cellC t8 h1 fun t9 =>
 cellsC 9 t3 h1 fun t10 =>
 obQ (evA (.bsl [(kI 0), (kI 0), (kI 0), (kI 0), (.int .u32 (.ofNat 0)), (.int .u64 (.ofNat 0)), (.str []), .nils, (kI 0)] 1 [⟨0, 9, (.c t10)⟩]) .leaf) fun r2 =>
 let t11 := vkV r2.2 (HP.nxQ h1)
 let h3 := HP.newQ h1 r2.1
 eff (.app 9 96 (.c t9) (.c t11)) h3 fun t12 h4 =>
 nilckC t0 fun t13 =>
 faC 0 t13 fun t14 =>
 faC 5 t14 fun t15 =>
 stoC t15 t12 h4 fun h5 =>
 some (.ret (.tup []) h5, .no)
def S140 : SFn := fun D m args h u => nou u <| popV args fun t0 args => popV args fun t1 args => endA args (S140_0 D m t0 t1 h)
theorem T140_0 (hE : FX x140 D m E) : S140_0 D m = e140_0 (E c140_e []) := by unfold S140_0; rw [hE c140_e]; kernel_rfl
theorem X140 : XTie S140 x140 := X_of fun D m E hE args h u => by unfold S140; rw [T140_0 hE]; kernel_rfl
/- 144 -/
def v144_0 : List Pos := [p0, p3, p4, p5]
def c144_0 : XC := (.sO [.mv p44 q0 .v, .cl p45 180 [q44, q4] .v] (.sO [.mv p46 q0 .v, .cl p47 182 [q46, q4] .v] (.sO [.fa p48 2 q3, .ld p49 q48 .v, .P p50 (.lenl q49) tI, .bn p51 .gtr q50 (ci 1) .b] (.cond q51 (.sO [.mv p52 q0 .v, .fa p53 2 q3, .ld p54 q53 .v, .P p55 (.iaddr (.sl 7) q54 (ci 1)) .v, .L p56 (.cells 7 q55) .v, .cl p57 144 [q52, q56] .v] (.sO [.mv p58 q0 .v, .cl p59 180 [q58, q5] .v] (.s (.oX [.mv p60 q0 .v, .cl p61 182 [q60, q5] .v])))) (.s .skip)))))
def v144_2 : List Pos := [p0, p144, p145, p146]
def c144_2b : XC := (.sO [.bn p147 .lss q146 q145 .b] (.seq (.cond q147 .skip (.exit 1)) (.seq (.block 2 (.seq (.oX [.P p148 (.iaddr (.sl 8) q144 q146) .v, .L p149 (.cells 8 q148) .v, .al p9 (.new [(kI 0), (.str []), (.str []), (.int .u32 (.ofNat 0)), (.int .u64 (.ofNat 0)), .nils, (kI 0), (kI 0)]), .ss 8 q9 q149]) (.oX [.mv p150 q0 .v, .L p151 (.cells 8 q9) .v, .cl p152 145 [q150, q151] tI]))) (.s (.oX [.bn p153 .add q146 (ci 1) tI, .mv p146 q153 tI])))))
def v144_3 : List Pos := [p0, p3, p10]
def c144_3 : XC := (.s (.oX [.mv p167 q0 .v, .fa p168 3 q3, .ld p169 q168 .s, .fa p170 4 q3, .ld p171 q170 tI, .fa p172 5 q3, .ld p173 q172 tI, .mv p174 q10 tI, .cl p175 92 [q167, q169, q171, q173, q174] .v]))
def v144_4 : List Pos := [p0, p3, p10, p157, p158, p159]
def c144_4b : XC := (.sO [.bn p160 .lss q159 q158 .b] (.seq (.cond q160 .skip (.exit 3)) (.seq (.block 4 (.seq (.oX [.P p161 (.iaddr (.sl 8) q157 q159) .v, .L p162 (.cells 8 q161) .v, .al p12 (.new [(kI 0), (.str []), (.str []), (.int .u32 (.ofNat 0)), (.int .u64 (.ofNat 0)), .nils, (kI 0), (kI 0)]), .ss 8 q12 q162]) (.oX [.mv p163 q0 .v, .L p164 (.cells 8 q12) .v, .cl p165 145 [q163, q164] tI, .mv p10 q165 tI]))) (.s (.oX [.bn p166 .add q159 (ci 1) tI, .mv p159 q166 tI])))))
def v144_1 : List Pos := [p0, p3, p14, p119]
def c144_1 : XC := (.cond q119 (.s (.ops true (XL.of [.mv p122 q0 .v, .P p123 (.build [(kI 0), (kI 0), (kI 0), (kI 0), (.int .u32 (.ofNat 0)), (.int .u64 (.ofNat 0)), (.str []), .nils, (kI 0)] [⟨0, 1, (ci 18)⟩]) .v, .mv p124 q0 .v, .P p125 (.nilck q124) .v, .fa p126 9 q125, .ld p127 q126 .v, .mv p128 q0 .v, .P p129 (.nilck q128) .v, .fa p130 9 q129, .ld p131 q130 .v, .P p132 (.lenl q131) tI, .bn p133 .sub q132 (ci 1) tI, .fa p134 0 q3, .ld p135 q134 tI, .bn p136 .sub q135 (ci 5) tI, .P p137 (.iaddr (.sl 2) q127 q133) .v, .P p138 (.iaddr (.arr 2 1) q137 q136) .v, .ld p139 q138 .v, .cl p140 181 [q122, q123, q139] .v]))) (.sO [.bn p142 .eql q14 (ci 7) .b, .mv p141 q142 .b] (.cond q141 (.sO [.fa p143 1 q3, .ld p144 q143 .v, .P p145 (.lenl q144) tI, .mv p146 (ci 0) tI] (.block 1 (.loop v144_2 c144_2b))) (.sO [.bn p155 .eql q14 (ci 8) .b, .mv p154 q155 .b] (.cond q154 (.sO [.mv p10 (.c (.int .i64 (.negSucc 0))) tI] (.sj v144_3 (.sO [.fa p156 1 q3, .ld p157 q156 .v, .P p158 (.lenl q157) tI, .mv p159 (ci 0) tI] (.block 3 (.loop v144_4 c144_4b))) c144_3)) (.s .skip))))))
def c144_e : XC := (.sO [.al p3 (.box q1)] (.sO [.fa p13 0 q3, .ld p14 q13 tI] (.block 0 (.sO [.bn p16 .eql q14 (ci 1) .b, .mv p15 q16 .b] (.cond q15 (.s (.oX [.mv p17 q0 .v, .fa p18 2 q3, .ld p19 q18 .v, .cl p20 93 [q17, q19] .v])) (.sO [.bn p22 .eql q14 (ci 2) .b, .mv p21 q22 .b] (.cond q21 (.sO [.al p4 (.new [(kI 0), .nils]), .al p5 (.new [(kI 0), .nils])] (.sO [.mv p23 q0 .v, .mv p24 q0 .v, .fa p25 1 q3, .ld p26 q25 .v, .P p27 (.iaddr (.sl 8) q26 (ci 0)) .v, .L p28 (.cells 8 q27) .v, .cl p29 145 [q24, q28] tI, .cl p30 183 [q23, q29, q4] .v] (.sO [.mv p31 q0 .v, .fa p32 2 q3, .ld p33 q32 .v, .P p34 (.iaddr (.sl 7) q33 (ci 0)) .v, .L p35 (.cells 7 q34) .v, .cl p36 144 [q31, q35] .v] (.sj v144_0 (.sO [.fa p37 2 q3, .ld p38 q37 .v, .P p39 (.lenl q38) tI, .bn p40 .gtr q39 (ci 1) .b] (.cond q40 (.s (.oX [.mv p41 q0 .v, .P p42 (.build [(kI 0), (kI 0), (kI 0), (kI 0), (.int .u32 (.ofNat 0)), (.int .u64 (.ofNat 0)), (.str []), .nils, (kI 0)] [⟨0, 1, (ci 18)⟩]) .v, .cl p43 181 [q41, q42, q5] .v])) (.s .skip))) c144_0)))) (.sO [.bn p63 .eql q14 (ci 3) .b, .mv p62 q63 .b] (.cond q62 (.sO [.al p6 (.new [(kI 0), .nils]), .al p7 (.new [(kI 0), .nils])] (.sO [.mv p64 q0 .v, .cl p65 180 [q64, q6] .v] (.sO [.mv p66 q0 .v, .mv p67 q0 .v, .fa p68 1 q3, .ld p69 q68 .v, .P p70 (.iaddr (.sl 8) q69 (ci 0)) .v, .L p71 (.cells 8 q70) .v, .cl p72 145 [q67, q71] tI, .cl p73 183 [q66, q72, q7] .v] (.sO [.mv p74 q0 .v, .mv p75 q0 .v, .P p76 (.nilck q75) .v, .fa p77 9 q76, .ld p78 q77 .v, .P p79 (.build [.nilp, .nilp] [⟨0, 1, q7⟩, ⟨1, 1, q6⟩]) .v, .al p80 (.bsl [.nilp, .nilp] 1 [⟨0, 2, q79⟩]), .o ⟨(some p81), (.e (.app 2 16 q78 q80)), none, []⟩ .v, .P p82 (.nilck q74) .v, .fa p83 9 q82, .st q83 q81] (.sO [.mv p84 q0 .v, .fa p85 2 q3, .ld p86 q85 .v, .P p87 (.iaddr (.sl 7) q86 (ci 0)) .v, .L p88 (.cells 7 q87) .v, .cl p89 144 [q84, q88] .v] (.seq (.ops true (XL.of [.mv p90 q0 .v, .mv p91 q0 .v, .P p92 (.nilck q91) .v, .fa p93 9 q92, .ld p94 q93 .v, .mv p95 q0 .v, .P p96 (.nilck q95) .v, .fa p97 9 q96, .ld p98 q97 .v, .P p99 (.lenl q98) tI, .bn p100 .sub q99 (ci 1) tI, .P p101 (.slice (.sl 2) q94 none (some q100) none) .v, .P p102 (.nilck q90) .v, .fa p103 9 q102, .st q103 q101])) (.sO [.mv p104 q0 .v, .P p105 (.build [(kI 0), (kI 0), (kI 0), (kI 0), (.int .u32 (.ofNat 0)), (.int .u64 (.ofNat 0)), (.str []), .nils, (kI 0)] [⟨0, 1, (ci 18)⟩]) .v, .cl p106 181 [q104, q105, q6] .v] (.sO [.mv p107 q0 .v, .cl p108 180 [q107, q7] .v] (.sO [.mv p109 q0 .v, .cl p110 182 [q109, q7] .v] (.s (.oX [.mv p111 q0 .v, .cl p112 182 [q111, q6] .v]))))))))))) (.sO [.bn p114 .eql q14 (ci 4) .b, .mv p113 q114 .b] (.cond q113 (.s (.oX [.mv p115 q0 .v, .fa p116 1 q3, .ld p117 q116 .v, .cl p118 94 [q115, q117] .v])) (.sj v144_1 (.sO [.bn p120 .eql q14 (ci 5) .b, .mv p119 q120 .b] (.cond q119 (.s .skip) (.s (.oX [.bn p121 .eql q14 (ci 6) .b, .mv p119 q121 .b])))) c144_1))))))))))))
def x144 : XFn := ⟨[.v, .v], false, [], c144_e⟩
def e144_0 (k t0 t3 t4 t5 h) := kN k [(p0, t0), (p3, t3), (p4, t4), (p5, t5)] h
def S144_0 (D : CallD) (m : Nat) (t0 t3 t4 t5 : AV) (h : HP) : Res2 :=
 cal D 180 [t0, t4] h fun t45 h13 =>
 cal D 182 [t0, t4] h13 fun t47 h14 =>
 faC 2 t3 fun t48 =>
 cellC t48 h14 fun t49 =>
 lenC t49 fun vt50 => asI .i64 vt50 fun t50 =>
 let t51 := ltQ (Int.ofNat 1) t50
 br t51 (
 faC 2 t3 fun t53 =>
 cellC t53 h14 fun t54 =>
 iasC 7 t54 (vI (Int.ofNat 1)) fun t55 =>
 cellsC 7 t55 h14 fun t56 =>
 cal D 144 [t0, t56] h14 fun t57 h15 =>
 cal D 180 [t0, t5] h15 fun t59 h16 =>
 cal D 182 [t0, t5] h16 fun t61 h17 =>
 some (.ret (.tup []) h17, .no)) (
 some (.ret (.tup []) h14, .no))
def e144_2 (k t0 t144 t145 t146 h) := kN k [(p0, t0), (p144, t144), (p145, (vI t145)), (p146, (vI t146))] h
def S144_2b (D : CallD) (m : Nat) (g2 : AV → AV → Int → Int → HP → Res2) (t0 t144 : AV) (t145 t146 : Int) (h : HP) : Res2 :=
 let t147 := ltQ t146 t145
 br t147 (
 iasC 8 t144 (vI t146) fun t148 =>
 cellsC 8 t148 h fun t149 =>
 let t9 := AV.ptr (HP.nxQ h) 0
 let h35 := HP.newQ h (.cells true [(kI 0), (.str []), (.str []), (.int .u32 (.ofNat 0)), (.int .u64 (.ofNat 0)), .nils, (kI 0), (kI 0)])
 stsC 8 t9 t149 h35 fun h36 =>
 cellsC 8 t9 h36 fun t151 =>
 cal D 145 [t0, t151] h36 fun t152 h37 =>
 asI .i64 t152 fun t152a =>
 let t153 := wrQ .i64 (addQ t146 (Int.ofNat 1))
 g2 t0 t144 t145 t153 h37) (
 some (.ret (.tup []) h, .no))
def S144_2 (D : CallD) (m : Nat) : AV → AV → Int → Int → HP → Res2 := nrec (fun _ _ _ _ _ => none) (fun _ g => S144_2b D m g) m
def e144_3 (k t0 t3 t10 h) := kN k [(p0, t0), (p3, t3), (p10, (vI t10))] h
def S144_3 (D : CallD) (m : Nat) (t0 t3 : AV) (t10 : Int) (h : HP) : Res2 :=
 faC 3 t3 fun t168 =>
 ldS t168 h fun t169 =>
 faC 4 t3 fun t170 =>
 ldI t170 h fun t171 =>
 faC 5 t3 fun t172 =>
 ldI t172 h fun t173 =>
 cal D 92 [t0, (vS t169), (vI t171), (vI t173), (vI t10)] h fun t175 h38 =>
 some (.ret (.tup []) h38, .no)
def e144_4 (k t0 t3 t10 t157 t158 t159 h) := kN k [(p0, t0), (p3, t3), (p10, (vI t10)), (p157, t157), (p158, (vI t158)), (p159, (vI t159))] h
def S144_4b (D : CallD) (m : Nat) (g4 : AV → AV → Int → AV → Int → Int → HP → Res2) (t0 t3 : AV) (t10 : Int) (t157 : AV) (t158 t159 : Int) (h : HP) : Res2 :=
 let t160 := ltQ t159 t158
 br t160 (
 iasC 8 t157 (vI t159) fun t161 =>
 cellsC 8 t161 h fun t162 =>
 let t12 := AV.ptr (HP.nxQ h) 0
 let h39 := HP.newQ h (.cells true [(kI 0), (.str []), (.str []), (.int .u32 (.ofNat 0)), (.int .u64 (.ofNat 0)), .nils, (kI 0), (kI 0)])
 stsC 8 t12 t162 h39 fun h40 =>
 cellsC 8 t12 h40 fun t164 =>
 cal D 145 [t0, t164] h40 fun t165 h41 =>
 asI .i64 t165 fun t165a =>
 let t166 := wrQ .i64 (addQ t159 (Int.ofNat 1))
 g4 t0 t3 t165a t157 t158 t166 h41) (
 S144_3 D m t0 t3 t10 h)
def S144_4 (D : CallD) (m : Nat) : AV → AV → Int → AV → Int → Int → HP → Res2 := nrec (fun _ _ _ _ _ _ _ => none) (fun _ g => S144_4b D m g) m
def e144_1 (k t0 t3 t14 t119 h) := kN k [(p0, t0), (p3, t3), (p14, (vI t14)), (p119, (vB t119))] h
def S144_1 (D : CallD) (m : Nat) (t0 t3 : AV) (t14 : Int) (t119 : Bool) (h : HP) : Res2 :=
 br t119 (
 let t123 := (AV.agg [(vI (Int.ofNat 18)), (vI (Int.ofNat 0)), (vI (Int.ofNat 0)), (vI (Int.ofNat 0)), (vW (Int.ofNat 0)), (AV.int .u64 (Int.ofNat 0)), (vS ([] : LN)), (.nils : AV), (vI (Int.ofNat 0))])
 nilckC t0 fun t125 =>
 faC 9 t125 fun t126 =>
 cellC t126 h fun t127 =>
 nilckC t0 fun t129 =>
 faC 9 t129 fun t130 =>
 cellC t130 h fun t131 =>
 lenC t131 fun vt132 => asI .i64 vt132 fun t132 =>
 let t133 := wrQ .i64 (t132 - (Int.ofNat 1))
 faC 0 t3 fun t134 =>
 ldI t134 h fun t135 =>
 let t136 := wrQ .i64 (t135 - (Int.ofNat 5))
 iasC 2 t127 (vI t133) fun t137 =>
 iarC 2 1 t137 (vI t136) fun t138 =>
 cellC t138 h fun t139 =>
 cal D 181 [t0, t123, t139] h fun t140 h34 =>
 some (.ret (.tup []) h34, .no)) (
 let t142 := eqQ t14 (Int.ofNat 7)
 br t142 (
 faC 1 t3 fun t143 =>
 cellC t143 h fun t144 =>
 lenC t144 fun vt145 => asI .i64 vt145 fun t145 =>
 S144_2 D m t0 t144 t145 (Int.ofNat 0) h) (
 let t155 := eqQ t14 (Int.ofNat 8)
 br t155 (
 faC 1 t3 fun t156 =>
 cellC t156 h fun t157 =>
 lenC t157 fun vt158 => asI .i64 vt158 fun t158 =>
 S144_4 D m t0 t3 (Int.negSucc 0) t157 t158 (Int.ofNat 0) h) (
 some (.ret (.tup []) h, .no))))
def e144_5 (k t0 t1 h) := kN k [(p0, t0), (p1, t1)] h
def S144_5 (D : CallD) (m : Nat) (t0 t1 : AV) (h : HP) : Res2 :=
 let t3 := AV.ptr (HP.nxQ h) 0
 let h6 := HP.newQ h (.cells true (AV.cells t1))
 let t13 := (AV.ptr (HP.nxQ h) (Nat.add 0 0))
 ldI t13 h6 fun t14 =>
 let t16 := eqQ t14 (Int.ofNat 1)
 br t16 (
 let t18 := (AV.ptr (HP.nxQ h) (Nat.add 0 2))
 cellC t18 h6 fun t19 =>
 cal D 93 [t0, t19] h6 fun t20 h7 =>
 some (.ret (.tup []) h7, .no)) (
 let t22 := eqQ t14 (Int.ofNat 2)
 br t22 (
 let t4 := AV.ptr (HP.nxQ h6) 0
 let h8 := HP.newQ h6 (.cells true [(kI 0), .nils])
 let t5 := AV.ptr (HP.nxQ h8) 0
 let h9 := HP.newQ h8 (.cells true [(kI 0), .nils])
 let t25 := (AV.ptr (HP.nxQ h) (Nat.add 0 1))
 cellC t25 h9 fun t26 =>
 iasC 8 t26 (vI (Int.ofNat 0)) fun t27 =>
 cellsC 8 t27 h9 fun t28 =>
 cal D 145 [t0, t28] h9 fun t29 h10 =>
 asI .i64 t29 fun t29a =>
 cal D 183 [t0, (vI t29a), t4] h10 fun t30 h11 =>
 let t32 := (AV.ptr (HP.nxQ h) (Nat.add 0 2))
 cellC t32 h11 fun t33 =>
 iasC 7 t33 (vI (Int.ofNat 0)) fun t34 =>
 cellsC 7 t34 h11 fun t35 =>
 cal D 144 [t0, t35] h11 fun t36 h12 =>
 let t37 := (AV.ptr (HP.nxQ h) (Nat.add 0 2))
 cellC t37 h12 fun t38 =>
 lenC t38 fun vt39 => asI .i64 vt39 fun t39 =>
 let t40 := ltQ (Int.ofNat 1) t39
 br t40 (
 let t42 := (AV.agg [(vI (Int.ofNat 18)), (vI (Int.ofNat 0)), (vI (Int.ofNat 0)), (vI (Int.ofNat 0)), (vW (Int.ofNat 0)), (AV.int .u64 (Int.ofNat 0)), (vS ([] : LN)), (.nils : AV), (vI (Int.ofNat 0))])
 cal D 181 [t0, t42, t5] h12 fun t43 h18 =>
 S144_0 D m t0 t3 t4 t5 h18) (
 S144_0 D m t0 t3 t4 t5 h12)) (
 let t63 := eqQ t14 (Int.ofNat 3)
 br t63 (
 let t6 := AV.ptr (HP.nxQ h6) 0
 let h19 := HP.newQ h6 (.cells true [(kI 0), .nils])
 let t7 := AV.ptr (HP.nxQ h19) 0
 let h20 := HP.newQ h19 (.cells true [(kI 0), .nils])
 cal D 180 [t0, t6] h20 fun t65 h21 =>
 let t68 := (AV.ptr (HP.nxQ h) (Nat.add 0 1))
 cellC t68 h21 fun t69 =>
 iasC 8 t69 (vI (Int.ofNat 0)) fun t70 =>
 cellsC 8 t70 h21 fun t71 =>
 cal D 145 [t0, t71] h21 fun t72 h22 =>
 asI .i64 t72 fun t72a =>
 cal D 183 [t0, (vI t72a), t7] h22 fun t73 h23 =>
 nilckC t0 fun t76 =>
 faC 9 t76 fun t77 =>
 cellC t77 h23 fun t78 =>
 let t79 := (AV.agg [t7, t6])
 let t80 := AV.slice (HP.nxQ h23) 0 1 (.exact 1)
 let h24 := HP.newQ h23 (.cells true [t7, t6])
 eff (.app 2 16 (.c t78) (.c t80)) h24 fun t81 h25 =>
 nilckC t0 fun t82 =>
 faC 9 t82 fun t83 =>
 stoC t83 t81 h25 fun h26 =>
 let t85 := (AV.ptr (HP.nxQ h) (Nat.add 0 2))
 cellC t85 h26 fun t86 =>
 iasC 7 t86 (vI (Int.ofNat 0)) fun t87 =>
 cellsC 7 t87 h26 fun t88 =>
 cal D 144 [t0, t88] h26 fun t89 h27 =>
 nilckC t0 fun t92 =>
 faC 9 t92 fun t93 =>
 cellC t93 h27 fun t94 =>
 nilckC t0 fun t96 =>
 faC 9 t96 fun t97 =>
 cellC t97 h27 fun t98 =>
 lenC t98 fun vt99 => asI .i64 vt99 fun t99 =>
 let t100 := wrQ .i64 (t99 - (Int.ofNat 1))
 obQ (evP (.slice (.sl 2) (.c t94) none (some (.c (vI t100))) none) .leaf) fun t101 =>
 nilckC t0 fun t102 =>
 faC 9 t102 fun t103 =>
 stoC t103 t101 h27 fun h28 =>
 let t105 := (AV.agg [(vI (Int.ofNat 18)), (vI (Int.ofNat 0)), (vI (Int.ofNat 0)), (vI (Int.ofNat 0)), (vW (Int.ofNat 0)), (AV.int .u64 (Int.ofNat 0)), (vS ([] : LN)), (.nils : AV), (vI (Int.ofNat 0))])
 cal D 181 [t0, t105, t6] h28 fun t106 h29 =>
 cal D 180 [t0, t7] h29 fun t108 h30 =>
 cal D 182 [t0, t7] h30 fun t110 h31 =>
 cal D 182 [t0, t6] h31 fun t112 h32 =>
 some (.ret (.tup []) h32, .no)) (
 let t114 := eqQ t14 (Int.ofNat 4)
 br t114 (
 let t116 := (AV.ptr (HP.nxQ h) (Nat.add 0 1))
 cellC t116 h6 fun t117 =>
 cal D 94 [t0, t117] h6 fun t118 h33 =>
 some (.ret (.tup []) h33, .no)) (
 let t120 := eqQ t14 (Int.ofNat 5)
 br t120 (
 S144_1 D m t0 t3 t14 t120 h6) (
 let t121 := eqQ t14 (Int.ofNat 6)
 S144_1 D m t0 t3 t14 t121 h6)))))
def S144 : SFn := fun D m args h u => nou u <| popV args fun t0 args => popV args fun t1 args => endA args (S144_5 D m t0 t1 h)
theorem T144_0 (hE : FX x144 D m E) : S144_0 D m = e144_0 (E c144_0 [.blk 0]) := by unfold S144_0; rw [hE c144_0]; kernel_rfl
theorem T144_2b (hE : FX x144 D m E) (G2) : S144_2b D m (e144_2 G2) = e144_2 (E c144_2b [.lp v144_2 G2, .blk 1, .blk 0]) := by unfold S144_2b; rw [hE c144_2b]; kernel_rfl
theorem T144_2 (hE : FX x144 D m E) : S144_2 D m = e144_2 (nrec (fun _ => none) (fun _ G2 st => E c144_2b [.lp v144_2 G2, .blk 1, .blk 0] st) m) :=
  nrec_emb e144_2 (fun _ _ _ _ _ => none) (fun g => S144_2b D m g) (fun G2 st => E c144_2b [.lp v144_2 G2, .blk 1, .blk 0] st) rfl (fun g => T144_2b hE g) m
theorem T144_3 (hE : FX x144 D m E) : S144_3 D m = e144_3 (E c144_3 [.blk 0]) := by unfold S144_3; rw [hE c144_3]; kernel_rfl
theorem T144_4b (hE : FX x144 D m E) (G4) : S144_4b D m (e144_4 G4) = e144_4 (E c144_4b [.lp v144_4 G4, .blk 3, .sj v144_3 c144_3, .blk 0]) := by unfold S144_4b; rw [T144_3 hE, hE c144_4b]; kernel_rfl
theorem T144_4 (hE : FX x144 D m E) : S144_4 D m = e144_4 (nrec (fun _ => none) (fun _ G4 st => E c144_4b [.lp v144_4 G4, .blk 3, .sj v144_3 c144_3, .blk 0] st) m) :=
  nrec_emb e144_4 (fun _ _ _ _ _ _ _ => none) (fun g => S144_4b D m g) (fun G4 st => E c144_4b [.lp v144_4 G4, .blk 3, .sj v144_3 c144_3, .blk 0] st) rfl (fun g => T144_4b hE g) m
theorem T144_1 (hE : FX x144 D m E) : S144_1 D m = e144_1 (E c144_1 [.blk 0]) := by unfold S144_1; rw [T144_2 hE, T144_4 hE, hE c144_1]; kernel_rfl
theorem T144_5 (hE : FX x144 D m E) : S144_5 D m = e144_5 (E c144_e []) := by unfold S144_5; rw [T144_0 hE, T144_1 hE, hE c144_e]; kernel_rfl
theorem X144 : XTie S144 x144 := X_of fun D m E hE args h u => by unfold S144; rw [T144_5 hE]; kernel_rfl
/- 145 -/
def v145_0 : List Pos := [p0, p3]
def c145_0 : XC := (.sO [.mv p111 q0 .v, .L p112 (.cells 8 q3) .v, .cl p113 190 [q111, q112] tI, .mv p4 q113 tI] (.s .ret))
def v145_2 : List Pos := [p9]
def c145_2 : XC := (.sO [.mv p99 q9 tI, .mv p4 q99 tI] (.s .ret))
def v145_1 : List Pos := [p0, p3, p11, p29]
def c145_1 : XC := (.cond q29 (.sO [.mv p32 q0 .v, .L p33 (.cells 8 q3) .v, .cl p34 184 [q32, q33] tI, .mv p4 q34 tI] (.s .ret)) (.sO [.bn p36 .eql q11 (ci 4) .b, .mv p35 q36 .b] (.cond q35 (.sO [.mv p37 q0 .v, .L p38 (.cells 8 q3) .v, .cl p39 185 [q37, q38] tI, .mv p4 q39 tI] (.s .ret)) (.sO [.bn p41 .eql q11 (ci 5) .b, .mv p40 q41 .b] (.cond q40 (.seq (.seq (.oX [.fa p42 1 q3, .ld p43 q42 .s, .bn p44 .eql q43 (.c (.str [38, 38])) .b, .mv p45 q44 .b, .ge p45 (XL.of [.G p45 false p46 (.faddr 1 q3) .v, .o ⟨(some p47), (.l (.cell q46)), (some (p45, false)), []⟩ .s, .G p45 false p48 (.bin .eql q47 (.c (.str [124, 124]))) .b, .P p49 (.pick q45 (cb true) q48) .b]) p49 .b]) (.cond q49 (.seq (.oX [.mv p50 q0 .v, .L p51 (.cells 8 q3) .v, .cl p52 186 [q50, q51] tI, .mv p4 q52 tI]) .ret) .skip)) (.sO [.mv p53 q0 .v, .fa p54 5 q3, .ld p55 q54 .v, .P p56 (.iaddr (.sl 8) q55 (ci 0)) .v, .L p57 (.cells 8 q56) .v, .cl p58 145 [q53, q57] tI, .mv p6 q58 tI] (.seq (.ops true (XL.of [.mv p59 q0 .v, .L p60 (.cells 8 q3) .v, .mv p61 q6 tI, .mv p62 q0 .v, .fa p63 5 q3, .ld p64 q63 .v, .P p65 (.iaddr (.sl 8) q64 (ci 1)) .v, .L p66 (.cells 8 q65) .v, .o ⟨(some p67), (.call (.fn 145) [q62, q66]), none, [⟨none, .cells 8 q3, p60⟩]⟩ tI, .cl p68 187 [q59, q60, q61, q67] tI, .mv p4 q68 tI])) (.s .ret)))) (.sO [.bn p70 .eql q11 (ci 6) .b, .mv p69 q70 .b] (.cond q69 (.sO [.mv p72 q0 .v, .fa p73 5 q3, .ld p74 q73 .v, .P p75 (.iaddr (.sl 8) q74 (ci 0)) .v, .L p76 (.cells 8 q75) .v, .cl p77 188 [q72, q76] .v, .mv p71 q77 .v, .P p78 (.ext q71 0) tI, .P p79 (.ext q71 1) tI, .mv p7 q78 tI, .mv p8 q79 tI] (.sO [.mv p80 q0 .v, .fa p81 5 q3, .ld p82 q81 .v, .P p83 (.iaddr (.sl 8) q82 (ci 1)) .v, .L p84 (.cells 8 q83) .v, .cl p85 145 [q80, q84] tI, .mv p9 q85 tI] (.sj v145_2 (.sO [.mv p86 q7 tI, .bn p87 .geq q86 (ci 0) .b] (.cond q87 (.s (.oX [.mv p88 q0 .v, .mv p89 q7 tI, .mv p90 q9 tI, .P p91 (.build [(kI 0), (kI 0), (kI 0), (kI 0), (.int .u32 (.ofNat 0)), (.int .u64 (.ofNat 0)), (.str []), .nils, (kI 0)] [⟨0, 1, (ci 3)⟩, ⟨1, 1, q89⟩, ⟨2, 1, q90⟩]) .v, .cl p92 140 [q88, q91] .v])) (.s (.oX [.mv p93 q0 .v, .fa p94 6 q3, .ld p95 q94 tI, .mv p96 q8 tI, .mv p97 q9 tI, .cl p98 142 [q93, q95, q96, q97] .v])))) c145_2))) (.sO [.bn p101 .eql q11 (ci 9) .b, .mv p100 q101 .b] (.cond q100 (.seq (.ops true (XL.of [.mv p102 q0 .v, .L p103 (.cells 8 q3) .v, .mv p104 q0 .v, .fa p105 5 q3, .ld p106 q105 .v, .P p107 (.iaddr (.sl 8) q106 (ci 0)) .v, .L p108 (.cells 8 q107) .v, .o ⟨(some p109), (.call (.fn 145) [q104, q108]), none, [⟨none, .cells 8 q3, p103⟩]⟩ tI, .cl p110 189 [q102, q103, q109] tI, .mv p4 q110 tI])) (.s .ret)) (.s .skip))))))))))
def c145_e : XC := (.sO [.al p3 (.box q1), .mv p4 (ci 0) tI] (.sj v145_0 (.sO [.fa p10 0 q3, .ld p11 q10 tI] (.block 0 (.sO [.bn p13 .eql q11 (ci 1) .b, .mv p12 q13 .b] (.cond q12 (.sO [.mv p14 q0 .v, .fa p15 3 q3, .ld p16 q15 tW, .cl p17 178 [q14, q16] tI, .mv p4 q17 tI] (.s .ret)) (.sO [.bn p19 .eql q11 (ci 2) .b, .mv p18 q19 .b] (.cond q18 (.sO [.mv p20 q0 .v, .cl p21 90 [q20, (ci 2)] tI, .mv p5 q21 tI] (.sO [.mv p22 q0 .v, .mv p23 q5 tI, .fa p24 4 q3, .ld p25 q24 (.i .u64), .P p26 (.build [(kI 0), (kI 0), (kI 0), (kI 0), (.int .u32 (.ofNat 0)), (.int .u64 (.ofNat 0)), (.str []), .nils, (kI 0)] [⟨0, 1, (ci 2)⟩, ⟨1, 1, q23⟩, ⟨5, 1, q25⟩]) .v, .cl p27 140 [q22, q26] .v] (.sO [.mv p28 q5 tI, .mv p4 q28 tI] (.s .ret)))) (.sj v145_1 (.sO [.bn p30 .eql q11 (ci 3) .b, .mv p29 q30 .b] (.cond q29 (.s .skip) (.s (.oX [.bn p31 .eql q11 (ci 8) .b, .mv p29 q31 .b])))) c145_1))))))) c145_0))
def x145 : XFn := ⟨[.v, .v], false, [(.tmp p4)], c145_e⟩
def e145_0 (k t0 t3 h) := kN k [(p0, t0), (p3, t3)] h
def S145_0 (D : CallD) (m : Nat) (t0 t3 : AV) (h : HP) : Res2 :=
 cellsC 8 t3 h fun t112 =>
 cal D 190 [t0, t112] h fun t113 h5 =>
 asI .i64 t113 fun t113a =>
 some (.ret (vI t113a) h5, .no)
def e145_2 (k t9 h) := kN k [(p9, (vI t9))] h
def S145_2 (D : CallD) (m : Nat) (t9 : Int) (h : HP) : Res2 :=
 some (.ret (vI t9) h, .no)
def e145_1 (k t0 t3 t11 t29 h) := kN k [(p0, t0), (p3, t3), (p11, (vI t11)), (p29, (vB t29))] h
def S145_1 (D : CallD) (m : Nat) (t0 t3 : AV) (t11 : Int) (t29 : Bool) (h : HP) : Res2 :=
 br t29 (
 cellsC 8 t3 h fun t33 =>
 cal D 184 [t0, t33] h fun t34 h9 =>
 asI .i64 t34 fun t34a =>
 some (.ret (vI t34a) h9, .no)) (
 let t36 := eqQ t11 (Int.ofNat 4)
 br t36 (
 cellsC 8 t3 h fun t38 =>
 cal D 185 [t0, t38] h fun t39 h10 =>
 asI .i64 t39 fun t39a =>
 some (.ret (vI t39a) h10, .no)) (
 let t41 := eqQ t11 (Int.ofNat 5)
 br t41 (
 faC 1 t3 fun t42 =>
 ldS t42 h fun t43 =>
 let t44 := eqL t43 ([38, 38] : LN)
 obB (brV t44 (
 some (vB true)) (
 faCV 1 t3 fun t46 =>
 ldSV t46 h fun t47 =>
 let t48 := eqL t47 ([124, 124] : LN)
 some (vB t48))) fun t49 =>
 br t49 (
 cellsC 8 t3 h fun t51 =>
 cal D 186 [t0, t51] h fun t52 h11 =>
 asI .i64 t52 fun t52a =>
 some (.ret (vI t52a) h11, .no)) (
 faC 5 t3 fun t54 =>
 cellC t54 h fun t55 =>
 iasC 8 t55 (vI (Int.ofNat 0)) fun t56 =>
 cellsC 8 t56 h fun t57 =>
 cal D 145 [t0, t57] h fun t58 h12 =>
 asI .i64 t58 fun t58a =>
 cellsC 8 t3 h12 fun t60 =>
 faC 5 t3 fun t63 =>
 cellC t63 h12 fun t64 =>
 iasC 8 t64 (vI (Int.ofNat 1)) fun t65 =>
 cellsC 8 t65 h12 fun t66 =>
 cal D 145 [t0, t66] h12 fun t67 h13 =>
 br (again [⟨none, .cells 8 q3, p60⟩] (mkT [(p60, t60), (p3, t3)]) h13) (
 asI .i64 t67 fun t67a =>
 cal D 187 [t0, t60, (vI t58a), (vI t67a)] h13 fun t68 h14 =>
 asI .i64 t68 fun t68a =>
 some (.ret (vI t68a) h14, .no)) none)) (
 let t70 := eqQ t11 (Int.ofNat 6)
 br t70 (
 faC 5 t3 fun t73 =>
 cellC t73 h fun t74 =>
 iasC 8 t74 (vI (Int.ofNat 0)) fun t75 =>
 cellsC 8 t75 h fun t76 =>
 cal D 188 [t0, t76] h fun t77 h15 =>
 extC t77 0 fun vt78 => asI .i64 vt78 fun t78 =>
 extC t77 1 fun vt79 => asI .i64 vt79 fun t79 =>
 faC 5 t3 fun t81 =>
 cellC t81 h15 fun t82 =>
 iasC 8 t82 (vI (Int.ofNat 1)) fun t83 =>
 cellsC 8 t83 h15 fun t84 =>
 cal D 145 [t0, t84] h15 fun t85 h16 =>
 asI .i64 t85 fun t85a =>
 let t87 := leQ (Int.ofNat 0) t78
 br t87 (
 let t91 := (AV.agg [(vI (Int.ofNat 3)), (vI t78), (vI t85a), (vI (Int.ofNat 0)), (vW (Int.ofNat 0)), (AV.int .u64 (Int.ofNat 0)), (vS ([] : LN)), (.nils : AV), (vI (Int.ofNat 0))])
 cal D 140 [t0, t91] h16 fun t92 h17 =>
 S145_2 D m t85a h17) (
 faC 6 t3 fun t94 =>
 ldI t94 h16 fun t95 =>
 cal D 142 [t0, (vI t95), (vI t79), (vI t85a)] h16 fun t98 h18 =>
 S145_2 D m t85a h18)) (
 let t101 := eqQ t11 (Int.ofNat 9)
 br t101 (
 cellsC 8 t3 h fun t103 =>
 faC 5 t3 fun t105 =>
 cellC t105 h fun t106 =>
 iasC 8 t106 (vI (Int.ofNat 0)) fun t107 =>
 cellsC 8 t107 h fun t108 =>
 cal D 145 [t0, t108] h fun t109 h19 =>
 br (again [⟨none, .cells 8 q3, p103⟩] (mkT [(p103, t103), (p3, t3)]) h19) (
 asI .i64 t109 fun t109a =>
 cal D 189 [t0, t103, (vI t109a)] h19 fun t110 h20 =>
 asI .i64 t110 fun t110a =>
 some (.ret (vI t110a) h20, .no)) none) (
 S145_0 D m t0 t3 h)))))
def e145_3 (k t0 t1 h) := kN k [(p0, t0), (p1, t1)] h
def S145_3 (D : CallD) (m : Nat) (t0 t1 : AV) (h : HP) : Res2 :=
 let t3 := AV.ptr (HP.nxQ h) 0
 let h4 := HP.newQ h (.cells true (AV.cells t1))
 let t10 := (AV.ptr (HP.nxQ h) (Nat.add 0 0))
 ldI t10 h4 fun t11 =>
 let t13 := eqQ t11 (Int.ofNat 1)
 br t13 (
 let t15 := (AV.ptr (HP.nxQ h) (Nat.add 0 3))
 ldW t15 h4 fun t16 =>
 cal D 178 [t0, (vW t16)] h4 fun t17 h6 =>
 asI .i64 t17 fun t17a =>
 some (.ret (vI t17a) h6, .no)) (
 let t19 := eqQ t11 (Int.ofNat 2)
 br t19 (
 cal D 90 [t0, (vI (Int.ofNat 2))] h4 fun t21 h7 =>
 asI .i64 t21 fun t21a =>
 let t24 := (AV.ptr (HP.nxQ h) (Nat.add 0 4))
 cellC t24 h7 fun vt25 => asI .u64 vt25 fun t25 =>
 let t26 := (AV.agg [(vI (Int.ofNat 2)), (vI t21a), (vI (Int.ofNat 0)), (vI (Int.ofNat 0)), (vW (Int.ofNat 0)), (AV.int .u64 t25), (vS ([] : LN)), (.nils : AV), (vI (Int.ofNat 0))])
 cal D 140 [t0, t26] h7 fun t27 h8 =>
 some (.ret (vI t21a) h8, .no)) (
 let t30 := eqQ t11 (Int.ofNat 3)
 br t30 (
 S145_1 D m t0 t3 t11 t30 h4) (
 let t31 := eqQ t11 (Int.ofNat 8)
 S145_1 D m t0 t3 t11 t31 h4)))
def S145 : SFn := fun D m args h u => nou u <| popV args fun t0 args => popV args fun t1 args => endA args (S145_3 D m t0 t1 h)
theorem T145_0 (hE : FX x145 D m E) : S145_0 D m = e145_0 (E c145_0 []) := by unfold S145_0; rw [hE c145_0]; kernel_rfl
theorem T145_2 (hE : FX x145 D m E) : S145_2 D m = e145_2 (E c145_2 [.blk 0, .sj v145_0 c145_0]) := by unfold S145_2; rw [hE c145_2]; kernel_rfl
theorem T145_1 (hE : FX x145 D m E) : S145_1 D m = e145_1 (E c145_1 [.blk 0, .sj v145_0 c145_0]) := by unfold S145_1; rw [T145_2 hE, T145_0 hE, hE c145_1]; kernel_rfl
theorem T145_3 (hE : FX x145 D m E) : S145_3 D m = e145_3 (E c145_e []) := by unfold S145_3; rw [T145_1 hE, hE c145_e]; kernel_rfl
theorem X145 : XTie S145 x145 := X_of fun D m E hE args h u => by unfold S145; rw [T145_3 hE]; kernel_rfl
/- 146 -/
def v146_0 : List Pos := [p2]
def c146_0 : XC := (.sO [.P p48 (.build [(kI 0), (kI 0), (kI 0)] []) .v, .ss 3 q2 q48] (.s .ret))
def v146_1 : List Pos := [p2, p3, p4]
def c146_1 : XC := (.cond q4 (.sO [.P p8 (.build [(kI 0), (kI 0), (kI 0)] [⟨0, 1, (ci 1)⟩, ⟨1, 1, (ci 0)⟩, ⟨2, 1, (ci 0)⟩]) .v, .ss 3 q2 q8] (.s .ret)) (.sO [.bn p10 .eql q3 (ci 2) .b, .mv p9 q10 .b] (.cond q9 (.sO [.P p11 (.build [(kI 0), (kI 0), (kI 0)] [⟨0, 1, (ci 2)⟩, ⟨1, 1, (ci 0)⟩, ⟨2, 1, (ci 0)⟩]) .v, .ss 3 q2 q11] (.s .ret)) (.sO [.bn p13 .eql q3 (ci 3) .b, .mv p12 q13 .b] (.cond q12 (.sO [.P p14 (.build [(kI 0), (kI 0), (kI 0)] [⟨0, 1, (ci 3)⟩, ⟨1, 1, (ci 3)⟩, ⟨2, 1, (ci 0)⟩]) .v, .ss 3 q2 q14] (.s .ret)) (.sO [.bn p16 .eql q3 (ci 4) .b, .mv p15 q16 .b] (.cond q15 (.sO [.P p17 (.build [(kI 0), (kI 0), (kI 0)] [⟨0, 1, (ci 1)⟩, ⟨1, 1, (ci 1)⟩, ⟨2, 1, (ci 1)⟩]) .v, .ss 3 q2 q17] (.s .ret)) (.sO [.bn p19 .eql q3 (ci 5) .b, .mv p18 q19 .b] (.cond q18 (.sO [.P p20 (.build [(kI 0), (kI 0), (kI 0)] [⟨0, 1, (ci 2)⟩, ⟨1, 1, (ci 2)⟩, ⟨2, 1, (ci 2)⟩]) .v, .ss 3 q2 q20] (.s .ret)) (.sO [.bn p22 .eql q3 (ci 6) .b, .mv p21 q22 .b] (.cond q21 (.sO [.P p23 (.build [(kI 0), (kI 0), (kI 0)] [⟨0, 1, (ci 1)⟩, ⟨1, 1, (ci 2)⟩, ⟨2, 1, (ci 2)⟩]) .v, .ss 3 q2 q23] (.s .ret)) (.sO [.bn p25 .eql q3 (ci 7) .b, .mv p24 q25 .b] (.cond q24 (.sO [.P p26 (.build [(kI 0), (kI 0), (kI 0)] [⟨0, 1, (ci 2)⟩, ⟨1, 1, (ci 2)⟩, ⟨2, 1, (ci 0)⟩]) .v, .ss 3 q2 q26] (.s .ret)) (.sO [.bn p28 .eql q3 (ci 8) .b, .mv p27 q28 .b] (.cond q27 (.sO [.P p29 (.build [(kI 0), (kI 0), (kI 0)] [⟨0, 1, (ci 1)⟩, ⟨1, 1, (ci 2)⟩, ⟨2, 1, (ci 0)⟩]) .v, .ss 3 q2 q29] (.s .ret)) (.sO [.bn p31 .eql q3 (ci 9) .b, .mv p30 q31 .b] (.cond q30 (.sO [.P p32 (.build [(kI 0), (kI 0), (kI 0)] [⟨0, 1, (ci 2)⟩, ⟨1, 1, (ci 1)⟩, ⟨2, 1, (ci 0)⟩]) .v, .ss 3 q2 q32] (.s .ret)) (.sO [.bn p34 .eql q3 (ci 12) .b, .mv p33 q34 .b] (.cond q33 (.sO [.P p35 (.build [(kI 0), (kI 0), (kI 0)] [⟨0, 1, (ci 1)⟩, ⟨1, 1, (ci 1)⟩, ⟨2, 1, (ci 0)⟩]) .v, .ss 3 q2 q35] (.s .ret)) (.sO [.bn p37 .eql q3 (ci 13) .b, .mv p36 q37 .b] (.cond q36 (.sO [.P p38 (.build [(kI 0), (kI 0), (kI 0)] [⟨0, 1, (ci 2)⟩, ⟨1, 1, (ci 1)⟩, ⟨2, 1, (ci 0)⟩]) .v, .ss 3 q2 q38] (.s .ret)) (.sO [.bn p40 .eql q3 (ci 14) .b, .mv p39 q40 .b] (.cond q39 (.sO [.P p41 (.build [(kI 0), (kI 0), (kI 0)] [⟨0, 1, (ci 0)⟩, ⟨1, 1, (ci 1)⟩, ⟨2, 1, (ci 1)⟩]) .v, .ss 3 q2 q41] (.s .ret)) (.sO [.bn p43 .eql q3 (ci 15) .b, .mv p42 q43 .b] (.cond q42 (.sO [.P p44 (.build [(kI 0), (kI 0), (kI 0)] [⟨0, 1, (ci 0)⟩, ⟨1, 1, (ci 1)⟩, ⟨2, 1, (ci 2)⟩]) .v, .ss 3 q2 q44] (.s .ret)) (.sO [.bn p46 .eql q3 (ci 19) .b, .mv p45 q46 .b] (.cond q45 (.sO [.P p47 (.build [(kI 0), (kI 0), (kI 0)] [⟨0, 1, (ci 0)⟩, ⟨1, 1, (ci 1)⟩, ⟨2, 1, (ci 0)⟩]) .v, .ss 3 q2 q47] (.s .ret)) (.s .skip))))))))))))))))))))))))))))
def c146_e : XC := (.sO [.al p2 (.new [(kI 0), (kI 0), (kI 0)])] (.sj v146_0 (.sO [.mv p3 q0 tI] (.block 0 (.sj v146_1 (.sO [.bn p5 .eql q3 (ci 1) .b, .mv p4 q5 .b] (.cond q4 (.s .skip) (.sO [.bn p6 .eql q3 (ci 10) .b, .mv p4 q6 .b] (.cond q4 (.s .skip) (.s (.oX [.bn p7 .eql q3 (ci 11) .b, .mv p4 q7 .b])))))) c146_1))) c146_0))
def x146 : XFn := ⟨[tI], false, [(.cells 3 p2)], c146_e⟩
def e146_0 (k t2 h) := kN k [(p2, t2)] h
def S146_0 (D : CallD) (m : Nat) (t2 : AV) (h : HP) : Res2 :=
 let t48 := (AV.agg [(vI (Int.ofNat 0)), (vI (Int.ofNat 0)), (vI (Int.ofNat 0))])
 stsC 3 t2 t48 h fun h4 =>
 cellsC 3 t2 h4 fun t2a =>
 some (.ret t2a h4, .no)
def e146_1 (k t2 t3 t4 h) := kN k [(p2, t2), (p3, (vI t3)), (p4, (vB t4))] h
def S146_1 (D : CallD) (m : Nat) (t2 : AV) (t3 : Int) (t4 : Bool) (h : HP) : Res2 :=
 br t4 (
 let t8 := (AV.agg [(vI (Int.ofNat 1)), (vI (Int.ofNat 0)), (vI (Int.ofNat 0))])
 stsC 3 t2 t8 h fun h5 =>
 cellsC 3 t2 h5 fun t2a =>
 some (.ret t2a h5, .no)) (
 let t10 := eqQ t3 (Int.ofNat 2)
 br t10 (
 let t11 := (AV.agg [(vI (Int.ofNat 2)), (vI (Int.ofNat 0)), (vI (Int.ofNat 0))])
 stsC 3 t2 t11 h fun h6 =>
 cellsC 3 t2 h6 fun t2a =>
 some (.ret t2a h6, .no)) (
 let t13 := eqQ t3 (Int.ofNat 3)
 br t13 (
 let t14 := (AV.agg [(vI (Int.ofNat 3)), (vI (Int.ofNat 3)), (vI (Int.ofNat 0))])
 stsC 3 t2 t14 h fun h7 =>
 cellsC 3 t2 h7 fun t2a =>
 some (.ret t2a h7, .no)) (
 let t16 := eqQ t3 (Int.ofNat 4)
 br t16 (
 let t17 := (AV.agg [(vI (Int.ofNat 1)), (vI (Int.ofNat 1)), (vI (Int.ofNat 1))])
 stsC 3 t2 t17 h fun h8 =>
 cellsC 3 t2 h8 fun t2a =>
 some (.ret t2a h8, .no)) (
 let t19 := eqQ t3 (Int.ofNat 5)
 br t19 (
 let t20 := (AV.agg [(vI (Int.ofNat 2)), (vI (Int.ofNat 2)), (vI (Int.ofNat 2))])
 stsC 3 t2 t20 h fun h9 =>
 cellsC 3 t2 h9 fun t2a =>
 some (.ret t2a h9, .no)) (
 let t22 := eqQ t3 (Int.ofNat 6)
 br t22 (
 let t23 := (AV.agg [(vI (Int.ofNat 1)), (vI (Int.ofNat 2)), (vI (Int.ofNat 2))])
 stsC 3 t2 t23 h fun h10 =>
 cellsC 3 t2 h10 fun t2a =>
 some (.ret t2a h10, .no)) (
 let t25 := eqQ t3 (Int.ofNat 7)
 br t25 (
 let t26 := (AV.agg [(vI (Int.ofNat 2)), (vI (Int.ofNat 2)), (vI (Int.ofNat 0))])
 stsC 3 t2 t26 h fun h11 =>
 cellsC 3 t2 h11 fun t2a =>
 some (.ret t2a h11, .no)) (
 let t28 := eqQ t3 (Int.ofNat 8)
 br t28 (
 let t29 := (AV.agg [(vI (Int.ofNat 1)), (vI (Int.ofNat 2)), (vI (Int.ofNat 0))])
 stsC 3 t2 t29 h fun h12 =>
 cellsC 3 t2 h12 fun t2a =>
 some (.ret t2a h12, .no)) (
 let t31 := eqQ t3 (Int.ofNat 9)
 br t31 (
 let t32 := (AV.agg [(vI (Int.ofNat 2)), (vI (Int.ofNat 1)), (vI (Int.ofNat 0))])
 stsC 3 t2 t32 h fun h13 =>
 cellsC 3 t2 h13 fun t2a =>
 some (.ret t2a h13, .no)) (
 let t34 := eqQ t3 (Int.ofNat 12)
 br t34 (
 let t35 := (AV.agg [(vI (Int.ofNat 1)), (vI (Int.ofNat 1)), (vI (Int.ofNat 0))])
 stsC 3 t2 t35 h fun h14 =>
 cellsC 3 t2 h14 fun t2a =>
 some (.ret t2a h14, .no)) (
 let t37 := eqQ t3 (Int.ofNat 13)
 br t37 (
 let t38 := (AV.agg [(vI (Int.ofNat 2)), (vI (Int.ofNat 1)), (vI (Int.ofNat 0))])
 stsC 3 t2 t38 h fun h15 =>
 cellsC 3 t2 h15 fun t2a =>
 some (.ret t2a h15, .no)) (
 let t40 := eqQ t3 (Int.ofNat 14)
 br t40 (
 let t41 := (AV.agg [(vI (Int.ofNat 0)), (vI (Int.ofNat 1)), (vI (Int.ofNat 1))])
 stsC 3 t2 t41 h fun h16 =>
 cellsC 3 t2 h16 fun t2a =>
 some (.ret t2a h16, .no)) (
 let t43 := eqQ t3 (Int.ofNat 15)
 br t43 (
 let t44 := (AV.agg [(vI (Int.ofNat 0)), (vI (Int.ofNat 1)), (vI (Int.ofNat 2))])
 stsC 3 t2 t44 h fun h17 =>
 cellsC 3 t2 h17 fun t2a =>
 some (.ret t2a h17, .no)) (
 let t46 := eqQ t3 (Int.ofNat 19)
 br t46 (
 let t47 := (AV.agg [(vI (Int.ofNat 0)), (vI (Int.ofNat 1)), (vI (Int.ofNat 0))])
 stsC 3 t2 t47 h fun h18 =>
 cellsC 3 t2 h18 fun t2a =>
 some (.ret t2a h18, .no)) (
 S146_0 D m t2 h))))))))))))))
def e146_2 (k t0 h) := kN k [(p0, (vI t0))] h
def S146_2 (D : CallD) (m : Nat) (t0 : Int) (h : HP) : Res2 :=
 let t2 := AV.ptr (HP.nxQ h) 0
 let h3 := HP.newQ h (.cells true [(kI 0), (kI 0), (kI 0)])
 let t5 := eqQ t0 (Int.ofNat 1)
 br t5 (
 S146_1 D m t2 t0 t5 h3) (
 let t6 := eqQ t0 (Int.ofNat 10)
 br t6 (
 S146_1 D m t2 t0 t6 h3) (
 let t7 := eqQ t0 (Int.ofNat 11)
 S146_1 D m t2 t0 t7 h3))
def S146 : SFn := fun D m args h u => nou u <| popI .i64 args fun t0 args => endA args (S146_2 D m t0 h)
theorem T146_0 (hE : FX x146 D m E) : S146_0 D m = e146_0 (E c146_0 []) := by unfold S146_0; rw [hE c146_0]; kernel_rfl
theorem T146_1 (hE : FX x146 D m E) : S146_1 D m = e146_1 (E c146_1 [.blk 0, .sj v146_0 c146_0]) := by unfold S146_1; rw [T146_0 hE, hE c146_1]; kernel_rfl
theorem T146_2 (hE : FX x146 D m E) : S146_2 D m = e146_2 (E c146_e []) := by unfold S146_2; rw [T146_1 hE, hE c146_e]; kernel_rfl
theorem X146 : XTie S146 x146 := X_of fun D m E hE args h u => by unfold S146; rw [T146_2 hE]; kernel_rfl
/- 147 -/
def c147_e : XC := (.sO [.al p3 (.box q0), .mv p6 (cb false) .b] (.seq (.seq (.oX [.mv p8 q2 tI, .bn p9 .eql q8 (ci 0) .b]) (.cond q9 (.seq (.oX [.mv p10 q1 tI, .bn p11 .eql q10 (ci 0) .b, .mv p6 q11 .b]) .ret) .skip)) (.sO [.L p12 (.cells 6 q3) .v, .mv p13 q1 tI, .cl p14 96 [q12, q13] tI, .mv p7 q14 tI] (.sO [.mv p15 q7 tI, .bn p16 .neq q15 (ci 0) .b, .mv p17 q16 .b, .ge p17 (XL.of [.G p17 true p18 (.mov q2) tI, .G p17 true p19 (.bin .eql q18 (ci 3)) .b, .G p17 true p20 (.mov q19) .b, .ge p20 (XL.of [.G p20 false p21 (.mov q7) tI, .G p20 false p22 (.mov q2) tI, .G p20 false p23 (.bin .eql q21 q22) .b, .G p17 true p24 (.pick q20 (cb true) q23) .b]) p24 .b, .P p25 (.pick q17 q24 (cb false)) .b]) p25 .b, .mv p6 q25 .b] (.s .ret)))))
def x147 : XFn := ⟨[.v, tI, tI], false, [(.tmp p6)], c147_e⟩
def e147_0 (k t0 t1 t2 h) := kN k [(p0, t0), (p1, (vI t1)), (p2, (vI t2))] h
def S147_0 (D : CallD) (m : Nat) (t0 : AV) (t1 t2 : Int) (h : HP) : Res2 :=
 let t3 := AV.ptr (HP.nxQ h) 0
 let h1 := HP.newQ h (.cells true (AV.cells t0))
 let t9 := eqQ t2 (Int.ofNat 0)
 br t9 (
 let t11 := eqQ t1 (Int.ofNat 0)
 some (.ret (vB t11) h1, .no)) (
 cellsC 6 t3 h1 fun t12 =>
 cal D 96 [t12, (vI t1)] h1 fun t14 h2 =>
 asI .i64 t14 fun t14a =>
 let t16 := notQ (eqQ t14a (Int.ofNat 0))
 obB (brV t16 (
 let t19 := eqQ t2 (Int.ofNat 3)
 obBV (brV t19 (
 some (vB true)) (
 let t23 := eqQ t14a t2
 some (vB t23))) fun t24 =>
 some (vB t24)) (
 some (vB false))) fun t25 =>
 some (.ret (vB t25) h2, .no))
def S147 : SFn := fun D m args h u => nou u <| popV args fun t0 args => popI .i64 args fun t1 args => popI .i64 args fun t2 args => endA args (S147_0 D m t0 t1 t2 h)
theorem T147_0 (hE : FX x147 D m E) : S147_0 D m = e147_0 (E c147_e []) := by unfold S147_0; rw [hE c147_e]; kernel_rfl
theorem X147 : XTie S147 x147 := X_of fun D m E hE args h u => by unfold S147; rw [T147_0 hE]; kernel_rfl
/- 156 -/
def c156_e : XC := (.sO [.mv p6 (cb false) .b] (.sO [.mv p7 q1 tI, .mv p8 q2 .s, .P p9 (.lens q8) tI, .bn p10 .add q7 q9 tI, .mv p11 q0 .s, .P p12 (.lens q11) tI, .bn p13 .leq q10 q12 .b, .mv p14 q13 .b, .ge p14 (XL.of [.G p14 true p15 (.mov q0) .s, .G p14 true p16 (.mov q1) tI, .G p14 true p17 (.mov q1) tI, .G p14 true p18 (.mov q2) .s, .G p14 true p19 (.lens q18) tI, .G p14 true p20 (.bin .add q17 q19) tI, .G p14 true p21 (.slice .str q15 (some q16) (some q20) none) .s, .G p14 true p22 (.mov q2) .s, .G p14 true p23 (.bin .eql q21 q22) .b, .P p24 (.pick q14 q23 (cb false)) .b]) p24 .b, .mv p6 q24 .b] (.s .ret)))
def x156 : XFn := ⟨[.s, tI, .s], false, [(.tmp p6)], c156_e⟩
def e156_0 (k t0 t1 t2 h) := kN k [(p0, (vS t0)), (p1, (vI t1)), (p2, (vS t2))] h
def S156_0 (D : CallD) (m : Nat) (t0 : LN) (t1 : Int) (t2 : LN) (h : HP) : Res2 :=
 let t9 := Int.ofNat (lenL t2)
 let t10 := wrQ .i64 (addQ t1 t9)
 let t12 := Int.ofNat (lenL t0)
 let t13 := leQ t10 t12
 obB (brV t13 (
 let t19 := Int.ofNat (lenL t2)
 let t20 := wrQ .i64 (addQ t1 t19)
 slCV (vS t0) (some (vI t1)) (some (vI t20)) fun vt21 => asSV vt21 fun t21 =>
 let t23 := eqL t21 t2
 some (vB t23)) (
 some (vB false))) fun t24 =>
 some (.ret (vB t24) h, .no)
def S156 : SFn := fun D m args h u => nou u <| popS args fun t0 args => popI .i64 args fun t1 args => popS args fun t2 args => endA args (S156_0 D m t0 t1 t2 h)
theorem T156_0 (hE : FX x156 D m E) : S156_0 D m = e156_0 (E c156_e []) := by unfold S156_0; rw [hE c156_e]; kernel_rfl
theorem X156 : XTie S156 x156 := X_of fun D m E hE args h u => by unfold S156; rw [T156_0 hE]; kernel_rfl
/- 157 -/
def c157_e : XC := (.sO [.mv p2 (cb false) .b] (.sO [.mv p3 q0 tC, .bn p4 .geq q3 (.c (.int .u8 (.ofNat 97))) .b, .mv p5 q4 .b, .ge p5 (XL.of [.G p5 true p6 (.mov q0) tC, .G p5 true p7 (.bin .leq q6 (.c (.int .u8 (.ofNat 122)))) .b, .P p8 (.pick q5 q7 (cb false)) .b]) p8 .b, .mv p9 q8 .b, .ge p9 (XL.of [.G p9 false p10 (.mov q0) tC, .G p9 false p11 (.bin .geq q10 (.c (.int .u8 (.ofNat 65)))) .b, .G p9 false p12 (.mov q11) .b, .ge p12 (XL.of [.G p12 true p13 (.mov q0) tC, .G p12 true p14 (.bin .leq q13 (.c (.int .u8 (.ofNat 90)))) .b, .G p9 false p15 (.pick q12 q14 (cb false)) .b]) p15 .b, .P p16 (.pick q9 (cb true) q15) .b]) p16 .b, .mv p17 q16 .b, .ge p17 (XL.of [.G p17 false p18 (.mov q0) tC, .G p17 false p19 (.bin .eql q18 (.c (.int .u8 (.ofNat 95)))) .b, .P p20 (.pick q17 (cb true) q19) .b]) p20 .b, .mv p2 q20 .b] (.s .ret)))
def x157 : XFn := ⟨[tC], false, [(.tmp p2)], c157_e⟩
def e157_0 (k t0 h) := kN k [(p0, (vC t0))] h
def S157_0 (D : CallD) (m : Nat) (t0 : Int) (h : HP) : Res2 :=
 let t4 := leQ (Int.ofNat 97) t0
 obB (brV t4 (
 let t7 := leQ t0 (Int.ofNat 122)
 some (vB t7)) (
 some (vB false))) fun t8 =>
 obB (brV t8 (
 some (vB true)) (
 let t11 := leQ (Int.ofNat 65) t0
 obBV (brV t11 (
 let t14 := leQ t0 (Int.ofNat 90)
 some (vB t14)) (
 some (vB false))) fun t15 =>
 some (vB t15))) fun t16 =>
 obB (brV t16 (
 some (vB true)) (
 let t19 := eqQ t0 (Int.ofNat 95)
 some (vB t19))) fun t20 =>
 some (.ret (vB t20) h, .no)
def S157 : SFn := fun D m args h u => nou u <| popI .u8 args fun t0 args => endA args (S157_0 D m t0 h)
theorem T157_0 (hE : FX x157 D m E) : S157_0 D m = e157_0 (E c157_e []) := by unfold S157_0; rw [hE c157_e]; kernel_rfl
theorem X157 : XTie S157 x157 := X_of fun D m E hE args h u => by unfold S157; rw [T157_0 hE]; kernel_rfl
/- 158 -/
def c158_e : XC := (.sO [.mv p2 (cb false) .b] (.sO [.mv p3 q0 tC, .bn p4 .geq q3 (.c (.int .u8 (.ofNat 48))) .b, .mv p5 q4 .b, .ge p5 (XL.of [.G p5 true p6 (.mov q0) tC, .G p5 true p7 (.bin .leq q6 (.c (.int .u8 (.ofNat 57)))) .b, .P p8 (.pick q5 q7 (cb false)) .b]) p8 .b, .mv p2 q8 .b] (.s .ret)))
def x158 : XFn := ⟨[tC], false, [(.tmp p2)], c158_e⟩
def e158_0 (k t0 h) := kN k [(p0, (vC t0))] h
def S158_0 (D : CallD) (m : Nat) (t0 : Int) (h : HP) : Res2 :=
 let t4 := leQ (Int.ofNat 48) t0
 obB (brV t4 (
 let t7 := leQ t0 (Int.ofNat 57)
 some (vB t7)) (
 some (vB false))) fun t8 =>
 some (.ret (vB t8) h, .no)
def S158 : SFn := fun D m args h u => nou u <| popI .u8 args fun t0 args => endA args (S158_0 D m t0 h)
theorem T158_0 (hE : FX x158 D m E) : S158_0 D m = e158_0 (E c158_e []) := by unfold S158_0; rw [hE c158_e]; kernel_rfl
theorem X158 : XTie S158 x158 := X_of fun D m E hE args h u => by unfold S158; rw [T158_0 hE]; kernel_rfl
/- 159 -/
def v159_0 : List Pos := []
def c159_0 : XC := (.sO [.mv p2 (cb false) .b] (.s .ret))
def v159_1 : List Pos := [p0, p3, p6]
def c159_1b : XC := (.sO [.bn p7 .lss q6 (ci 11) .b] (.seq (.cond q7 .skip (.exit 0)) (.seq (.block 1 (.seq (.oX [.mv p8 q6 tI, .mv p4 q8 tI]) (.seq (.oX [.mv p9 q4 tI, .P p10 (.iaddr (.arr 11 1) q3 q9) .v, .ld p11 q10 .s, .mv p12 q0 .s, .bn p13 .eql q11 q12 .b]) (.cond q13 (.seq (.oX [.mv p2 (cb true) .b]) .ret) .skip)))) (.s (.oX [.bn p14 .add q6 (ci 1) tI, .mv p6 q14 tI])))))
def c159_e : XC := (.sO [.mv p2 (cb false) .b] (.sO [.P p5 (.build [(.str []), (.str []), (.str []), (.str []), (.str []), (.str []), (.str []), (.str []), (.str []), (.str []), (.str [])] [⟨0, 1, (.c (.str [105, 110, 116]))⟩, ⟨1, 1, (.c (.str [100, 111, 117, 98, 108, 101]))⟩, ⟨2, 1, (.c (.str [118, 111, 105, 100]))⟩, ⟨3, 1, (.c (.str [115, 116, 97, 116, 105, 99]))⟩, ⟨4, 1, (.c (.str [101, 120, 116, 101, 114, 110]))⟩, ⟨5, 1, (.c (.str [105, 102]))⟩, ⟨6, 1, (.c (.str [101, 108, 115, 101]))⟩, ⟨7, 1, (.c (.str [119, 104, 105, 108, 101]))⟩, ⟨8, 1, (.c (.str [114, 101, 116, 117, 114, 110]))⟩, ⟨9, 1, (.c (.str [98, 114, 101, 97, 107]))⟩, ⟨10, 1, (.c (.str [99, 111, 110, 116, 105, 110, 117, 101]))⟩]) .v, .al p3 (.new [(.str []), (.str []), (.str []), (.str []), (.str []), (.str []), (.str []), (.str []), (.str []), (.str []), (.str [])]), .ss 11 q3 q5] (.sj v159_0 (.sO [.mv p6 (ci 0) tI] (.block 0 (.loop v159_1 c159_1b))) c159_0)))
def x159 : XFn := ⟨[.s], false, [(.tmp p2)], c159_e⟩
def e159_0 (k h) := kN k [] h
def S159_0 (D : CallD) (m : Nat) (h : HP) : Res2 :=
 some (.ret (vB false) h, .no)
def e159_1 (k t0 t3 t6 h) := kN k [(p0, (vS t0)), (p3, t3), (p6, (vI t6))] h
def S159_1b (D : CallD) (m : Nat) (g1 : LN → AV → Int → HP → Res2) (t0 : LN) (t3 : AV) (t6 : Int) (h : HP) : Res2 :=
 let t7 := ltQ t6 (Int.ofNat 11)
 br t7 (
 iarC 11 1 t3 (vI t6) fun t10 =>
 ldS t10 h fun t11 =>
 let t13 := eqL t11 t0
 br t13 (
 some (.ret (vB true) h, .no)) (
 let t14 := wrQ .i64 (addQ t6 (Int.ofNat 1))
 g1 t0 t3 t14 h)) (
 S159_0 D m h)
def S159_1 (D : CallD) (m : Nat) : LN → AV → Int → HP → Res2 := nrec (fun _ _ _ _ => none) (fun _ g => S159_1b D m g) m
def e159_2 (k t0 h) := kN k [(p0, (vS t0))] h
def S159_2 (D : CallD) (m : Nat) (t0 : LN) (h : HP) : Res2 :=
 let t5 := (AV.agg [(vS ([105, 110, 116] : LN)), (vS ([100, 111, 117, 98, 108, 101] : LN)), (vS ([118, 111, 105, 100] : LN)), (vS ([115, 116, 97, 116, 105, 99] : LN)), (vS ([101, 120, 116, 101, 114, 110] : LN)), (vS ([105, 102] : LN)), (vS ([101, 108, 115, 101] : LN)), (vS ([119, 104, 105, 108, 101] : LN)), (vS ([114, 101, 116, 117, 114, 110] : LN)), (vS ([98, 114, 101, 97, 107] : LN)), (vS ([99, 111, 110, 116, 105, 110, 117, 101] : LN))])
 let t3 := AV.ptr (HP.nxQ h) 0
 let h3 := HP.newQ h (.cells true [(.str []), (.str []), (.str []), (.str []), (.str []), (.str []), (.str []), (.str []), (.str []), (.str []), (.str [])])
 stsC 11 t3 t5 h3 fun h4 =>
 S159_1 D m t0 t3 (Int.ofNat 0) h4
def S159 : SFn := fun D m args h u => nou u <| popS args fun t0 args => endA args (S159_2 D m t0 h)
theorem T159_0 (hE : FX x159 D m E) : S159_0 D m = e159_0 (E c159_0 []) := by unfold S159_0; rw [hE c159_0]; kernel_rfl
theorem T159_1b (hE : FX x159 D m E) (G1) : S159_1b D m (e159_1 G1) = e159_1 (E c159_1b [.lp v159_1 G1, .blk 0, .sj v159_0 c159_0]) := by unfold S159_1b; rw [T159_0 hE, hE c159_1b]; kernel_rfl
theorem T159_1 (hE : FX x159 D m E) : S159_1 D m = e159_1 (nrec (fun _ => none) (fun _ G1 st => E c159_1b [.lp v159_1 G1, .blk 0, .sj v159_0 c159_0] st) m) :=
  nrec_emb e159_1 (fun _ _ _ _ => none) (fun g => S159_1b D m g) (fun G1 st => E c159_1b [.lp v159_1 G1, .blk 0, .sj v159_0 c159_0] st) rfl (fun g => T159_1b hE g) m
theorem T159_2 (hE : FX x159 D m E) : S159_2 D m = e159_2 (E c159_e []) := by unfold S159_2; rw [T159_1 hE, hE c159_e]; kernel_rfl
theorem X159 : XTie S159 x159 := X_of fun D m E hE args h u => by unfold S159; rw [T159_2 hE]; kernel_rfl
/- 160 -/
def v160_2 : List Pos := [p6, p7]
def c160_2 : XC := (.sO [.mv p100 q7 tI, .mv p101 q6 tI, .mv p4 q100 tI, .mv p5 q101 tI] (.s .ret))
def c160_4 : XC := (.cond q99 (.sO [.mv p4 (ci 0) tI, .mv p5 (ci 0) tI] (.s .ret)) (.s .skip))
def l160_3 : XL := (XL.of [])
def v160_1 : List Pos := [p0, p1, p6, p7]
def c160_1 : XC := (.sj v160_2 (.sO [.mv p86 q7 tI, .bn p87 .eql q86 (ci 2) .b] (.cond q87 (.opq false (XL.pre [.mv p88 q6 tI, .mv p89 q1 tI, .bn p90 .sub q88 q89 tI, .bn p91 .gtr q90 (ci 10) .b, .mv p92 q91 .b, .sp p92, .G p92 false p93 (.mov q0) .s, .G p92 false p94 (.mov q1) tI, .G p92 false p95 (.mov q6) tI, .G p92 false p96 (.slice .str q93 (some q94) (some q95) none) .s, .o ⟨(some p97), (.call (.fn 163) [q96]), (some (p92, false)), []⟩ tI, .G p92 false p98 (.bin .gtr q97 (ci 4294967295)) .b, .P p99 (.pick q92 (cb true) q98) .b, .jn p92 [p6, p7, p99]] l160_3) c160_4) (.s .skip))) c160_2)
def c160_8 : XC := (.cond q85 (.sO [.mv p4 (ci 0) tI, .mv p5 (ci 0) tI] (.s .ret)) (.s .skip))
def l160_7 : XL := (XL.of [])
def l160_6 : XL := (XL.pre [.P p85 (.pick q74 (cb true) q84) .b, .jn p74 [p0, p1, p6, p7, p85]] l160_7)
def l160_5 : XL := (XL.pre [.mv p74 q73 .b, .sp p74, .G p74 false p75 (.mov q7) tI, .G p74 false p76 (.bin .eql q75 (ci 3)) .b, .G p74 false p77 (.mov q76) .b, .sp p77, .G p77 true p78 (.mov q0) .s, .G p77 true p79 (.mov q1) tI, .G p77 true p80 (.mov q6) tI, .G p77 true p81 (.slice .str q78 (some q79) (some q80) none) .s, .o ⟨(some p82), (.call (.fn 200) [q81]), (some (p77, true)), []⟩ .b, .G p77 true p83 (.un .not q82) .b, .G p74 false p84 (.pick q77 q83 (cb false)) .b, .jn p77 [p0, p1, p6, p7, p74, p84]] l160_6)
def v160_0 : List Pos := [p0, p1, p6, p7]
def c160_0 : XC := (.sj v160_1 (.opq false (XL.pre [.mv p58 q6 tI, .mv p59 q0 .s, .P p60 (.lens q59) tI, .bn p61 .lss q58 q60 .b, .mv p62 q61 .b, .sp p62, .G p62 true p63 (.mov q0) .s, .G p62 true p64 (.mov q6) tI, .G p62 true p65 (.idxs q63 q64) tC, .o ⟨(some p66), (.call (.fn 157) [q65]), (some (p62, true)), []⟩ .b, .G p62 true p67 (.mov q66) .b, .ge p67 (XL.of [.G p67 false p68 (.mov q0) .s, .G p67 false p69 (.mov q6) tI, .G p67 false p70 (.idxs q68 q69) tC, .G p67 false p71 (.bin .eql q70 (.c (.int .u8 (.ofNat 46)))) .b, .G p62 true p72 (.pick q67 (cb true) q71) .b]) p72 .b, .P p73 (.pick q62 q72 (cb false)) .b, .jn p62 [p0, p1, p6, p7, p73]] l160_5) c160_8) c160_1)
def v160_9 : List Pos := [p0, p1, p6, p7]
def c160_9 : XC := (.s (.oX [.mv p55 q0 .s, .mv p56 q6 tI, .cl p57 199 [q55, q56] tI, .mv p6 q57 tI]))
def c160_e : XC := (.sO [.mv p4 (ci 0) tI, .mv p5 (ci 0) tI] (.sO [.mv p8 q0 .s, .mv p9 q1 tI, .cl p10 199 [q8, q9] tI, .mv p6 q10 tI] (.sO [.mv p7 (ci 2) tI] (.sj v160_0 (.sO [.mv p11 q6 tI, .mv p12 q0 .s, .P p13 (.lens q12) tI, .bn p14 .lss q11 q13 .b, .mv p15 q14 .b, .ge p15 (XL.of [.G p15 true p16 (.mov q0) .s, .G p15 true p17 (.mov q6) tI, .G p15 true p18 (.idxs q16 q17) tC, .G p15 true p19 (.bin .eql q18 (.c (.int .u8 (.ofNat 46)))) .b, .P p20 (.pick q15 q19 (cb false)) .b]) p20 .b] (.cond q20 (.sO [.mv p7 (ci 3) tI] (.sO [.mv p21 q0 .s, .mv p22 q6 tI, .bn p23 .add q22 (ci 1) tI, .cl p24 199 [q21, q23] tI, .mv p6 q24 tI] (.sO [.mv p25 q6 tI, .mv p26 q0 .s, .P p27 (.lens q26) tI, .bn p28 .lss q25 q27 .b, .mv p29 q28 .b, .ge p29 (XL.of [.G p29 true p30 (.mov q0) .s, .G p29 true p31 (.mov q6) tI, .G p29 true p32 (.idxs q30 q31) tC, .G p29 true p33 (.bin .eql q32 (.c (.int .u8 (.ofNat 101)))) .b, .P p34 (.pick q29 q33 (cb false)) .b]) p34 .b] (.cond q34 (.sO [.mv p35 q6 tI, .bn p36 .add q35 (ci 1) tI, .mv p6 q36 tI] (.sj v160_9 (.sO [.mv p37 q6 tI, .mv p38 q0 .s, .P p39 (.lens q38) tI, .bn p40 .lss q37 q39 .b, .mv p41 q40 .b, .ge p41 (XL.of [.G p41 true p42 (.mov q0) .s, .G p41 true p43 (.mov q6) tI, .G p41 true p44 (.idxs q42 q43) tC, .G p41 true p45 (.bin .eql q44 (.c (.int .u8 (.ofNat 43)))) .b, .G p41 true p46 (.mov q45) .b, .ge p46 (XL.of [.G p46 false p47 (.mov q0) .s, .G p46 false p48 (.mov q6) tI, .G p46 false p49 (.idxs q47 q48) tC, .G p46 false p50 (.bin .eql q49 (.c (.int .u8 (.ofNat 45)))) .b, .G p41 true p51 (.pick q46 (cb true) q50) .b]) p51 .b, .P p52 (.pick q41 q51 (cb false)) .b]) p52 .b] (.cond q52 (.s (.oX [.mv p53 q6 tI, .bn p54 .add q53 (ci 1) tI, .mv p6 q54 tI])) (.s .skip))) c160_9)) (.s .skip))))) (.s .skip))) c160_0))))
def x160 : XFn := ⟨[.s, tI], false, [(.tmp p4), (.tmp p5)], c160_e⟩
def e160_2 (k t6 t7 h) := kN k [(p6, (vI t6)), (p7, (vI t7))] h
def S160_2 (D : CallD) (m : Nat) (t6 t7 : Int) (h : HP) : Res2 :=
 some (.ret (.tup [(vI t7), (vI t6)]) h, .no)
def e160_3 (k t6 t7 t99 h) := kN k [(p6, (vI t6)), (p7, (vI t7)), (p99, (vB t99))] h
def S160_3 (D : CallD) (m : Nat) (t6 t7 : Int) (t99 : Bool) (h : HP) : Res2 :=
 br t99 (
 some (.ret (.tup [(vI (Int.ofNat 0)), (vI (Int.ofNat 0))]) h, .no)) (
 S160_2 D m t6 t7 h)
def e160_1 (k t0 t1 t6 t7 h) := kN k [(p0, (vS t0)), (p1, (vI t1)), (p6, (vI t6)), (p7, (vI t7))] h
def S160_1 (D : CallD) (m : Nat) (t0 : LN) (t1 t6 t7 : Int) (h : HP) : Res2 :=
 let t87 := eqQ t7 (Int.ofNat 2)
 br t87 (
 let t90 := wrQ .i64 (t6 - t1)
 let t91 := ltQ (Int.ofNat 10) t90
 br t91 (
 S160_3 D m t6 t7 true h) (
 slC (vS t0) (some (vI t1)) (some (vI t6)) fun vt96 => asS vt96 fun t96 =>
 cal D 163 [(vS t96)] h fun t97 h12 =>
 asI .i64 t97 fun t97a =>
 let t98 := ltQ (Int.ofNat 4294967295) t97a
 S160_3 D m t6 t7 t98 h12)) (
 S160_2 D m t6 t7 h)
def e160_7 (k t0 t1 t6 t7 t85 h) := kN k [(p0, (vS t0)), (p1, (vI t1)), (p6, (vI t6)), (p7, (vI t7)), (p85, (vB t85))] h
def S160_7 (D : CallD) (m : Nat) (t0 : LN) (t1 t6 t7 : Int) (t85 : Bool) (h : HP) : Res2 :=
 br t85 (
 some (.ret (.tup [(vI (Int.ofNat 0)), (vI (Int.ofNat 0))]) h, .no)) (
 S160_1 D m t0 t1 t6 t7 h)
def e160_6 (k t0 t1 t6 t7 t74 t84 h) := kN k [(p0, (vS t0)), (p1, (vI t1)), (p6, (vI t6)), (p7, (vI t7)), (p74, (vB t74)), (p84, (vB t84))] h
def S160_6 (D : CallD) (m : Nat) (t0 : LN) (t1 t6 t7 : Int) (t74 t84 : Bool) (h : HP) : Res2 :=
 obB (brV t74 (some (vB true)) (some (vB t84))) fun t85 =>
 S160_7 D m t0 t1 t6 t7 t85 h
def e160_5 (k t0 t1 t6 t7 t73 h) := kN k [(p0, (vS t0)), (p1, (vI t1)), (p6, (vI t6)), (p7, (vI t7)), (p73, (vB t73))] h
def S160_5 (D : CallD) (m : Nat) (t0 : LN) (t1 t6 t7 : Int) (t73 : Bool) (h : HP) : Res2 :=
 br t73 (
 S160_7 D m t0 t1 t6 t7 true h) (
 let t76 := eqQ t7 (Int.ofNat 3)
 br t76 (
 slC (vS t0) (some (vI t1)) (some (vI t6)) fun vt81 => asS vt81 fun t81 =>
 cal D 200 [(vS t81)] h fun t82 h14 =>
 asB t82 fun t82a =>
 let t83 := !t82a
 S160_6 D m t0 t1 t6 t7 false t83 h14) (
 S160_6 D m t0 t1 t6 t7 false false h))
def e160_0 (k t0 t1 t6 t7 h) := kN k [(p0, (vS t0)), (p1, (vI t1)), (p6, (vI t6)), (p7, (vI t7))] h
def S160_0 (D : CallD) (m : Nat) (t0 : LN) (t1 t6 t7 : Int) (h : HP) : Res2 :=
 let t60 := Int.ofNat (lenL t0)
 let t61 := ltQ t6 t60
 br t61 (
 ixC (vS t0) (vI t6) fun vt65 => asI .u8 vt65 fun t65 =>
 cal D 157 [(vC t65)] h fun t66 h13 =>
 asB t66 fun t66a =>
 obB (brV t66a (
 some (vB true)) (
 ixCV (vS t0) (vI t6) fun vt70 => asIV .u8 vt70 fun t70 =>
 let t71 := eqQ t70 (Int.ofNat 46)
 some (vB t71))) fun t72 =>
 S160_5 D m t0 t1 t6 t7 t72 h13) (
 S160_5 D m t0 t1 t6 t7 false h)
def e160_9 (k t0 t1 t6 t7 h) := kN k [(p0, (vS t0)), (p1, (vI t1)), (p6, (vI t6)), (p7, (vI t7))] h
def S160_9 (D : CallD) (m : Nat) (t0 : LN) (t1 t6 t7 : Int) (h : HP) : Res2 :=
 cal D 199 [(vS t0), (vI t6)] h fun t57 h16 =>
 asI .i64 t57 fun t57a =>
 S160_0 D m t0 t1 t57a t7 h16
def e160_10 (k t0 t1 h) := kN k [(p0, (vS t0)), (p1, (vI t1))] h
def S160_10 (D : CallD) (m : Nat) (t0 : LN) (t1 : Int) (h : HP) : Res2 :=
 cal D 199 [(vS t0), (vI t1)] h fun t10 h11 =>
 asI .i64 t10 fun t10a =>
 let t13 := Int.ofNat (lenL t0)
 let t14 := ltQ t10a t13
 obB (brV t14 (
 ixCV (vS t0) (vI t10a) fun vt18 => asIV .u8 vt18 fun t18 =>
 let t19 := eqQ t18 (Int.ofNat 46)
 some (vB t19)) (
 some (vB false))) fun t20 =>
 br t20 (
 let t23 := wrQ .i64 (addQ t10a (Int.ofNat 1))
 cal D 199 [(vS t0), (vI t23)] h11 fun t24 h15 =>
 asI .i64 t24 fun t24a =>
 let t27 := Int.ofNat (lenL t0)
 let t28 := ltQ t24a t27
 obB (brV t28 (
 ixCV (vS t0) (vI t24a) fun vt32 => asIV .u8 vt32 fun t32 =>
 let t33 := eqQ t32 (Int.ofNat 101)
 some (vB t33)) (
 some (vB false))) fun t34 =>
 br t34 (
 let t36 := wrQ .i64 (addQ t24a (Int.ofNat 1))
 let t39 := Int.ofNat (lenL t0)
 let t40 := ltQ t36 t39
 obB (brV t40 (
 ixCV (vS t0) (vI t36) fun vt44 => asIV .u8 vt44 fun t44 =>
 let t45 := eqQ t44 (Int.ofNat 43)
 obBV (brV t45 (
 some (vB true)) (
 ixCV (vS t0) (vI t36) fun vt49 => asIV .u8 vt49 fun t49 =>
 let t50 := eqQ t49 (Int.ofNat 45)
 some (vB t50))) fun t51 =>
 some (vB t51)) (
 some (vB false))) fun t52 =>
 br t52 (
 let t54 := wrQ .i64 (addQ t36 (Int.ofNat 1))
 S160_9 D m t0 t1 t54 (Int.ofNat 3) h15) (
 S160_9 D m t0 t1 t36 (Int.ofNat 3) h15)) (
 S160_0 D m t0 t1 t24a (Int.ofNat 3) h15)) (
 S160_0 D m t0 t1 t10a (Int.ofNat 2) h11)
def S160 : SFn := fun D m args h u => nou u <| popS args fun t0 args => popI .i64 args fun t1 args => endA args (S160_10 D m t0 t1 h)
theorem T160_2 (hE : FX x160 D m E) : S160_2 D m = e160_2 (E c160_2 []) := by unfold S160_2; rw [hE c160_2]; kernel_rfl
theorem T160_3 (hE : FX x160 D m E) : S160_3 D m = e160_3 (E (.opq false l160_3 c160_4) [.sj v160_2 c160_2]) := by unfold S160_3; rw [T160_2 hE, hE (.opq false l160_3 c160_4)]; kernel_rfl
theorem T160_1 (hE : FX x160 D m E) : S160_1 D m = e160_1 (E c160_1 []) := by unfold S160_1; rw [T160_3 hE, T160_2 hE, hE c160_1]; kernel_rfl
theorem T160_7 (hE : FX x160 D m E) : S160_7 D m = e160_7 (E (.opq false l160_7 c160_8) [.sj v160_1 c160_1]) := by unfold S160_7; rw [T160_1 hE, hE (.opq false l160_7 c160_8)]; kernel_rfl
theorem T160_6 (hE : FX x160 D m E) : S160_6 D m = e160_6 (E (.opq false l160_6 c160_8) [.sj v160_1 c160_1]) := by unfold S160_6; rw [T160_7 hE, hE (.opq false l160_6 c160_8)]; kernel_rfl
theorem T160_5 (hE : FX x160 D m E) : S160_5 D m = e160_5 (E (.opq false l160_5 c160_8) [.sj v160_1 c160_1]) := by unfold S160_5; rw [T160_7 hE, T160_6 hE, hE (.opq false l160_5 c160_8)]; kernel_rfl
theorem T160_0 (hE : FX x160 D m E) : S160_0 D m = e160_0 (E c160_0 []) := by unfold S160_0; rw [T160_5 hE, hE c160_0]; kernel_rfl
theorem T160_9 (hE : FX x160 D m E) : S160_9 D m = e160_9 (E c160_9 [.sj v160_0 c160_0]) := by unfold S160_9; rw [T160_0 hE, hE c160_9]; kernel_rfl
theorem T160_10 (hE : FX x160 D m E) : S160_10 D m = e160_10 (E c160_e []) := by unfold S160_10; rw [T160_9 hE, T160_0 hE, hE c160_e]; kernel_rfl
theorem X160 : XTie S160 x160 := X_of fun D m E hE args h u => by unfold S160; rw [T160_10 hE]; kernel_rfl
/- 162 -/
def c162_e : XC := (.sO [.al p1 (.box q0), .al p2 (.new [.nils, (kI 0), (kI 0), (kI 0), (kI 0)]), .al p3 (.new [(kI 0), .nils, .nils, (.str []), (kI 0), (kI 0), (kI 0)])] (.sO [.L p6 (.cells 5 q1) .v, .cl p7 165 [q6] .v, .cl p8 201 [q7] .v, .mv p5 q8 .v, .P p9 (.ext q5 0) .v, .P p10 (.ext q5 1) .v, .al p4 (.new [(kI 0), .nils, .nils, (.str []), (kI 0), (kI 0), (kI 0)]), .ss 5 q1 q9, .ss 7 q4 q10] (.seq (.ops true (XL.of [.L p11 (.cells 5 q1) .v, .L p13 (.cells 7 q4) .v, .o ⟨(some p12), (.call (.fn 166) [q11]), none, [⟨none, .cells 7 q4, p13⟩]⟩ .v, .o ⟨none, (.e (.stores 5 q2 q12)), none, [⟨none, .cells 7 q4, p13⟩]⟩ .v, .ss 7 q3 q13])) (.s .ret))))
def x162 : XFn := ⟨[.v], false, [(.cells 5 p2), (.cells 7 p3)], c162_e⟩
def e162_0 (k t0 h) := kN k [(p0, t0)] h
def S162_0 (D : CallD) (m : Nat) (t0 : AV) (h : HP) : Res2 :=
 let t1 := AV.ptr (HP.nxQ h) 0
 let h1 := HP.newQ h (.cells true (AV.cells t0))
 let t2 := AV.ptr (HP.nxQ h1) 0
 let h2 := HP.newQ h1 (.cells true [.nils, (kI 0), (kI 0), (kI 0), (kI 0)])
 let t3 := AV.ptr (HP.nxQ h2) 0
 let h3 := HP.newQ h2 (.cells true [(kI 0), .nils, .nils, (.str []), (kI 0), (kI 0), (kI 0)])
 cellsC 5 t1 h3 fun t6 =>
 cal D 165 [t6] h3 fun t7 h4 =>
 cal D 201 [t7] h4 fun t8 h5 =>
 extC t8 0 fun t9 =>
 extC t8 1 fun t10 =>
 let t4 := AV.ptr (HP.nxQ h5) 0
 let h6 := HP.newQ h5 (.cells true [(kI 0), .nils, .nils, (.str []), (kI 0), (kI 0), (kI 0)])
 stsC 5 t1 t9 h6 fun h7 =>
 stsC 7 t4 t10 h7 fun h8 =>
 cellsC 5 t1 h8 fun t11 =>
 cellsC 7 t4 h8 fun t13 =>
 cal D 166 [t11] h8 fun t12 h9 =>
 br (again [⟨none, .cells 7 q4, p13⟩] (mkT [(p13, t13), (p4, t4)]) h9) (
 stsC 5 t2 t12 h9 fun h10 =>
 br (againE (.stores 5 q2 q12) [⟨none, .cells 7 q4, p13⟩] (mkT [(p2, t2), (p13, t13), (p4, t4)]) h10) (
 stsC 7 t3 t13 h10 fun h11 =>
 cellsC 5 t2 h11 fun t2a =>
 cellsC 7 t3 h11 fun t3a =>
 some (.ret (.tup [t2a, t3a]) h11, .no)) none) none
def S162 : SFn := fun D m args h u => nou u <| popV args fun t0 args => endA args (S162_0 D m t0 h)
theorem T162_0 (hE : FX x162 D m E) : S162_0 D m = e162_0 (E c162_e []) := by unfold S162_0; rw [hE c162_e]; kernel_rfl
theorem X162 : XTie S162 x162 := X_of fun D m E hE args h u => by unfold S162; rw [T162_0 hE]; kernel_rfl
/- 163 -/
def v163_0 : List Pos := [p3]
def c163_0 : XC := (.sO [.mv p19 q3 tI, .mv p2 q19 tI] (.s .ret))
def v163_1 : List Pos := [p0, p3, p4]
def c163_1b : XC := (.seq (.seq (.oX [.mv p5 q4 tI, .mv p6 q0 .s, .P p7 (.lens q6) tI, .bn p8 .lss q5 q7 .b]) (.cond q8 .skip (.exit 0))) (.seq (.block 1 (.oX [.mv p11 q3 tI, .bn p12 .mul q11 (ci 10) tI, .mv p13 q0 .s, .mv p14 q4 tI, .P p15 (.idxs q13 q14) tC, .bn p16 .sub q15 (.c (.int .u8 (.ofNat 48))) tC, .P p17 (.conv (.ii .i64) q16) tI, .bn p18 .add q12 q17 tI, .mv p3 q18 tI])) (.s (.oX [.mv p9 q4 tI, .bn p10 .add q9 (ci 1) tI, .mv p4 q10 tI]))))
def c163_e : XC := (.sO [.mv p2 (ci 0) tI] (.sO [.mv p3 (ci 0) tI] (.sj v163_0 (.sO [.mv p4 (ci 0) tI] (.block 0 (.loop v163_1 c163_1b))) c163_0)))
def x163 : XFn := ⟨[.s], false, [(.tmp p2)], c163_e⟩
def e163_0 (k t3 h) := kN k [(p3, (vI t3))] h
def S163_0 (D : CallD) (m : Nat) (t3 : Int) (h : HP) : Res2 :=
 some (.ret (vI t3) h, .no)
def e163_1 (k t0 t3 t4 h) := kN k [(p0, (vS t0)), (p3, (vI t3)), (p4, (vI t4))] h
def S163_1b (D : CallD) (m : Nat) (g1 : LN → Int → Int → HP → Res2) (t0 : LN) (t3 t4 : Int) (h : HP) : Res2 :=
 let t7 := Int.ofNat (lenL t0)
 let t8 := ltQ t4 t7
 br t8 (
 let t12 := wrQ .i64 (t3 * (Int.ofNat 10))
 ixC (vS t0) (vI t4) fun vt15 => asI .u8 vt15 fun t15 =>
 let t16 := wrQ .u8 (t15 - (Int.ofNat 48))
 let t17 := wrapF .i64 t16
 let t18 := wrQ .i64 (addQ t12 t17)
 let t10 := wrQ .i64 (addQ t4 (Int.ofNat 1))
 g1 t0 t18 t10 h) (
 S163_0 D m t3 h)
def S163_1 (D : CallD) (m : Nat) : LN → Int → Int → HP → Res2 := nrec (fun _ _ _ _ => none) (fun _ g => S163_1b D m g) m
def e163_2 (k t0 h) := kN k [(p0, (vS t0))] h
def S163_2 (D : CallD) (m : Nat) (t0 : LN) (h : HP) : Res2 :=
 S163_1 D m t0 (Int.ofNat 0) (Int.ofNat 0) h
def S163 : SFn := fun D m args h u => nou u <| popS args fun t0 args => endA args (S163_2 D m t0 h)
theorem T163_0 (hE : FX x163 D m E) : S163_0 D m = e163_0 (E c163_0 []) := by unfold S163_0; rw [hE c163_0]; kernel_rfl
theorem T163_1b (hE : FX x163 D m E) (G1) : S163_1b D m (e163_1 G1) = e163_1 (E c163_1b [.lp v163_1 G1, .blk 0, .sj v163_0 c163_0]) := by unfold S163_1b; rw [T163_0 hE, hE c163_1b]; kernel_rfl
theorem T163_1 (hE : FX x163 D m E) : S163_1 D m = e163_1 (nrec (fun _ => none) (fun _ G1 st => E c163_1b [.lp v163_1 G1, .blk 0, .sj v163_0 c163_0] st) m) :=
  nrec_emb e163_1 (fun _ _ _ _ => none) (fun g => S163_1b D m g) (fun G1 st => E c163_1b [.lp v163_1 G1, .blk 0, .sj v163_0 c163_0] st) rfl (fun g => T163_1b hE g) m
theorem T163_2 (hE : FX x163 D m E) : S163_2 D m = e163_2 (E c163_e []) := by unfold S163_2; rw [T163_1 hE, hE c163_e]; kernel_rfl
theorem X163 : XTie S163 x163 := X_of fun D m E hE args h u => by unfold S163; rw [T163_2 hE]; kernel_rfl
/- 164 -/
def v164_0 : List Pos := [p2, p4, p5, p6]
def c164_0 : XC := (.seq (.ops true (XL.of [.L p51 (.cells 5 q2) .v, .L p52 (.cells 8 q6) .v, .o ⟨none, (.e (.stores 5 q4 q51)), none, [⟨none, .cells 8 q6, p52⟩]⟩ .v, .ss 8 q5 q52])) (.s .ret))
def v164_2 : List Pos := [p1, p2, p4, p5, p6]
def c164_2 : XC := (.block 1 (.sO [.L p31 (.cells 5 q2) .v, .cl p32 82 [q31] .v, .P p33 (.field 1 1 false q32) .s, .mv p7 q33 .s] (.sO [.P p34 (.build [(kI 0), (.str []), (.str []), (.int .u32 (.ofNat 0)), (.int .u64 (.ofNat 0)), .nils, (kI 0), (kI 0)] []) .v, .al p8 (.new [(kI 0), (.str []), (.str []), (.int .u32 (.ofNat 0)), (.int .u64 (.ofNat 0)), .nils, (kI 0), (kI 0)]), .ss 8 q8 q34] (.sO [.L p36 (.cells 5 q2) .v, .cl p37 118 [q36] .v, .mv p38 q7 .s, .cl p39 203 [q38] tI, .bn p40 .add q39 (ci 1) tI, .cl p41 164 [q37, q40] .v, .mv p35 q41 .v, .P p42 (.ext q35 0) .v, .P p43 (.ext q35 1) .v, .ss 5 q2 q42, .ss 8 q8 q43] (.s (.oX [.mv p44 q7 .s, .L p45 (.cells 8 q6) .v, .L p46 (.cells 8 q8) .v, .al p47 (.bsl [(kI 0), (.str []), (.str []), (.int .u32 (.ofNat 0)), (.int .u64 (.ofNat 0)), .nils, (kI 0), (kI 0), (kI 0), (.str []), (.str []), (.int .u32 (.ofNat 0)), (.int .u64 (.ofNat 0)), .nils, (kI 0), (kI 0)] 2 [⟨0, 8, q45⟩, ⟨8, 8, q46⟩]), .fa p48 7 q6, .ld p49 q48 tI, .P p50 (.build [(kI 0), (.str []), (.str []), (.int .u32 (.ofNat 0)), (.int .u64 (.ofNat 0)), .nils, (kI 0), (kI 0)] [⟨0, 1, (ci 5)⟩, ⟨1, 1, q44⟩, ⟨5, 1, q47⟩, ⟨7, 1, q49⟩]) .v, .ss 8 q6 q50]))))))
def c164_5 : XC := (.cond q30 (.s .skip) (.s (.exit 0)))
def l164_4 : XL := (XL.of [])
def l164_3 : XL := (XL.pre [.mv p23 q22 .b, .sp p23, .o ⟨(some p24), (.l (.cells 5 q2)), (some (p23, true)), []⟩ .v, .o ⟨(some p25), (.call (.fn 82) [q24]), (some (p23, true)), []⟩ .v, .G p23 true p26 (.field 1 1 false q25) .s, .o ⟨(some p27), (.call (.fn 203) [q26]), (some (p23, true)), []⟩ tI, .G p23 true p28 (.mov q1) tI, .G p23 true p29 (.bin .geq q27 q28) .b, .P p30 (.pick q23 q29 (cb false)) .b, .jn p23 [p1, p2, p4, p5, p6, p30]] l164_4)
def v164_1 : List Pos := [p1, p2, p4, p5, p6]
def c164_1b : XC := (.sj v164_2 (.opq false (XL.pre [.fa p14 3 q2, .ld p15 q14 tI, .bn p16 .eql q15 (ci 0) .b, .mv p17 q16 .b, .sp p17, .o ⟨(some p18), (.l (.cells 5 q2)), (some (p17, true)), []⟩ .v, .o ⟨(some p19), (.call (.fn 82) [q18]), (some (p17, true)), []⟩ .v, .G p17 true p20 (.field 0 1 false q19) tI, .G p17 true p21 (.bin .eql q20 (ci 4)) .b, .P p22 (.pick q17 q21 (cb false)) .b, .jn p17 [p1, p2, p4, p5, p6, p22]] l164_3) c164_5) c164_2)
def c164_e : XC := (.sO [.al p2 (.box q0), .al p4 (.new [.nils, (kI 0), (kI 0), (kI 0), (kI 0)]), .al p5 (.new [(kI 0), (.str []), (.str []), (.int .u32 (.ofNat 0)), (.int .u64 (.ofNat 0)), .nils, (kI 0), (kI 0)])] (.sO [.L p10 (.cells 5 q2) .v, .cl p11 202 [q10] .v, .mv p9 q11 .v, .P p12 (.ext q9 0) .v, .P p13 (.ext q9 1) .v, .al p6 (.new [(kI 0), (.str []), (.str []), (.int .u32 (.ofNat 0)), (.int .u64 (.ofNat 0)), .nils, (kI 0), (kI 0)]), .ss 5 q2 q12, .ss 8 q6 q13] (.sj v164_0 (.block 0 (.loop v164_1 c164_1b)) c164_0)))
def x164 : XFn := ⟨[.v, tI], false, [(.cells 5 p4), (.cells 8 p5)], c164_e⟩
def e164_0 (k t2 t4 t5 t6 h) := kN k [(p2, t2), (p4, t4), (p5, t5), (p6, t6)] h
def S164_0 (D : CallD) (m : Nat) (t2 t4 t5 t6 : AV) (h : HP) : Res2 :=
 cellsC 5 t2 h fun t51 =>
 cellsC 8 t6 h fun t52 =>
 stsC 5 t4 t51 h fun h14 =>
 br (againE (.stores 5 q4 q51) [⟨none, .cells 8 q6, p52⟩] (mkT [(p4, t4), (p52, t52), (p6, t6)]) h14) (
 stsC 8 t5 t52 h14 fun h15 =>
 cellsC 5 t4 h15 fun t4a =>
 cellsC 8 t5 h15 fun t5a =>
 some (.ret (.tup [t4a, t5a]) h15, .no)) none
def e164_2 (k t1 t2 t4 t5 t6 h) := kN k [(p1, (vI t1)), (p2, t2), (p4, t4), (p5, t5), (p6, t6)] h
def S164_2 (D : CallD) (m : Nat) (g1 : Int → AV → AV → AV → AV → HP → Res2) (t1 : Int) (t2 t4 t5 t6 : AV) (h : HP) : Res2 :=
 cellsC 5 t2 h fun t31 =>
 cal D 82 [t31] h fun t32 h16 =>
 fldC 1 1 false t32 fun vt33 => asS vt33 fun t33 =>
 let t34 := (AV.agg [(vI (Int.ofNat 0)), (vS ([] : LN)), (vS ([] : LN)), (vW (Int.ofNat 0)), (AV.int .u64 (Int.ofNat 0)), (.nils : AV), (vI (Int.ofNat 0)), (vI (Int.ofNat 0))])
 let t8 := AV.ptr (HP.nxQ h16) 0
 let h17 := HP.newQ h16 (.cells true [(kI 0), (.str []), (.str []), (.int .u32 (.ofNat 0)), (.int .u64 (.ofNat 0)), .nils, (kI 0), (kI 0)])
 stsC 8 t8 t34 h17 fun h18 =>
 cellsC 5 t2 h18 fun t36 =>
 cal D 118 [t36] h18 fun t37 h19 =>
 cal D 203 [(vS t33)] h19 fun t39 h20 =>
 asI .i64 t39 fun t39a =>
 let t40 := wrQ .i64 (addQ t39a (Int.ofNat 1))
 cal D 164 [t37, (vI t40)] h20 fun t41 h21 =>
 extC t41 0 fun t42 =>
 extC t41 1 fun t43 =>
 stsC 5 t2 t42 h21 fun h22 =>
 stsC 8 t8 t43 h22 fun h23 =>
 cellsC 8 t6 h23 fun t45 =>
 cellsC 8 t8 h23 fun t46 =>
 obQ (evA (.bsl [(kI 0), (.str []), (.str []), (.int .u32 (.ofNat 0)), (.int .u64 (.ofNat 0)), .nils, (kI 0), (kI 0), (kI 0), (.str []), (.str []), (.int .u32 (.ofNat 0)), (.int .u64 (.ofNat 0)), .nils, (kI 0), (kI 0)] 2 [⟨0, 8, (.c t45)⟩, ⟨8, 8, (.c t46)⟩]) .leaf) fun r24 =>
 let t47 := vkV r24.2 (HP.nxQ h23)
 let h25 := HP.newQ h23 r24.1
 faC 7 t6 fun t48 =>
 ldI t48 h25 fun t49 =>
 obQ (evP (.build [(kI 0), (.str []), (.str []), (.int .u32 (.ofNat 0)), (.int .u64 (.ofNat 0)), .nils, (kI 0), (kI 0)] [⟨0, 1, (.c (vI (Int.ofNat 5)))⟩, ⟨1, 1, (.c (vS t33))⟩, ⟨5, 1, (.c t47)⟩, ⟨7, 1, (.c (vI t49))⟩]) .leaf) fun t50 =>
 stsC 8 t6 t50 h25 fun h26 =>
 g1 t1 t2 t4 t5 t6 h26
def e164_4 (k t1 t2 t4 t5 t6 t30 h) := kN k [(p1, (vI t1)), (p2, t2), (p4, t4), (p5, t5), (p6, t6), (p30, (vB t30))] h
def S164_4 (D : CallD) (m : Nat) (g1 : Int → AV → AV → AV → AV → HP → Res2) (t1 : Int) (t2 t4 t5 t6 : AV) (t30 : Bool) (h : HP) : Res2 :=
 br t30 (
 S164_2 D m g1 t1 t2 t4 t5 t6 h) (
 S164_0 D m t2 t4 t5 t6 h)
def e164_3 (k t1 t2 t4 t5 t6 t22 h) := kN k [(p1, (vI t1)), (p2, t2), (p4, t4), (p5, t5), (p6, t6), (p22, (vB t22))] h
def S164_3 (D : CallD) (m : Nat) (g1 : Int → AV → AV → AV → AV → HP → Res2) (t1 : Int) (t2 t4 t5 t6 : AV) (t22 : Bool) (h : HP) : Res2 :=
 br t22 (
 cellsC 5 t2 h fun t24 =>
 cal D 82 [t24] h fun t25 h28 =>
 fldC 1 1 false t25 fun vt26 => asS vt26 fun t26 =>
 cal D 203 [(vS t26)] h28 fun t27 h29 =>
 asI .i64 t27 fun t27a =>
 let t29 := leQ t1 t27a
 S164_4 D m g1 t1 t2 t4 t5 t6 t29 h29) (
 S164_4 D m g1 t1 t2 t4 t5 t6 false h)
def e164_1 (k t1 t2 t4 t5 t6 h) := kN k [(p1, (vI t1)), (p2, t2), (p4, t4), (p5, t5), (p6, t6)] h
def S164_1b (D : CallD) (m : Nat) (g1 : Int → AV → AV → AV → AV → HP → Res2) (t1 : Int) (t2 t4 t5 t6 : AV) (h : HP) : Res2 :=
 faC 3 t2 fun t14 =>
 ldI t14 h fun t15 =>
 let t16 := eqQ t15 (Int.ofNat 0)
 br t16 (
 cellsC 5 t2 h fun t18 =>
 cal D 82 [t18] h fun t19 h27 =>
 fldC 0 1 false t19 fun vt20 => asI .i64 vt20 fun t20 =>
 let t21 := eqQ t20 (Int.ofNat 4)
 S164_3 D m g1 t1 t2 t4 t5 t6 t21 h27) (
 S164_3 D m g1 t1 t2 t4 t5 t6 false h)
def S164_1 (D : CallD) (m : Nat) : Int → AV → AV → AV → AV → HP → Res2 := nrec (fun _ _ _ _ _ _ => none) (fun _ g => S164_1b D m g) m
def e164_6 (k t0 t1 h) := kN k [(p0, t0), (p1, (vI t1))] h
def S164_6 (D : CallD) (m : Nat) (t0 : AV) (t1 : Int) (h : HP) : Res2 :=
 let t2 := AV.ptr (HP.nxQ h) 0
 let h7 := HP.newQ h (.cells true (AV.cells t0))
 let t4 := AV.ptr (HP.nxQ h7) 0
 let h8 := HP.newQ h7 (.cells true [.nils, (kI 0), (kI 0), (kI 0), (kI 0)])
 let t5 := AV.ptr (HP.nxQ h8) 0
 let h9 := HP.newQ h8 (.cells true [(kI 0), (.str []), (.str []), (.int .u32 (.ofNat 0)), (.int .u64 (.ofNat 0)), .nils, (kI 0), (kI 0)])
 cellsC 5 t2 h9 fun t10 =>
 cal D 202 [t10] h9 fun t11 h10 =>
 extC t11 0 fun t12 =>
 extC t11 1 fun t13 =>
 let t6 := AV.ptr (HP.nxQ h10) 0
 let h11 := HP.newQ h10 (.cells true [(kI 0), (.str []), (.str []), (.int .u32 (.ofNat 0)), (.int .u64 (.ofNat 0)), .nils, (kI 0), (kI 0)])
 stsC 5 t2 t12 h11 fun h12 =>
 stsC 8 t6 t13 h12 fun h13 =>
 S164_1 D m t1 t2 t4 t5 t6 h13
def S164 : SFn := fun D m args h u => nou u <| popV args fun t0 args => popI .i64 args fun t1 args => endA args (S164_6 D m t0 t1 h)
theorem T164_0 (hE : FX x164 D m E) : S164_0 D m = e164_0 (E c164_0 []) := by unfold S164_0; rw [hE c164_0]; kernel_rfl
theorem T164_2 (hE : FX x164 D m E) (G1) : S164_2 D m (e164_1 G1) = e164_2 (E c164_2 [.lp v164_1 G1, .blk 0, .sj v164_0 c164_0]) := by unfold S164_2; rw [hE c164_2]; kernel_rfl
theorem T164_4 (hE : FX x164 D m E) (G1) : S164_4 D m (e164_1 G1) = e164_4 (E (.opq false l164_4 c164_5) [.sj v164_2 c164_2, .lp v164_1 G1, .blk 0, .sj v164_0 c164_0]) := by unfold S164_4; rw [T164_2 hE G1, T164_0 hE, hE (.opq false l164_4 c164_5)]; kernel_rfl
theorem T164_3 (hE : FX x164 D m E) (G1) : S164_3 D m (e164_1 G1) = e164_3 (E (.opq false l164_3 c164_5) [.sj v164_2 c164_2, .lp v164_1 G1, .blk 0, .sj v164_0 c164_0]) := by unfold S164_3; rw [T164_4 hE G1, hE (.opq false l164_3 c164_5)]; kernel_rfl
theorem T164_1b (hE : FX x164 D m E) (G1) : S164_1b D m (e164_1 G1) = e164_1 (E c164_1b [.lp v164_1 G1, .blk 0, .sj v164_0 c164_0]) := by unfold S164_1b; rw [T164_3 hE G1, hE c164_1b]; kernel_rfl
theorem T164_1 (hE : FX x164 D m E) : S164_1 D m = e164_1 (nrec (fun _ => none) (fun _ G1 st => E c164_1b [.lp v164_1 G1, .blk 0, .sj v164_0 c164_0] st) m) :=
  nrec_emb e164_1 (fun _ _ _ _ _ _ => none) (fun g => S164_1b D m g) (fun G1 st => E c164_1b [.lp v164_1 G1, .blk 0, .sj v164_0 c164_0] st) rfl (fun g => T164_1b hE g) m
theorem T164_6 (hE : FX x164 D m E) : S164_6 D m = e164_6 (E c164_e []) := by unfold S164_6; rw [T164_1 hE, hE c164_e]; kernel_rfl
theorem X164 : XTie S164 x164 := X_of fun D m E hE args h u => by unfold S164; rw [T164_6 hE]; kernel_rfl
/- 165 -/
def v165_0 : List Pos := [p1, p2]
def c165_0 : XC := (.sO [.fa p8 2 q1, .ld p9 q8 tI, .bn p10 .add q9 (ci 1) tI, .fa p11 2 q1, .st q11 q10] (.sO [.L p12 (.cells 5 q1) .v, .ss 5 q2 q12] (.s .ret)))
def c165_e : XC := (.sO [.al p1 (.box q0), .al p2 (.new [.nils, (kI 0), (kI 0), (kI 0), (kI 0)])] (.sj v165_0 (.sO [.fa p3 2 q1, .ld p4 q3 tI, .bn p5 .geq q4 (ci 40) .b] (.cond q5 (.s (.oX [.L p6 (.cells 5 q1) .v, .cl p7 161 [q6, (ci 12)] .v, .ss 5 q1 q7])) (.s .skip))) c165_0))
def x165 : XFn := ⟨[.v], false, [(.cells 5 p2)], c165_e⟩
def e165_0 (k t1 t2 h) := kN k [(p1, t1), (p2, t2)] h
def S165_0 (D : CallD) (m : Nat) (t1 t2 : AV) (h : HP) : Res2 :=
 faC 2 t1 fun t8 =>
 ldI t8 h fun t9 =>
 let t10 := wrQ .i64 (addQ t9 (Int.ofNat 1))
 faC 2 t1 fun t11 =>
 stoC t11 (vI t10) h fun h4 =>
 cellsC 5 t1 h4 fun t12 =>
 stsC 5 t2 t12 h4 fun h5 =>
 cellsC 5 t2 h5 fun t2a =>
 some (.ret t2a h5, .no)
def e165_1 (k t0 h) := kN k [(p0, t0)] h
def S165_1 (D : CallD) (m : Nat) (t0 : AV) (h : HP) : Res2 :=
 let t1 := AV.ptr (HP.nxQ h) 0
 let h2 := HP.newQ h (.cells true (AV.cells t0))
 let t2 := AV.ptr (HP.nxQ h2) 0
 let h3 := HP.newQ h2 (.cells true [.nils, (kI 0), (kI 0), (kI 0), (kI 0)])
 let t3 := (AV.ptr (HP.nxQ h) (Nat.add 0 2))
 ldI t3 h3 fun t4 =>
 let t5 := leQ (Int.ofNat 40) t4
 br t5 (
 cellsC 5 t1 h3 fun t6 =>
 cal D 161 [t6, (vI (Int.ofNat 12))] h3 fun t7 h6 =>
 stsC 5 t1 t7 h6 fun h7 =>
 S165_0 D m t1 t2 h7) (
 S165_0 D m t1 t2 h3)
def S165 : SFn := fun D m args h u => nou u <| popV args fun t0 args => endA args (S165_1 D m t0 h)
theorem T165_0 (hE : FX x165 D m E) : S165_0 D m = e165_0 (E c165_0 []) := by unfold S165_0; rw [hE c165_0]; kernel_rfl
theorem T165_1 (hE : FX x165 D m E) : S165_1 D m = e165_1 (E c165_e []) := by unfold S165_1; rw [T165_0 hE, hE c165_e]; kernel_rfl
theorem X165 : XTie S165 x165 := X_of fun D m E hE args h u => by unfold S165; rw [T165_1 hE]; kernel_rfl
/- 166 -/
def c166_e : XC := (.sO [.al p1 (.box q0), .al p2 (.new [.nils, (kI 0), (kI 0), (kI 0), (kI 0)])] (.sO [.fa p3 2 q1, .ld p4 q3 tI, .bn p5 .sub q4 (ci 1) tI, .fa p6 2 q1, .st q6 q5] (.sO [.L p7 (.cells 5 q1) .v, .ss 5 q2 q7] (.s .ret))))
def x166 : XFn := ⟨[.v], false, [(.cells 5 p2)], c166_e⟩
def e166_0 (k t0 h) := kN k [(p0, t0)] h
def S166_0 (D : CallD) (m : Nat) (t0 : AV) (h : HP) : Res2 :=
 let t1 := AV.ptr (HP.nxQ h) 0
 let h1 := HP.newQ h (.cells true (AV.cells t0))
 let t2 := AV.ptr (HP.nxQ h1) 0
 let h2 := HP.newQ h1 (.cells true [.nils, (kI 0), (kI 0), (kI 0), (kI 0)])
 let t3 := (AV.ptr (HP.nxQ h) (Nat.add 0 2))
 ldI t3 h2 fun t4 =>
 let t5 := wrQ .i64 (t4 - (Int.ofNat 1))
 let t6 := (AV.ptr (HP.nxQ h) (Nat.add 0 2))
 stoC t6 (vI t5) h2 fun h3 =>
 cellsC 5 t1 h3 fun t7 =>
 stsC 5 t2 t7 h3 fun h4 =>
 cellsC 5 t2 h4 fun t2a =>
 some (.ret t2a h4, .no)
def S166 : SFn := fun D m args h u => nou u <| popV args fun t0 args => endA args (S166_0 D m t0 h)
theorem T166_0 (hE : FX x166 D m E) : S166_0 D m = e166_0 (E c166_e []) := by unfold S166_0; rw [hE c166_e]; kernel_rfl
theorem X166 : XTie S166 x166 := X_of fun D m E hE args h u => by unfold S166; rw [T166_0 hE]; kernel_rfl
/- 167 -/
def v167_3 : List Pos := [p2, p3, p4, p5]
def c167_3 : XC := (.seq (.ops true (XL.of [.L p164 (.cells 7 q2) .v, .L p165 (.cells 8 q3) .v, .o ⟨none, (.e (.stores 7 q4 q164)), none, [⟨none, .cells 8 q3, p165⟩]⟩ .v, .ss 8 q5 q165])) (.s .ret))
def v167_2 : List Pos := [p2, p3, p4, p5]
def c167_2 : XC := (.sO [.mv p12 (ci 0) tI] (.sO [.L p152 (.cells 8 q3) .v, .cl p153 205 [q152] .v, .mv p151 q153 .v, .P p154 (.ext q151 0) .v, .P p155 (.ext q151 1) tI, .ss 8 q3 q154, .mv p12 q155 tI] (.sO [.mv p156 q12 tI, .fa p157 6 q3, .st q157 q156] (.sj v167_3 (.sO [.mv p158 q12 tI, .bn p159 .eql q158 (ci 0) .b] (.cond q159 (.s (.oX [.L p160 (.cells 7 q2) .v, .fa p161 7 q3, .ld p162 q161 tI, .cl p163 86 [q160, (ci 14), q162] .v, .ss 7 q2 q163])) (.s .skip))) c167_3))))
def v167_4 : List Pos := [p2, p3, p4, p5, p9]
def c167_4 : XC := (.sO [.fa p145 0 q9, .fa p146 4 q145, .ld p147 q146 tI, .fa p148 6 q3, .st q148 q147] (.seq (.ops true (XL.of [.L p149 (.cells 7 q2) .v, .L p150 (.cells 8 q3) .v, .o ⟨none, (.e (.stores 7 q4 q149)), none, [⟨none, .cells 8 q3, p150⟩]⟩ .v, .ss 8 q5 q150])) (.s .ret)))
def v167_6 : List Pos := [p2, p3, p4, p5, p9, p114, p115]
def c167_6 : XC := (.s (.oX [.bn p144 .add q115 (ci 1) tI, .mv p115 q144 tI]))
def v167_5 : List Pos := [p2, p3, p4, p5, p9, p114, p115]
def c167_5b : XC := (.sO [.bn p116 .lss q115 q114 .b] (.seq (.cond q116 .skip (.exit 2)) (.sj v167_6 (.block 3 (.sO [.mv p117 q115 tI, .mv p11 q117 tI] (.seq (.ops true (XL.of [.fa p119 5 q3, .ld p120 q119 .v, .mv p121 q11 tI, .fa p122 5 q3, .ld p123 q122 .v, .mv p124 q11 tI, .P p125 (.iaddr (.sl 8) q123 q124) .v, .L p126 (.cells 8 q125) .v, .fa p127 0 q9, .fa p128 8 q127, .ld p129 q128 .v, .mv p130 q11 tI, .P p131 (.iaddr (.sl 3) q129 q130) .v, .fa p132 1 q131, .ld p133 q132 tI, .o ⟨(some p134), (.call (.fn 168) [q126, q133]), none, [⟨none, .cell q119, p120⟩]⟩ .v, .mv p118 q134 .v, .P p135 (.ext q118 0) .v, .P p136 (.ext q118 1) .b, .P p137 (.iaddr (.sl 8) q120 q121) .v, .ss 8 q137 q135, .mv p10 q136 .b])) (.sO [.mv p138 q10 .b, .P p139 (.un .not q138) .b] (.cond q139 (.s (.oX [.L p140 (.cells 7 q2) .v, .fa p141 7 q3, .ld p142 q141 tI, .cl p143 86 [q140, (ci 14), q142] .v, .ss 7 q2 q143])) (.s .skip)))))) c167_6)))
def v167_1 : List Pos := [p2, p3, p4, p5, p9, p10]
def c167_1 : XC := (.sj v167_2 (.sO [.fa p83 0 q3, .ld p84 q83 tI, .bn p85 .eql q84 (ci 7) .b] (.cond q85 (.seq (.seq (.oX [.mv p86 q10 .b, .P p87 (.un .not q86) .b, .mv p88 q87 .b, .ge p88 (XL.of [.G p88 false p89 (.faddr 0 q9) .v, .G p88 false p90 (.faddr 0 q89) .v, .o ⟨(some p91), (.l (.cell q90)), (some (p88, false)), []⟩ .b, .G p88 false p92 (.un .not q91) .b, .P p93 (.pick q88 (cb true) q92) .b]) p93 .b]) (.cond q93 (.seq (.ops true (XL.of [.L p94 (.cells 7 q2) .v, .fa p95 7 q3, .ld p96 q95 tI, .L p98 (.cells 8 q3) .v, .o ⟨(some p97), (.call (.fn 86) [q94, (ci 13), q96]), none, [⟨none, .cells 8 q3, p98⟩]⟩ .v, .o ⟨none, (.e (.stores 7 q4 q97)), none, [⟨none, .cells 8 q3, p98⟩]⟩ .v, .ss 8 q5 q98])) .ret) .skip)) (.seq (.seq (.oX [.fa p99 5 q3, .ld p100 q99 .v, .P p101 (.lenl q100) tI, .fa p102 0 q9, .fa p103 8 q102, .ld p104 q103 .v, .P p105 (.lenl q104) tI, .bn p106 .neq q101 q105 .b]) (.cond q106 (.seq (.ops true (XL.of [.L p107 (.cells 7 q2) .v, .fa p108 7 q3, .ld p109 q108 tI, .L p111 (.cells 8 q3) .v, .o ⟨(some p110), (.call (.fn 86) [q107, (ci 14), q109]), none, [⟨none, .cells 8 q3, p111⟩]⟩ .v, .o ⟨none, (.e (.stores 7 q4 q110)), none, [⟨none, .cells 8 q3, p111⟩]⟩ .v, .ss 8 q5 q111])) .ret) .skip)) (.sj v167_4 (.sO [.fa p112 5 q3, .ld p113 q112 .v, .P p114 (.lenl q113) tI, .mv p115 (ci 0) tI] (.block 2 (.loop v167_5 c167_5b))) c167_4))) (.s .skip))) c167_2)
def v167_7 : List Pos := [p2, p3, p4, p5]
def c167_7 : XC := (.seq (.ops true (XL.of [.L p81 (.cells 7 q2) .v, .L p82 (.cells 8 q3) .v, .o ⟨none, (.e (.stores 7 q4 q81)), none, [⟨none, .cells 8 q3, p82⟩]⟩ .v, .ss 8 q5 q82])) (.s .ret))
def v167_0 : List Pos := [p2, p3, p4, p5, p6]
def c167_0 : XC := (.sO [.mv p35 q6 .v, .fa p36 5 q3, .st q36 q35] (.seq (.seq (.oX [.fa p37 5 q2, .ld p38 q37 tI, .bn p39 .neq q38 (ci 0) .b]) (.cond q39 (.seq (.ops true (XL.of [.L p40 (.cells 7 q2) .v, .L p41 (.cells 8 q3) .v, .o ⟨none, (.e (.stores 7 q4 q40)), none, [⟨none, .cells 8 q3, p41⟩]⟩ .v, .ss 8 q5 q41])) .ret) .skip)) (.sO [.L p43 (.cells 7 q2) .v, .fa p44 2 q3, .ld p45 q44 .s, .cl p46 130 [q43, q45] .v, .mv p42 q46 .v, .P p47 (.ext q42 0) .v, .P p48 (.ext q42 1) .b, .al p9 (.new [(.bool false), (.bool false), (.bool false), (.str []), (kI 0), (kI 0), .nils, (.bool false), .nils, (kI 0), .nils, .nils, (.str []), (kI 0), (kI 0), (kI 0), (kI 0), (.str []), (kI 0)]), .ss 19 q9 q47, .mv p10 q48 .b] (.sj v167_1 (.sO [.fa p49 0 q3, .ld p50 q49 tI, .bn p51 .eql q50 (ci 3) .b] (.cond q51 (.seq (.seq (.oX [.mv p52 q10 .b, .P p53 (.un .not q52) .b, .mv p54 q53 .b, .ge p54 (XL.of [.G p54 false p55 (.faddr 0 q9) .v, .G p54 false p56 (.faddr 0 q55) .v, .o ⟨(some p57), (.l (.cell q56)), (some (p54, false)), []⟩ .b, .P p58 (.pick q54 (cb true) q57) .b]) p58 .b]) (.cond q58 (.seq (.ops true (XL.of [.L p59 (.cells 7 q2) .v, .fa p60 7 q3, .ld p61 q60 tI, .L p63 (.cells 8 q3) .v, .o ⟨(some p62), (.call (.fn 86) [q59, (ci 13), q61]), none, [⟨none, .cells 8 q3, p63⟩]⟩ .v, .o ⟨none, (.e (.stores 7 q4 q62)), none, [⟨none, .cells 8 q3, p63⟩]⟩ .v, .ss 8 q5 q63])) .ret) .skip)) (.sO [.fa p64 17 q9, .ld p65 q64 .s, .fa p66 2 q3, .st q66 q65] (.sO [.fa p67 0 q9, .fa p68 4 q67, .ld p69 q68 tI, .fa p70 6 q3, .st q70 q69] (.sj v167_7 (.sO [.fa p71 0 q9, .fa p72 5 q71, .ld p73 q72 tI, .bn p74 .gtr q73 (ci 0) .b] (.cond q74 (.sO [.fa p75 0 q9, .fa p76 4 q75, .ld p77 q76 tI, .cl p78 204 [q77] tI, .fa p79 6 q3, .st q79 q78] (.s (.oX [.fa p80 3 q3, .st q80 (.c (.int .u32 (.ofNat 1)))]))) (.s .skip))) c167_7)))) (.s .skip))) c167_1))))
def v167_8 : List Pos := [p2, p3, p4, p5, p6, p15, p16]
def c167_8b : XC := (.sO [.bn p17 .lss q16 q15 .b] (.seq (.cond q17 .skip (.exit 0)) (.seq (.block 1 (.seq (.oX [.mv p18 q16 tI, .mv p7 q18 tI]) (.seq (.oX [.P p19 (.build [(kI 0), (.str []), (.str []), (.int .u32 (.ofNat 0)), (.int .u64 (.ofNat 0)), .nils, (kI 0), (kI 0)] []) .v, .al p8 (.new [(kI 0), (.str []), (.str []), (.int .u32 (.ofNat 0)), (.int .u64 (.ofNat 0)), .nils, (kI 0), (kI 0)]), .ss 8 q8 q19]) (.seq (.ops true (XL.of [.L p21 (.cells 7 q2) .v, .fa p22 5 q3, .ld p23 q22 .v, .mv p24 q7 tI, .P p25 (.iaddr (.sl 8) q23 q24) .v, .L p26 (.cells 8 q25) .v, .cl p27 167 [q21, q26] .v, .mv p20 q27 .v, .P p28 (.ext q20 0) .v, .P p29 (.ext q20 1) .v, .ss 7 q2 q28, .ss 8 q8 q29])) (.oX [.mv p30 q6 .v, .L p31 (.cells 8 q8) .v, .al p32 (.bsl [(kI 0), (.str []), (.str []), (.int .u32 (.ofNat 0)), (.int .u64 (.ofNat 0)), .nils, (kI 0), (kI 0)] 1 [⟨0, 8, q31⟩]), .o ⟨(some p33), (.e (.app 8 96 q30 q32)), none, []⟩ .v, .mv p6 q33 .v]))))) (.s (.oX [.bn p34 .add q16 (ci 1) tI, .mv p16 q34 tI])))))
def c167_e : XC := (.sO [.al p2 (.box q0), .al p3 (.box q1), .al p4 (.new [.nils, (kI 0), (kI 0), (kI 0), (kI 0), (kI 0), (kI 0)]), .al p5 (.new [(kI 0), (.str []), (.str []), (.int .u32 (.ofNat 0)), (.int .u64 (.ofNat 0)), .nils, (kI 0), (kI 0)])] (.sO [.mv p6 (.c .nils) .v] (.sj v167_0 (.sO [.fa p13 5 q3, .ld p14 q13 .v, .P p15 (.lenl q14) tI, .mv p16 (ci 0) tI] (.block 0 (.loop v167_8 c167_8b))) c167_0)))
def x167 : XFn := ⟨[.v, .v], false, [(.cells 7 p4), (.cells 8 p5)], c167_e⟩
def e167_3 (k t2 t3 t4 t5 h) := kN k [(p2, t2), (p3, t3), (p4, t4), (p5, t5)] h
def S167_3 (D : CallD) (m : Nat) (t2 t3 t4 t5 : AV) (h : HP) : Res2 :=
 cellsC 7 t2 h fun t164 =>
 cellsC 8 t3 h fun t165 =>
 stsC 7 t4 t164 h fun h23 =>
 br (againE (.stores 7 q4 q164) [⟨none, .cells 8 q3, p165⟩] (mkT [(p4, t4), (p165, t165), (p3, t3)]) h23) (
 stsC 8 t5 t165 h23 fun h24 =>
 cellsC 7 t4 h24 fun t4a =>
 cellsC 8 t5 h24 fun t5a =>
 some (.ret (.tup [t4a, t5a]) h24, .no)) none
def e167_2 (k t2 t3 t4 t5 h) := kN k [(p2, t2), (p3, t3), (p4, t4), (p5, t5)] h
def S167_2 (D : CallD) (m : Nat) (t2 t3 t4 t5 : AV) (h : HP) : Res2 :=
 cellsC 8 t3 h fun t152 =>
 cal D 205 [t152] h fun t153 h20 =>
 extC t153 0 fun t154 =>
 extC t153 1 fun vt155 => asI .i64 vt155 fun t155 =>
 stsC 8 t3 t154 h20 fun h21 =>
 faC 6 t3 fun t157 =>
 stoC t157 (vI t155) h21 fun h22 =>
 let t159 := eqQ t155 (Int.ofNat 0)
 br t159 (
 cellsC 7 t2 h22 fun t160 =>
 faC 7 t3 fun t161 =>
 ldI t161 h22 fun t162 =>
 cal D 86 [t160, (vI (Int.ofNat 14)), (vI t162)] h22 fun t163 h25 =>
 stsC 7 t2 t163 h25 fun h26 =>
 S167_3 D m t2 t3 t4 t5 h26) (
 S167_3 D m t2 t3 t4 t5 h22)
def e167_4 (k t2 t3 t4 t5 t9 h) := kN k [(p2, t2), (p3, t3), (p4, t4), (p5, t5), (p9, t9)] h
def S167_4 (D : CallD) (m : Nat) (t2 t3 t4 t5 t9 : AV) (h : HP) : Res2 :=
 faC 0 t9 fun t145 =>
 faC 4 t145 fun t146 =>
 ldI t146 h fun t147 =>
 faC 6 t3 fun t148 =>
 stoC t148 (vI t147) h fun h33 =>
 cellsC 7 t2 h33 fun t149 =>
 cellsC 8 t3 h33 fun t150 =>
 stsC 7 t4 t149 h33 fun h34 =>
 br (againE (.stores 7 q4 q149) [⟨none, .cells 8 q3, p150⟩] (mkT [(p4, t4), (p150, t150), (p3, t3)]) h34) (
 stsC 8 t5 t150 h34 fun h35 =>
 cellsC 7 t4 h35 fun t4a =>
 cellsC 8 t5 h35 fun t5a =>
 some (.ret (.tup [t4a, t5a]) h35, .no)) none
def e167_6 (k t2 t3 t4 t5 t9 t114 t115 h) := kN k [(p2, t2), (p3, t3), (p4, t4), (p5, t5), (p9, t9), (p114, (vI t114)), (p115, (vI t115))] h
def S167_6 (D : CallD) (m : Nat) (g5 : AV → AV → AV → AV → AV → Int → Int → HP → Res2) (t2 t3 t4 t5 t9 : AV) (t114 t115 : Int) (h : HP) : Res2 :=
 let t144 := wrQ .i64 (addQ t115 (Int.ofNat 1))
 g5 t2 t3 t4 t5 t9 t114 t144 h
def e167_5 (k t2 t3 t4 t5 t9 t114 t115 h) := kN k [(p2, t2), (p3, t3), (p4, t4), (p5, t5), (p9, t9), (p114, (vI t114)), (p115, (vI t115))] h
def S167_5b (D : CallD) (m : Nat) (g5 : AV → AV → AV → AV → AV → Int → Int → HP → Res2) (t2 t3 t4 t5 t9 : AV) (t114 t115 : Int) (h : HP) : Res2 :=
 let t116 := ltQ t115 t114
 br t116 (
 faC 5 t3 fun t119 =>
 cellC t119 h fun t120 =>
 faC 5 t3 fun t122 =>
 cellC t122 h fun t123 =>
 iasC 8 t123 (vI t115) fun t125 =>
 cellsC 8 t125 h fun t126 =>
 faC 0 t9 fun t127 =>
 faC 8 t127 fun t128 =>
 cellC t128 h fun t129 =>
 iasC 3 t129 (vI t115) fun t131 =>
 faC 1 t131 fun t132 =>
 ldI t132 h fun t133 =>
 cal D 168 [t126, (vI t133)] h fun t134 h36 =>
 br (again [⟨none, .cell q119, p120⟩] (mkT [(p120, t120), (p119, t119)]) h36) (
 extC t134 0 fun t135 =>
 extC t134 1 fun vt136 => asB vt136 fun t136 =>
 iasC 8 t120 (vI t115) fun t137 =>
 stsC 8 t137 t135 h36 fun h37 =>
 let t139 := !t136
 br t139 (
 cellsC 7 t2 h37 fun t140 =>
 faC 7 t3 fun t141 =>
 ldI t141 h37 fun t142 =>
 cal D 86 [t140, (vI (Int.ofNat 14)), (vI t142)] h37 fun t143 h38 =>
 stsC 7 t2 t143 h38 fun h39 =>
 S167_6 D m g5 t2 t3 t4 t5 t9 t114 t115 h39) (
 S167_6 D m g5 t2 t3 t4 t5 t9 t114 t115 h37)) none) (
 S167_4 D m t2 t3 t4 t5 t9 h)
def S167_5 (D : CallD) (m : Nat) : AV → AV → AV → AV → AV → Int → Int → HP → Res2 := nrec (fun _ _ _ _ _ _ _ _ => none) (fun _ g => S167_5b D m g) m
def e167_1 (k t2 t3 t4 t5 t9 t10 h) := kN k [(p2, t2), (p3, t3), (p4, t4), (p5, t5), (p9, t9), (p10, (vB t10))] h
def S167_1 (D : CallD) (m : Nat) (t2 t3 t4 t5 t9 : AV) (t10 : Bool) (h : HP) : Res2 :=
 faC 0 t3 fun t83 =>
 ldI t83 h fun t84 =>
 let t85 := eqQ t84 (Int.ofNat 7)
 br t85 (
 let t87 := !t10
 obB (brV t87 (
 some (vB true)) (
 faCV 0 t9 fun t89 =>
 faCV 0 t89 fun t90 =>
 ldBV t90 h fun t91 =>
 let t92 := !t91
 some (vB t92))) fun t93 =>
 br t93 (
 cellsC 7 t2 h fun t94 =>
 faC 7 t3 fun t95 =>
 ldI t95 h fun t96 =>
 cellsC 8 t3 h fun t98 =>
 cal D 86 [t94, (vI (Int.ofNat 13)), (vI t96)] h fun t97 h27 =>
 br (again [⟨none, .cells 8 q3, p98⟩] (mkT [(p98, t98), (p3, t3)]) h27) (
 stsC 7 t4 t97 h27 fun h28 =>
 br (againE (.stores 7 q4 q97) [⟨none, .cells 8 q3, p98⟩] (mkT [(p4, t4), (p98, t98), (p3, t3)]) h28) (
 stsC 8 t5 t98 h28 fun h29 =>
 cellsC 7 t4 h29 fun t4a =>
 cellsC 8 t5 h29 fun t5a =>
 some (.ret (.tup [t4a, t5a]) h29, .no)) none) none) (
 faC 5 t3 fun t99 =>
 cellC t99 h fun t100 =>
 lenC t100 fun vt101 => asI .i64 vt101 fun t101 =>
 faC 0 t9 fun t102 =>
 faC 8 t102 fun t103 =>
 cellC t103 h fun t104 =>
 lenC t104 fun vt105 => asI .i64 vt105 fun t105 =>
 let t106 := notQ (eqQ t101 t105)
 br t106 (
 cellsC 7 t2 h fun t107 =>
 faC 7 t3 fun t108 =>
 ldI t108 h fun t109 =>
 cellsC 8 t3 h fun t111 =>
 cal D 86 [t107, (vI (Int.ofNat 14)), (vI t109)] h fun t110 h30 =>
 br (again [⟨none, .cells 8 q3, p111⟩] (mkT [(p111, t111), (p3, t3)]) h30) (
 stsC 7 t4 t110 h30 fun h31 =>
 br (againE (.stores 7 q4 q110) [⟨none, .cells 8 q3, p111⟩] (mkT [(p4, t4), (p111, t111), (p3, t3)]) h31) (
 stsC 8 t5 t111 h31 fun h32 =>
 cellsC 7 t4 h32 fun t4a =>
 cellsC 8 t5 h32 fun t5a =>
 some (.ret (.tup [t4a, t5a]) h32, .no)) none) none) (
 faC 5 t3 fun t112 =>
 cellC t112 h fun t113 =>
 lenC t113 fun vt114 => asI .i64 vt114 fun t114 =>
 S167_5 D m t2 t3 t4 t5 t9 t114 (Int.ofNat 0) h))) (
 S167_2 D m t2 t3 t4 t5 h)
def e167_7 (k t2 t3 t4 t5 h) := kN k [(p2, t2), (p3, t3), (p4, t4), (p5, t5)] h
def S167_7 (D : CallD) (m : Nat) (t2 t3 t4 t5 : AV) (h : HP) : Res2 :=
 cellsC 7 t2 h fun t81 =>
 cellsC 8 t3 h fun t82 =>
 stsC 7 t4 t81 h fun h45 =>
 br (againE (.stores 7 q4 q81) [⟨none, .cells 8 q3, p82⟩] (mkT [(p4, t4), (p82, t82), (p3, t3)]) h45) (
 stsC 8 t5 t82 h45 fun h46 =>
 cellsC 7 t4 h46 fun t4a =>
 cellsC 8 t5 h46 fun t5a =>
 some (.ret (.tup [t4a, t5a]) h46, .no)) none
def e167_0 (k t2 t3 t4 t5 t6 h) := kN k [(p2, t2), (p3, t3), (p4, t4), (p5, t5), (p6, t6)] h
def S167_0 (D : CallD) (m : Nat) (t2 t3 t4 t5 t6 : AV) (h : HP) : Res2 :=
 faC 5 t3 fun t36 =>
 stoC t36 t6 h fun h14 =>
 faC 5 t2 fun t37 =>
 ldI t37 h14 fun t38 =>
 let t39 := notQ (eqQ t38 (Int.ofNat 0))
 br t39 (
 cellsC 7 t2 h14 fun t40 =>
 cellsC 8 t3 h14 fun t41 =>
 stsC 7 t4 t40 h14 fun h15 =>
 br (againE (.stores 7 q4 q40) [⟨none, .cells 8 q3, p41⟩] (mkT [(p4, t4), (p41, t41), (p3, t3)]) h15) (
 stsC 8 t5 t41 h15 fun h16 =>
 cellsC 7 t4 h16 fun t4a =>
 cellsC 8 t5 h16 fun t5a =>
 some (.ret (.tup [t4a, t5a]) h16, .no)) none) (
 cellsC 7 t2 h14 fun t43 =>
 faC 2 t3 fun t44 =>
 ldS t44 h14 fun t45 =>
 cal D 130 [t43, (vS t45)] h14 fun t46 h17 =>
 extC t46 0 fun t47 =>
 extC t46 1 fun vt48 => asB vt48 fun t48 =>
 let t9 := AV.ptr (HP.nxQ h17) 0
 let h18 := HP.newQ h17 (.cells true [(.bool false), (.bool false), (.bool false), (.str []), (kI 0), (kI 0), .nils, (.bool false), .nils, (kI 0), .nils, .nils, (.str []), (kI 0), (kI 0), (kI 0), (kI 0), (.str []), (kI 0)])
 stsC 19 t9 t47 h18 fun h19 =>
 faC 0 t3 fun t49 =>
 ldI t49 h19 fun t50 =>
 let t51 := eqQ t50 (Int.ofNat 3)
 br t51 (
 let t53 := !t48
 obB (brV t53 (
 some (vB true)) (
 let t55 := (AV.ptr (HP.nxQ h17) (Nat.add 0 0))
 let t56 := (AV.ptr (HP.nxQ h17) (Nat.add (Nat.add 0 0) 0))
 ldBV t56 h19 fun t57 =>
 some (vB t57))) fun t58 =>
 br t58 (
 cellsC 7 t2 h19 fun t59 =>
 faC 7 t3 fun t60 =>
 ldI t60 h19 fun t61 =>
 cellsC 8 t3 h19 fun t63 =>
 cal D 86 [t59, (vI (Int.ofNat 13)), (vI t61)] h19 fun t62 h40 =>
 br (again [⟨none, .cells 8 q3, p63⟩] (mkT [(p63, t63), (p3, t3)]) h40) (
 stsC 7 t4 t62 h40 fun h41 =>
 br (againE (.stores 7 q4 q62) [⟨none, .cells 8 q3, p63⟩] (mkT [(p4, t4), (p63, t63), (p3, t3)]) h41) (
 stsC 8 t5 t63 h41 fun h42 =>
 cellsC 7 t4 h42 fun t4a =>
 cellsC 8 t5 h42 fun t5a =>
 some (.ret (.tup [t4a, t5a]) h42, .no)) none) none) (
 let t64 := (AV.ptr (HP.nxQ h17) (Nat.add 0 17))
 ldS t64 h19 fun t65 =>
 faC 2 t3 fun t66 =>
 stoC t66 (vS t65) h19 fun h43 =>
 let t67 := (AV.ptr (HP.nxQ h17) (Nat.add 0 0))
 let t68 := (AV.ptr (HP.nxQ h17) (Nat.add (Nat.add 0 0) 4))
 ldI t68 h43 fun t69 =>
 faC 6 t3 fun t70 =>
 stoC t70 (vI t69) h43 fun h44 =>
 let t71 := (AV.ptr (HP.nxQ h17) (Nat.add 0 0))
 let t72 := (AV.ptr (HP.nxQ h17) (Nat.add (Nat.add 0 0) 5))
 ldI t72 h44 fun t73 =>
 let t74 := ltQ (Int.ofNat 0) t73
 br t74 (
 let t75 := (AV.ptr (HP.nxQ h17) (Nat.add 0 0))
 let t76 := (AV.ptr (HP.nxQ h17) (Nat.add (Nat.add 0 0) 4))
 ldI t76 h44 fun t77 =>
 cal D 204 [(vI t77)] h44 fun t78 h47 =>
 asI .i64 t78 fun t78a =>
 faC 6 t3 fun t79 =>
 stoC t79 (vI t78a) h47 fun h48 =>
 faC 3 t3 fun t80 =>
 stoC t80 (vW (Int.ofNat 1)) h48 fun h49 =>
 S167_7 D m t2 t3 t4 t5 h49) (
 S167_7 D m t2 t3 t4 t5 h44))) (
 S167_1 D m t2 t3 t4 t5 t9 t48 h19))
def e167_8 (k t2 t3 t4 t5 t6 t15 t16 h) := kN k [(p2, t2), (p3, t3), (p4, t4), (p5, t5), (p6, t6), (p15, (vI t15)), (p16, (vI t16))] h
def S167_8b (D : CallD) (m : Nat) (g8 : AV → AV → AV → AV → AV → Int → Int → HP → Res2) (t2 t3 t4 t5 t6 : AV) (t15 t16 : Int) (h : HP) : Res2 :=
 let t17 := ltQ t16 t15
 br t17 (
 let t19 := (AV.agg [(vI (Int.ofNat 0)), (vS ([] : LN)), (vS ([] : LN)), (vW (Int.ofNat 0)), (AV.int .u64 (Int.ofNat 0)), (.nils : AV), (vI (Int.ofNat 0)), (vI (Int.ofNat 0))])
 let t8 := AV.ptr (HP.nxQ h) 0
 let h50 := HP.newQ h (.cells true [(kI 0), (.str []), (.str []), (.int .u32 (.ofNat 0)), (.int .u64 (.ofNat 0)), .nils, (kI 0), (kI 0)])
 stsC 8 t8 t19 h50 fun h51 =>
 cellsC 7 t2 h51 fun t21 =>
 faC 5 t3 fun t22 =>
 cellC t22 h51 fun t23 =>
 iasC 8 t23 (vI t16) fun t25 =>
 cellsC 8 t25 h51 fun t26 =>
 cal D 167 [t21, t26] h51 fun t27 h52 =>
 extC t27 0 fun t28 =>
 extC t27 1 fun t29 =>
 stsC 7 t2 t28 h52 fun h53 =>
 stsC 8 t8 t29 h53 fun h54 =>
 cellsC 8 t8 h54 fun t31 =>
 obQ (evA (.bsl [(kI 0), (.str []), (.str []), (.int .u32 (.ofNat 0)), (.int .u64 (.ofNat 0)), .nils, (kI 0), (kI 0)] 1 [⟨0, 8, (.c t31)⟩]) .leaf) fun r55 =>
 let t32 := vkV r55.2 (HP.nxQ h54)
 let h56 := HP.newQ h54 r55.1
 eff (.app 8 96 (.c t6) (.c t32)) h56 fun t33 h57 =>
 let t34 := wrQ .i64 (addQ t16 (Int.ofNat 1))
 g8 t2 t3 t4 t5 t33 t15 t34 h57) (
 S167_0 D m t2 t3 t4 t5 t6 h)
def S167_8 (D : CallD) (m : Nat) : AV → AV → AV → AV → AV → Int → Int → HP → Res2 := nrec (fun _ _ _ _ _ _ _ _ => none) (fun _ g => S167_8b D m g) m
def e167_9 (k t0 t1 h) := kN k [(p0, t0), (p1, t1)] h
def S167_9 (D : CallD) (m : Nat) (t0 t1 : AV) (h : HP) : Res2 :=
 let t2 := AV.ptr (HP.nxQ h) 0
 let h10 := HP.newQ h (.cells true (AV.cells t0))
 let t3 := AV.ptr (HP.nxQ h10) 0
 let h11 := HP.newQ h10 (.cells true (AV.cells t1))
 let t4 := AV.ptr (HP.nxQ h11) 0
 let h12 := HP.newQ h11 (.cells true [.nils, (kI 0), (kI 0), (kI 0), (kI 0), (kI 0), (kI 0)])
 let t5 := AV.ptr (HP.nxQ h12) 0
 let h13 := HP.newQ h12 (.cells true [(kI 0), (.str []), (.str []), (.int .u32 (.ofNat 0)), (.int .u64 (.ofNat 0)), .nils, (kI 0), (kI 0)])
 let t13 := (AV.ptr (HP.nxQ h10) (Nat.add 0 5))
 cellC t13 h13 fun t14 =>
 lenC t14 fun vt15 => asI .i64 vt15 fun t15 =>
 S167_8 D m t2 t3 t4 t5 (.nils : AV) t15 (Int.ofNat 0) h13
def S167 : SFn := fun D m args h u => nou u <| popV args fun t0 args => popV args fun t1 args => endA args (S167_9 D m t0 t1 h)
theorem T167_3 (hE : FX x167 D m E) : S167_3 D m = e167_3 (E c167_3 []) := by unfold S167_3; rw [hE c167_3]; kernel_rfl
theorem T167_2 (hE : FX x167 D m E) : S167_2 D m = e167_2 (E c167_2 []) := by unfold S167_2; rw [T167_3 hE, hE c167_2]; kernel_rfl
theorem T167_4 (hE : FX x167 D m E) : S167_4 D m = e167_4 (E c167_4 [.sj v167_2 c167_2]) := by unfold S167_4; rw [hE c167_4]; kernel_rfl
theorem T167_6 (hE : FX x167 D m E) (G5) : S167_6 D m (e167_5 G5) = e167_6 (E c167_6 [.lp v167_5 G5, .blk 2, .sj v167_4 c167_4, .sj v167_2 c167_2]) := by unfold S167_6; rw [hE c167_6]; kernel_rfl
theorem T167_5b (hE : FX x167 D m E) (G5) : S167_5b D m (e167_5 G5) = e167_5 (E c167_5b [.lp v167_5 G5, .blk 2, .sj v167_4 c167_4, .sj v167_2 c167_2]) := by unfold S167_5b; rw [T167_6 hE G5, T167_4 hE, hE c167_5b]; kernel_rfl
theorem T167_5 (hE : FX x167 D m E) : S167_5 D m = e167_5 (nrec (fun _ => none) (fun _ G5 st => E c167_5b [.lp v167_5 G5, .blk 2, .sj v167_4 c167_4, .sj v167_2 c167_2] st) m) :=
  nrec_emb e167_5 (fun _ _ _ _ _ _ _ _ => none) (fun g => S167_5b D m g) (fun G5 st => E c167_5b [.lp v167_5 G5, .blk 2, .sj v167_4 c167_4, .sj v167_2 c167_2] st) rfl (fun g => T167_5b hE g) m
theorem T167_1 (hE : FX x167 D m E) : S167_1 D m = e167_1 (E c167_1 []) := by unfold S167_1; rw [T167_5 hE, T167_2 hE, hE c167_1]; kernel_rfl
theorem T167_7 (hE : FX x167 D m E) : S167_7 D m = e167_7 (E c167_7 [.sj v167_1 c167_1]) := by unfold S167_7; rw [hE c167_7]; kernel_rfl
theorem T167_0 (hE : FX x167 D m E) : S167_0 D m = e167_0 (E c167_0 []) := by unfold S167_0; rw [T167_7 hE, T167_1 hE, hE c167_0]; kernel_rfl
theorem T167_8b (hE : FX x167 D m E) (G8) : S167_8b D m (e167_8 G8) = e167_8 (E c167_8b [.lp v167_8 G8, .blk 0, .sj v167_0 c167_0]) := by unfold S167_8b; rw [T167_0 hE, hE c167_8b]; kernel_rfl
theorem T167_8 (hE : FX x167 D m E) : S167_8 D m = e167_8 (nrec (fun _ => none) (fun _ G8 st => E c167_8b [.lp v167_8 G8, .blk 0, .sj v167_0 c167_0] st) m) :=
  nrec_emb e167_8 (fun _ _ _ _ _ _ _ _ => none) (fun g => S167_8b D m g) (fun G8 st => E c167_8b [.lp v167_8 G8, .blk 0, .sj v167_0 c167_0] st) rfl (fun g => T167_8b hE g) m
theorem T167_9 (hE : FX x167 D m E) : S167_9 D m = e167_9 (E c167_e []) := by unfold S167_9; rw [T167_8 hE, hE c167_e]; kernel_rfl
theorem X167 : XTie S167 x167 := X_of fun D m E hE args h u => by unfold S167; rw [T167_9 hE]; kernel_rfl
/- 168 -/
def c168_2 : XC := (.s .ret)
def l168_1 : XL := (XL.of [.o ⟨none, (.e (.stores 8 q4 q21)), none, [⟨(some (p24, true)), .cell q25, p26⟩]⟩ .v, .mv p5 q29 .b])
def v168_0 : List Pos := [p1, p2, p4]
def c168_0 : XC := (.opq true (XL.pre [.L p21 (.cells 8 q2) .v, .mv p22 q1 tI, .bn p23 .neq q22 (ci 0) .b, .mv p24 q23 .b, .sp p24, .G p24 true p25 (.faddr 6 q2) .v, .o ⟨(some p26), (.l (.cell q25)), (some (p24, true)), []⟩ tI, .G p24 true p27 (.mov q1) tI, .G p24 true p28 (.bin .eql q26 q27) .b, .P p29 (.pick q24 q28 (cb false)) .b, .jn p24 [p4, p21, p24, p25, p26, p29]] l168_1) c168_2)
def c168_e : XC := (.sO [.al p2 (.box q0), .al p4 (.new [(kI 0), (.str []), (.str []), (.int .u32 (.ofNat 0)), (.int .u64 (.ofNat 0)), .nils, (kI 0), (kI 0)]), .mv p5 (cb false) .b] (.sj v168_0 (.sO [.mv p6 q1 tI, .cl p7 206 [q6] tI, .bn p8 .neq q7 (ci 0) .b, .mv p9 q8 .b, .ge p9 (XL.of [.G p9 true p10 (.faddr 0 q2) .v, .o ⟨(some p11), (.l (.cell q10)), (some (p9, true)), []⟩ tI, .G p9 true p12 (.bin .eql q11 (ci 1)) .b, .P p13 (.pick q9 q12 (cb false)) .b]) p13 .b, .mv p14 q13 .b, .ge p14 (XL.of [.G p14 true p15 (.faddr 3 q2) .v, .o ⟨(some p16), (.l (.cell q15)), (some (p14, true)), []⟩ tW, .G p14 true p17 (.bin .eql q16 (.c (.int .u32 (.ofNat 0)))) .b, .P p18 (.pick q14 q17 (cb false)) .b]) p18 .b] (.cond q18 (.s (.oX [.mv p19 q1 tI, .fa p20 6 q2, .st q20 q19])) (.s .skip))) c168_0))
def x168 : XFn := ⟨[.v, tI], false, [(.cells 8 p4), (.tmp p5)], c168_e⟩
def e168_1 (k t4 t21 t24 t25 t26 t29 h) := kN k [(p4, t4), (p21, t21), (p24, (vB t24)), (p25, t25), (p26, t26), (p29, (vB t29))] h
def S168_1 (D : CallD) (m : Nat) (t4 t21 : AV) (t24 : Bool) (t25 t26 : AV) (t29 : Bool) (h : HP) : Res2 :=
 stsC 8 t4 t21 h fun h6 =>
 br (againE (.stores 8 q4 q21) [⟨(some (p24, true)), .cell q25, p26⟩] (mkT [(p4, t4), (p26, t26), (p24, (vB t24)), (p25, t25)]) h6) (
 cellsC 8 t4 h6 fun t4a =>
 some (.ret (.tup [t4a, (vB t29)]) h6, .no)) none
def e168_0 (k t1 t2 t4 h) := kN k [(p1, (vI t1)), (p2, t2), (p4, t4)] h
def S168_0 (D : CallD) (m : Nat) (t1 : Int) (t2 t4 : AV) (h : HP) : Res2 :=
 cellsC 8 t2 h fun t21 =>
 let t23 := notQ (eqQ t1 (Int.ofNat 0))
 br t23 (
 faC 6 t2 fun t25 =>
 ldI t25 h fun t26 =>
 let t28 := eqQ t26 t1
 S168_1 D m t4 t21 true t25 (vI t26) t28 h) (
 S168_1 D m t4 t21 false (.tup [] : AV) (.tup [] : AV) false h)
def e168_3 (k t0 t1 h) := kN k [(p0, t0), (p1, (vI t1))] h
def S168_3 (D : CallD) (m : Nat) (t0 : AV) (t1 : Int) (h : HP) : Res2 :=
 let t2 := AV.ptr (HP.nxQ h) 0
 let h4 := HP.newQ h (.cells true (AV.cells t0))
 let t4 := AV.ptr (HP.nxQ h4) 0
 let h5 := HP.newQ h4 (.cells true [(kI 0), (.str []), (.str []), (.int .u32 (.ofNat 0)), (.int .u64 (.ofNat 0)), .nils, (kI 0), (kI 0)])
 cal D 206 [(vI t1)] h5 fun t7 h7 =>
 asI .i64 t7 fun t7a =>
 let t8 := notQ (eqQ t7a (Int.ofNat 0))
 obB (brV t8 (
 let t10 := (AV.ptr (HP.nxQ h) (Nat.add 0 0))
 ldIV t10 h7 fun t11 =>
 let t12 := eqQ t11 (Int.ofNat 1)
 some (vB t12)) (
 some (vB false))) fun t13 =>
 obB (brV t13 (
 let t15 := (AV.ptr (HP.nxQ h) (Nat.add 0 3))
 ldWV t15 h7 fun t16 =>
 let t17 := eqQ t16 (Int.ofNat 0)
 some (vB t17)) (
 some (vB false))) fun t18 =>
 br t18 (
 let t20 := (AV.ptr (HP.nxQ h) (Nat.add 0 6))
 stoC t20 (vI t1) h7 fun h8 =>
 S168_0 D m t1 t2 t4 h8) (
 S168_0 D m t1 t2 t4 h7)
def S168 : SFn := fun D m args h u => nou u <| popV args fun t0 args => popI .i64 args fun t1 args => endA args (S168_3 D m t0 t1 h)
theorem T168_1 (hE : FX x168 D m E) : S168_1 D m = e168_1 (E (.opq true l168_1 c168_2) []) := by unfold S168_1; rw [hE (.opq true l168_1 c168_2)]; kernel_rfl
theorem T168_0 (hE : FX x168 D m E) : S168_0 D m = e168_0 (E c168_0 []) := by unfold S168_0; rw [T168_1 hE, hE c168_0]; kernel_rfl
theorem T168_3 (hE : FX x168 D m E) : S168_3 D m = e168_3 (E c168_e []) := by unfold S168_3; rw [T168_0 hE, hE c168_e]; kernel_rfl
theorem X168 : XTie S168 x168 := X_of fun D m E hE args h u => by unfold S168; rw [T168_3 hE]; kernel_rfl
/- 169 -/
def v169_0 : List Pos := [p2, p3, p4, p5, p6]
def c169_0 : XC := (.sO [.mv p241 q6 .v, .fa p242 1 q3, .st q242 q241] (.seq (.ops true (XL.of [.L p243 (.cells 7 q2) .v, .L p244 (.cells 7 q3) .v, .o ⟨none, (.e (.stores 7 q4 q243)), none, [⟨none, .cells 7 q3, p244⟩]⟩ .v, .ss 7 q5 q244])) (.s .ret)))
def v169_2 : List Pos := [p2, p3, p4, p5, p6, p7]
def c169_2 : XC := (.sO [.mv p86 q7 .v, .fa p87 2 q3, .st q87 q86] (.s (.oX [.fa p88 4 q2, .ld p89 q88 tI, .fa p90 0 q3, .ld p91 q90 tI, .bn p92 .sub q89 q91 tI, .bn p93 .add q92 (ci 2) tI, .fa p94 4 q2, .st q94 q93])))
def v169_3 : List Pos := [p2, p3, p4, p5, p6, p7, p63, p64]
def c169_3b : XC := (.sO [.bn p65 .lss q64 q63 .b] (.seq (.cond q65 .skip (.exit 1)) (.seq (.block 2 (.seq (.oX [.mv p66 q64 tI, .mv p8 q66 tI]) (.seq (.oX [.P p67 (.build [(kI 0), .nils, .nils, (.str []), (kI 0), (kI 0), (kI 0)] []) .v, .al p9 (.new [(kI 0), .nils, .nils, (.str []), (kI 0), (kI 0), (kI 0)]), .ss 7 q9 q67]) (.seq (.ops true (XL.of [.L p69 (.cells 7 q2) .v, .fa p71 2 q3, .ld p72 q71 .v, .mv p73 q8 tI, .P p74 (.iaddr (.sl 7) q72 q73) .v, .L p75 (.cells 7 q74) .v, .o ⟨(some p70), (.call (.fn 129) [q69]), none, [⟨none, .cell q71, p72⟩, ⟨none, .cells 7 q74, p75⟩]⟩ .v, .cl p76 169 [q70, q75] .v, .mv p68 q76 .v, .P p77 (.ext q68 0) .v, .P p78 (.ext q68 1) .v, .ss 7 q2 q77, .ss 7 q9 q78])) (.seq (.oX [.L p79 (.cells 7 q2) .v, .cl p80 134 [q79] .v, .ss 7 q2 q80]) (.oX [.mv p81 q7 .v, .L p82 (.cells 7 q9) .v, .al p83 (.bsl [(kI 0), .nils, .nils, (.str []), (kI 0), (kI 0), (kI 0)] 1 [⟨0, 7, q82⟩]), .o ⟨(some p84), (.e (.app 7 96 q81 q83)), none, []⟩ .v, .mv p7 q84 .v])))))) (.s (.oX [.bn p85 .add q64 (ci 1) tI, .mv p64 q85 tI])))))
def v169_4 : List Pos := [p2, p3, p4, p5, p6]
def c169_4 : XC := (.sO [.mv p109 q6 .v, .P p110 (.lenl q109) tI, .bn p111 .gtr q110 (ci 0) .b] (.cond q111 (.s (.ops true (XL.of [.mv p113 q6 .v, .L p114 (.cells 7 q2) .v, .mv p115 q6 .v, .P p116 (.iaddr (.sl 8) q115 (ci 0)) .v, .L p117 (.cells 8 q116) .v, .fa p118 2 q2, .ld p119 q118 tI, .fa p120 6 q3, .ld p121 q120 tI, .cl p122 132 [q114, q117, q119, q121] .v, .mv p112 q122 .v, .P p123 (.ext q112 0) .v, .P p124 (.ext q112 1) .v, .ss 7 q2 q123, .P p125 (.iaddr (.sl 8) q113 (ci 0)) .v, .ss 8 q125 q124]))) (.s .skip)))
def v169_8 : List Pos := [p2, p3, p4, p5, p6]
def c169_8 : XC := (.s (.oX [.L p229 (.cells 7 q2) .v, .fa p230 3 q3, .ld p231 q230 .s, .fa p232 4 q3, .ld p233 q232 tI, .fa p234 5 q3, .ld p235 q234 tI, .P p236 (.build [(.bool false), (.bool false), (.bool false), (.str []), (kI 0), (kI 0), .nils, (.bool false), .nils, (kI 0), .nils, .nils, (.str []), (kI 0), (kI 0), (kI 0), (kI 0)] [⟨3, 1, q231⟩, ⟨4, 1, q233⟩, ⟨5, 1, q235⟩]) .v, .cl p237 131 [q229, q236] .v, .mv p228 q237 .v, .P p238 (.ext q228 0) .v, .P p239 (.ext q228 1) .s, .ss 7 q2 q238, .fa p240 3 q3, .st q240 q239]))
def c169_11 : XC := (.cond q223 (.s (.oX [.L p224 (.cells 7 q2) .v, .fa p225 6 q3, .ld p226 q225 tI, .cl p227 86 [q224, (ci 14), q226] .v, .ss 7 q2 q227])) (.s .skip))
def l169_10 : XL := (XL.of [])
def l169_9 : XL := (XL.pre [.P p223 (.pick q208 (cb true) q222) .b, .jn p208 [p2, p3, p4, p5, p6, p223]] l169_10)
def v169_7 : List Pos := [p2, p3, p4, p5, p6, p12]
def c169_7 : XC := (.sj v169_8 (.opq false (XL.pre [.mv p201 q12 .b, .P p202 (.un .not q201) .b, .mv p203 q202 .b, .ge p203 (XL.of [.G p203 false p204 (.faddr 4 q3) .v, .o ⟨(some p205), (.l (.cell q204)), (some (p203, false)), []⟩ tI, .G p203 false p206 (.bin .eql q205 (ci 0)) .b, .P p207 (.pick q203 (cb true) q206) .b]) p207 .b, .mv p208 q207 .b, .sp p208, .G p208 false p209 (.faddr 5 q3) .v, .o ⟨(some p210), (.l (.cell q209)), (some (p208, false)), []⟩ tI, .G p208 false p211 (.bin .gtr q210 (ci 0)) .b, .G p208 false p212 (.mov q211) .b, .sp p212, .G p212 true p213 (.faddr 4 q3) .v, .o ⟨(some p214), (.l (.cell q213)), (some (p212, true)), []⟩ tI, .o ⟨(some p215), (.call (.fn 128) [q214]), (some (p212, true)), []⟩ .b, .G p212 true p216 (.un .not q215) .b, .G p212 true p217 (.mov q216) .b, .ge p217 (XL.of [.G p217 false p218 (.mov q6) .v, .G p217 false p219 (.lenl q218) tI, .G p217 false p220 (.bin .gtr q219 (ci 0)) .b, .G p212 true p221 (.pick q217 (cb true) q220) .b]) p221 .b, .G p208 false p222 (.pick q212 q221 (cb false)) .b, .jn p212 [p2, p3, p4, p5, p6, p208, p222]] l169_9) c169_11) c169_8)
def v169_6 : List Pos := [p2, p3, p4, p5, p6]
def c169_6 : XC := (.sO [.mv p12 (cb true) .b] (.sj v169_7 (.sO [.mv p172 q6 .v, .P p173 (.lenl q172) tI, .bn p174 .gtr q173 (ci 0) .b, .mv p175 q174 .b, .ge p175 (XL.of [.G p175 true p176 (.faddr 5 q2) .v, .o ⟨(some p177), (.l (.cell q176)), (some (p175, true)), []⟩ tI, .G p175 true p178 (.bin .eql q177 (ci 0)) .b, .P p179 (.pick q175 q178 (cb false)) .b]) p179 .b] (.cond q179 (.seq (.ops true (XL.of [.mv p181 q6 .v, .L p182 (.cells 7 q2) .v, .mv p183 q6 .v, .P p184 (.iaddr (.sl 8) q183 (ci 0)) .v, .L p185 (.cells 8 q184) .v, .cl p186 167 [q182, q185] .v, .mv p180 q186 .v, .P p187 (.ext q180 0) .v, .P p188 (.ext q180 1) .v, .ss 7 q2 q187, .P p189 (.iaddr (.sl 8) q181 (ci 0)) .v, .ss 8 q189 q188])) (.s (.ops true (XL.of [.mv p191 q6 .v, .mv p192 q6 .v, .P p193 (.iaddr (.sl 8) q192 (ci 0)) .v, .L p194 (.cells 8 q193) .v, .fa p195 4 q3, .ld p196 q195 tI, .cl p197 168 [q194, q196] .v, .mv p190 q197 .v, .P p198 (.ext q190 0) .v, .P p199 (.ext q190 1) .b, .P p200 (.iaddr (.sl 8) q191 (ci 0)) .v, .ss 8 q200 q198, .mv p12 q199 .b])))) (.s .skip))) c169_7))
def v169_5 : List Pos := [p2, p3, p4, p5, p6, p23, p126]
def c169_5 : XC := (.cond q126 (.sO [.fa p129 4 q2, .ld p130 q129 tI, .bn p131 .eql q130 (ci 0) .b] (.cond q131 (.s (.oX [.L p132 (.cells 7 q2) .v, .fa p133 6 q3, .ld p134 q133 tI, .cl p135 86 [q132, (ci 14), q134] .v, .ss 7 q2 q135])) (.s .skip))) (.sO [.bn p137 .eql q23 (ci 7) .b, .mv p136 q137 .b] (.cond q136 (.sO [.mv p138 q6 .v, .P p139 (.lenl q138) tI, .bn p140 .gtr q139 (ci 0) .b] (.cond q140 (.s (.ops true (XL.of [.mv p142 q6 .v, .L p143 (.cells 7 q2) .v, .mv p144 q6 .v, .P p145 (.iaddr (.sl 8) q144 (ci 0)) .v, .L p146 (.cells 8 q145) .v, .cl p147 167 [q143, q146] .v, .mv p141 q147 .v, .P p148 (.ext q141 0) .v, .P p149 (.ext q141 1) .v, .ss 7 q2 q148, .P p150 (.iaddr (.sl 8) q142 (ci 0)) .v, .ss 8 q150 q149]))) (.s .skip))) (.sO [.bn p152 .eql q23 (ci 8) .b, .mv p151 q152 .b] (.cond q151 (.sO [.L p154 (.cells 7 q2) .v, .fa p155 3 q3, .ld p156 q155 .s, .cl p157 130 [q154, q156] .v, .mv p153 q157 .v, .P p158 (.ext q153 0) .v, .P p159 (.ext q153 1) .b, .al p10 (.new [(.bool false), (.bool false), (.bool false), (.str []), (kI 0), (kI 0), .nils, (.bool false), .nils, (kI 0), .nils, .nils, (.str []), (kI 0), (kI 0), (kI 0), (kI 0), (.str []), (kI 0)]), .ss 19 q10 q158, .mv p11 q159 .b] (.sj v169_6 (.sO [.mv p160 q11 .b, .mv p161 q160 .b, .ge p161 (XL.of [.G p161 true p162 (.faddr 18 q10) .v, .o ⟨(some p163), (.l (.cell q162)), (some (p161, true)), []⟩ tI, .G p161 true p164 (.faddr 1 q2) .v, .o ⟨(some p165), (.l (.cell q164)), (some (p161, true)), []⟩ tI, .G p161 true p166 (.bin .eql q163 q165) .b, .P p167 (.pick q161 q166 (cb false)) .b]) p167 .b] (.cond q167 (.s (.oX [.L p168 (.cells 7 q2) .v, .fa p169 6 q3, .ld p170 q169 tI, .cl p171 86 [q168, (ci 13), q170] .v, .ss 7 q2 q171])) (.s .skip))) c169_6)) (.s .skip))))))
def v169_1 : List Pos := [p2, p3, p4, p5, p6, p23, p37]
def c169_1 : XC := (.cond q37 (.seq (.ops true (XL.of [.mv p41 q6 .v, .L p42 (.cells 7 q2) .v, .mv p43 q6 .v, .P p44 (.iaddr (.sl 8) q43 (ci 0)) .v, .L p45 (.cells 8 q44) .v, .mv p46 q6 .v, .P p47 (.iaddr (.sl 8) q46 (ci 0)) .v, .fa p48 7 q47, .ld p49 q48 tI, .cl p50 132 [q42, q45, (ci 1), q49] .v, .mv p40 q50 .v, .P p51 (.ext q40 0) .v, .P p52 (.ext q40 1) .v, .ss 7 q2 q51, .P p53 (.iaddr (.sl 8) q41 (ci 0)) .v, .ss 8 q53 q52])) (.sO [.fa p54 4 q2, .ld p55 q54 tI, .fa p56 0 q3, .ld p57 q56 tI, .bn p58 .add q55 q57 tI, .bn p59 .sub q58 (ci 2) tI, .fa p60 4 q2, .st q60 q59] (.sO [.mv p7 (.c .nils) .v] (.sj v169_2 (.sO [.fa p61 2 q3, .ld p62 q61 .v, .P p63 (.lenl q62) tI, .mv p64 (ci 0) tI] (.block 1 (.loop v169_3 c169_3b))) c169_2)))) (.sO [.bn p96 .eql q23 (ci 4) .b, .mv p95 q96 .b] (.cond q95 (.sj v169_4 (.sO [.mv p97 q6 .v, .P p98 (.lenl q97) tI, .bn p99 .eql q98 (ci 0) .b, .mv p100 q99 .b, .ge p100 (XL.of [.G p100 true p101 (.faddr 2 q2) .v, .o ⟨(some p102), (.l (.cell q101)), (some (p100, true)), []⟩ tI, .G p100 true p103 (.bin .neq q102 (ci 0)) .b, .P p104 (.pick q100 q103 (cb false)) .b]) p104 .b] (.cond q104 (.s (.oX [.L p105 (.cells 7 q2) .v, .fa p106 6 q3, .ld p107 q106 tI, .cl p108 86 [q105, (ci 14), q107] .v, .ss 7 q2 q108])) (.s .skip))) c169_4) (.sj v169_5 (.sO [.bn p127 .eql q23 (ci 5) .b, .mv p126 q127 .b] (.cond q126 (.s .skip) (.s (.oX [.bn p128 .eql q23 (ci 6) .b, .mv p126 q128 .b])))) c169_5))))
def c169_e : XC := (.sO [.al p2 (.box q0), .al p3 (.box q1), .al p4 (.new [.nils, (kI 0), (kI 0), (kI 0), (kI 0), (kI 0), (kI 0)]), .al p5 (.new [(kI 0), .nils, .nils, (.str []), (kI 0), (kI 0), (kI 0)])] (.seq (.seq (.oX [.fa p13 5 q2, .ld p14 q13 tI, .bn p15 .neq q14 (ci 0) .b]) (.cond q15 (.seq (.ops true (XL.of [.L p16 (.cells 7 q2) .v, .L p17 (.cells 7 q3) .v, .o ⟨none, (.e (.stores 7 q4 q16)), none, [⟨none, .cells 7 q3, p17⟩]⟩ .v, .ss 7 q5 q17])) .ret) .skip)) (.sO [.al p18 (.bsl [] 0 []), .fa p19 1 q3, .ld p20 q19 .v, .o ⟨(some p21), (.e (.app 8 96 q18 q20)), none, []⟩ .v, .mv p6 q21 .v] (.sj v169_0 (.sO [.fa p22 0 q3, .ld p23 q22 tI] (.block 0 (.sO [.bn p25 .eql q23 (ci 1) .b, .mv p24 q25 .b] (.cond q24 (.seq (.ops true (XL.of [.L p27 (.cells 7 q2) .v, .fa p29 2 q3, .ld p30 q29 .v, .o ⟨(some p28), (.call (.fn 129) [q27]), none, [⟨none, .cell q29, p30⟩]⟩ .v, .cl p31 133 [q28, q30] .v, .mv p26 q31 .v, .P p32 (.ext q26 0) .v, .P p33 (.ext q26 1) .v, .ss 7 q2 q32, .fa p34 2 q3, .st q34 q33])) (.s (.oX [.L p35 (.cells 7 q2) .v, .cl p36 134 [q35] .v, .ss 7 q2 q36]))) (.sj v169_1 (.sO [.bn p38 .eql q23 (ci 2) .b, .mv p37 q38 .b] (.cond q37 (.s .skip) (.s (.oX [.bn p39 .eql q23 (ci 3) .b, .mv p37 q39 .b])))) c169_1))))) c169_0))))
def x169 : XFn := ⟨[.v, .v], false, [(.cells 7 p4), (.cells 7 p5)], c169_e⟩
def e169_0 (k t2 t3 t4 t5 t6 h) := kN k [(p2, t2), (p3, t3), (p4, t4), (p5, t5), (p6, t6)] h
def S169_0 (D : CallD) (m : Nat) (t2 t3 t4 t5 t6 : AV) (h : HP) : Res2 :=
 faC 1 t3 fun t242 =>
 stoC t242 t6 h fun h21 =>
 cellsC 7 t2 h21 fun t243 =>
 cellsC 7 t3 h21 fun t244 =>
 stsC 7 t4 t243 h21 fun h22 =>
 br (againE (.stores 7 q4 q243) [⟨none, .cells 7 q3, p244⟩] (mkT [(p4, t4), (p244, t244), (p3, t3)]) h22) (
 stsC 7 t5 t244 h22 fun h23 =>
 cellsC 7 t4 h23 fun t4a =>
 cellsC 7 t5 h23 fun t5a =>
 some (.ret (.tup [t4a, t5a]) h23, .no)) none
def e169_2 (k t2 t3 t4 t5 t6 t7 h) := kN k [(p2, t2), (p3, t3), (p4, t4), (p5, t5), (p6, t6), (p7, t7)] h
def S169_2 (D : CallD) (m : Nat) (t2 t3 t4 t5 t6 t7 : AV) (h : HP) : Res2 :=
 faC 2 t3 fun t87 =>
 stoC t87 t7 h fun h34 =>
 faC 4 t2 fun t88 =>
 ldI t88 h34 fun t89 =>
 faC 0 t3 fun t90 =>
 ldI t90 h34 fun t91 =>
 let t92 := wrQ .i64 (t89 - t91)
 let t93 := wrQ .i64 (addQ t92 (Int.ofNat 2))
 faC 4 t2 fun t94 =>
 stoC t94 (vI t93) h34 fun h35 =>
 S169_0 D m t2 t3 t4 t5 t6 h35
def e169_3 (k t2 t3 t4 t5 t6 t7 t63 t64 h) := kN k [(p2, t2), (p3, t3), (p4, t4), (p5, t5), (p6, t6), (p7, t7), (p63, (vI t63)), (p64, (vI t64))] h
def S169_3b (D : CallD) (m : Nat) (g3 : AV → AV → AV → AV → AV → AV → Int → Int → HP → Res2) (t2 t3 t4 t5 t6 t7 : AV) (t63 t64 : Int) (h : HP) : Res2 :=
 let t65 := ltQ t64 t63
 br t65 (
 let t67 := (AV.agg [(vI (Int.ofNat 0)), (.nils : AV), (.nils : AV), (vS ([] : LN)), (vI (Int.ofNat 0)), (vI (Int.ofNat 0)), (vI (Int.ofNat 0))])
 let t9 := AV.ptr (HP.nxQ h) 0
 let h36 := HP.newQ h (.cells true [(kI 0), .nils, .nils, (.str []), (kI 0), (kI 0), (kI 0)])
 stsC 7 t9 t67 h36 fun h37 =>
 cellsC 7 t2 h37 fun t69 =>
 faC 2 t3 fun t71 =>
 cellC t71 h37 fun t72 =>
 iasC 7 t72 (vI t64) fun t74 =>
 cellsC 7 t74 h37 fun t75 =>
 cal D 129 [t69] h37 fun t70 h38 =>
 br (again [⟨none, .cell q71, p72⟩, ⟨none, .cells 7 q74, p75⟩] (mkT [(p75, t75), (p74, t74), (p72, t72), (p71, t71)]) h38) (
 cal D 169 [t70, t75] h38 fun t76 h39 =>
 extC t76 0 fun t77 =>
 extC t76 1 fun t78 =>
 stsC 7 t2 t77 h39 fun h40 =>
 stsC 7 t9 t78 h40 fun h41 =>
 cellsC 7 t2 h41 fun t79 =>
 cal D 134 [t79] h41 fun t80 h42 =>
 stsC 7 t2 t80 h42 fun h43 =>
 cellsC 7 t9 h43 fun t82 =>
 obQ (evA (.bsl [(kI 0), .nils, .nils, (.str []), (kI 0), (kI 0), (kI 0)] 1 [⟨0, 7, (.c t82)⟩]) .leaf) fun r44 =>
 let t83 := vkV r44.2 (HP.nxQ h43)
 let h45 := HP.newQ h43 r44.1
 eff (.app 7 96 (.c t7) (.c t83)) h45 fun t84 h46 =>
 let t85 := wrQ .i64 (addQ t64 (Int.ofNat 1))
 g3 t2 t3 t4 t5 t6 t84 t63 t85 h46) none) (
 S169_2 D m t2 t3 t4 t5 t6 t7 h)
def S169_3 (D : CallD) (m : Nat) : AV → AV → AV → AV → AV → AV → Int → Int → HP → Res2 := nrec (fun _ _ _ _ _ _ _ _ _ => none) (fun _ g => S169_3b D m g) m
def e169_4 (k t2 t3 t4 t5 t6 h) := kN k [(p2, t2), (p3, t3), (p4, t4), (p5, t5), (p6, t6)] h
def S169_4 (D : CallD) (m : Nat) (t2 t3 t4 t5 t6 : AV) (h : HP) : Res2 :=
 lenC t6 fun vt110 => asI .i64 vt110 fun t110 =>
 let t111 := ltQ (Int.ofNat 0) t110
 br t111 (
 cellsC 7 t2 h fun t114 =>
 iasC 8 t6 (vI (Int.ofNat 0)) fun t116 =>
 cellsC 8 t116 h fun t117 =>
 faC 2 t2 fun t118 =>
 ldI t118 h fun t119 =>
 faC 6 t3 fun t120 =>
 ldI t120 h fun t121 =>
 cal D 132 [t114, t117, (vI t119), (vI t121)] h fun t122 h47 =>
 extC t122 0 fun t123 =>
 extC t122 1 fun t124 =>
 stsC 7 t2 t123 h47 fun h48 =>
 iasC 8 t6 (vI (Int.ofNat 0)) fun t125 =>
 stsC 8 t125 t124 h48 fun h49 =>
 S169_0 D m t2 t3 t4 t5 t6 h49) (
 S169_0 D m t2 t3 t4 t5 t6 h)
def e169_8 (k t2 t3 t4 t5 t6 h) := kN k [(p2, t2), (p3, t3), (p4, t4), (p5, t5), (p6, t6)] h
def S169_8 (D : CallD) (m : Nat) (t2 t3 t4 t5 t6 : AV) (h : HP) : Res2 :=
 cellsC 7 t2 h fun t229 =>
 faC 3 t3 fun t230 =>
 ldS t230 h fun t231 =>
 faC 4 t3 fun t232 =>
 ldI t232 h fun t233 =>
 faC 5 t3 fun t234 =>
 ldI t234 h fun t235 =>
 let t236 := (AV.agg [(vB false), (vB false), (vB false), (vS t231), (vI t233), (vI t235), (.nils : AV), (vB false), (.nils : AV), (vI (Int.ofNat 0)), (.nils : AV), (.nils : AV), (vS ([] : LN)), (vI (Int.ofNat 0)), (vI (Int.ofNat 0)), (vI (Int.ofNat 0)), (vI (Int.ofNat 0))])
 cal D 131 [t229, t236] h fun t237 h60 =>
 extC t237 0 fun t238 =>
 extC t237 1 fun vt239 => asS vt239 fun t239 =>
 stsC 7 t2 t238 h60 fun h61 =>
 faC 3 t3 fun t240 =>
 stoC t240 (vS t239) h61 fun h62 =>
 S169_0 D m t2 t3 t4 t5 t6 h62
def e169_10 (k t2 t3 t4 t5 t6 t223 h) := kN k [(p2, t2), (p3, t3), (p4, t4), (p5, t5), (p6, t6), (p223, (vB t223))] h
def S169_10 (D : CallD) (m : Nat) (t2 t3 t4 t5 t6 : AV) (t223 : Bool) (h : HP) : Res2 :=
 br t223 (
 cellsC 7 t2 h fun t224 =>
 faC 6 t3 fun t225 =>
 ldI t225 h fun t226 =>
 cal D 86 [t224, (vI (Int.ofNat 14)), (vI t226)] h fun t227 h63 =>
 stsC 7 t2 t227 h63 fun h64 =>
 S169_8 D m t2 t3 t4 t5 t6 h64) (
 S169_8 D m t2 t3 t4 t5 t6 h)
def e169_9 (k t2 t3 t4 t5 t6 t208 t222 h) := kN k [(p2, t2), (p3, t3), (p4, t4), (p5, t5), (p6, t6), (p208, (vB t208)), (p222, (vB t222))] h
def S169_9 (D : CallD) (m : Nat) (t2 t3 t4 t5 t6 : AV) (t208 t222 : Bool) (h : HP) : Res2 :=
 obB (brV t208 (some (vB true)) (some (vB t222))) fun t223 =>
 S169_10 D m t2 t3 t4 t5 t6 t223 h
def e169_7 (k t2 t3 t4 t5 t6 t12 h) := kN k [(p2, t2), (p3, t3), (p4, t4), (p5, t5), (p6, t6), (p12, (vB t12))] h
def S169_7 (D : CallD) (m : Nat) (t2 t3 t4 t5 t6 : AV) (t12 : Bool) (h : HP) : Res2 :=
 let t202 := !t12
 obB (brV t202 (
 some (vB true)) (
 faCV 4 t3 fun t204 =>
 ldIV t204 h fun t205 =>
 let t206 := eqQ t205 (Int.ofNat 0)
 some (vB t206))) fun t207 =>
 br t207 (
 S169_10 D m t2 t3 t4 t5 t6 true h) (
 faC 5 t3 fun t209 =>
 ldI t209 h fun t210 =>
 let t211 := ltQ (Int.ofNat 0) t210
 br t211 (
 faC 4 t3 fun t213 =>
 ldI t213 h fun t214 =>
 cal D 128 [(vI t214)] h fun t215 h65 =>
 asB t215 fun t215a =>
 let t216 := !t215a
 obB (brV t216 (
 some (vB true)) (
 lenCV t6 fun vt219 => asIV .i64 vt219 fun t219 =>
 let t220 := ltQ (Int.ofNat 0) t219
 some (vB t220))) fun t221 =>
 S169_9 D m t2 t3 t4 t5 t6 false t221 h65) (
 S169_9 D m t2 t3 t4 t5 t6 false false h))
def e169_6 (k t2 t3 t4 t5 t6 h) := kN k [(p2, t2), (p3, t3), (p4, t4), (p5, t5), (p6, t6)] h
def S169_6 (D : CallD) (m : Nat) (t2 t3 t4 t5 t6 : AV) (h : HP) : Res2 :=
 lenC t6 fun vt173 => asI .i64 vt173 fun t173 =>
 let t174 := ltQ (Int.ofNat 0) t173
 obB (brV t174 (
 faCV 5 t2 fun t176 =>
 ldIV t176 h fun t177 =>
 let t178 := eqQ t177 (Int.ofNat 0)
 some (vB t178)) (
 some (vB false))) fun t179 =>
 br t179 (
 cellsC 7 t2 h fun t182 =>
 iasC 8 t6 (vI (Int.ofNat 0)) fun t184 =>
 cellsC 8 t184 h fun t185 =>
 cal D 167 [t182, t185] h fun t186 h66 =>
 extC t186 0 fun t187 =>
 extC t186 1 fun t188 =>
 stsC 7 t2 t187 h66 fun h67 =>
 iasC 8 t6 (vI (Int.ofNat 0)) fun t189 =>
 stsC 8 t189 t188 h67 fun h68 =>
 iasC 8 t6 (vI (Int.ofNat 0)) fun t193 =>
 cellsC 8 t193 h68 fun t194 =>
 faC 4 t3 fun t195 =>
 ldI t195 h68 fun t196 =>
 cal D 168 [t194, (vI t196)] h68 fun t197 h69 =>
 extC t197 0 fun t198 =>
 extC t197 1 fun vt199 => asB vt199 fun t199 =>
 iasC 8 t6 (vI (Int.ofNat 0)) fun t200 =>
 stsC 8 t200 t198 h69 fun h70 =>
 S169_7 D m t2 t3 t4 t5 t6 t199 h70) (
 S169_7 D m t2 t3 t4 t5 t6 true h)
def e169_5 (k t2 t3 t4 t5 t6 t23 t126 h) := kN k [(p2, t2), (p3, t3), (p4, t4), (p5, t5), (p6, t6), (p23, (vI t23)), (p126, (vB t126))] h
def S169_5 (D : CallD) (m : Nat) (t2 t3 t4 t5 t6 : AV) (t23 : Int) (t126 : Bool) (h : HP) : Res2 :=
 br t126 (
 faC 4 t2 fun t129 =>
 ldI t129 h fun t130 =>
 let t131 := eqQ t130 (Int.ofNat 0)
 br t131 (
 cellsC 7 t2 h fun t132 =>
 faC 6 t3 fun t133 =>
 ldI t133 h fun t134 =>
 cal D 86 [t132, (vI (Int.ofNat 14)), (vI t134)] h fun t135 h52 =>
 stsC 7 t2 t135 h52 fun h53 =>
 S169_0 D m t2 t3 t4 t5 t6 h53) (
 S169_0 D m t2 t3 t4 t5 t6 h)) (
 let t137 := eqQ t23 (Int.ofNat 7)
 br t137 (
 lenC t6 fun vt139 => asI .i64 vt139 fun t139 =>
 let t140 := ltQ (Int.ofNat 0) t139
 br t140 (
 cellsC 7 t2 h fun t143 =>
 iasC 8 t6 (vI (Int.ofNat 0)) fun t145 =>
 cellsC 8 t145 h fun t146 =>
 cal D 167 [t143, t146] h fun t147 h54 =>
 extC t147 0 fun t148 =>
 extC t147 1 fun t149 =>
 stsC 7 t2 t148 h54 fun h55 =>
 iasC 8 t6 (vI (Int.ofNat 0)) fun t150 =>
 stsC 8 t150 t149 h55 fun h56 =>
 S169_0 D m t2 t3 t4 t5 t6 h56) (
 S169_0 D m t2 t3 t4 t5 t6 h)) (
 let t152 := eqQ t23 (Int.ofNat 8)
 br t152 (
 cellsC 7 t2 h fun t154 =>
 faC 3 t3 fun t155 =>
 ldS t155 h fun t156 =>
 cal D 130 [t154, (vS t156)] h fun t157 h57 =>
 extC t157 0 fun t158 =>
 extC t157 1 fun vt159 => asB vt159 fun t159 =>
 let t10 := AV.ptr (HP.nxQ h57) 0
 let h58 := HP.newQ h57 (.cells true [(.bool false), (.bool false), (.bool false), (.str []), (kI 0), (kI 0), .nils, (.bool false), .nils, (kI 0), .nils, .nils, (.str []), (kI 0), (kI 0), (kI 0), (kI 0), (.str []), (kI 0)])
 stsC 19 t10 t158 h58 fun h59 =>
 obB (brV t159 (
 let t162 := (AV.ptr (HP.nxQ h57) (Nat.add 0 18))
 ldIV t162 h59 fun t163 =>
 faCV 1 t2 fun t164 =>
 ldIV t164 h59 fun t165 =>
 let t166 := eqQ t163 t165
 some (vB t166)) (
 some (vB false))) fun t167 =>
 br t167 (
 cellsC 7 t2 h59 fun t168 =>
 faC 6 t3 fun t169 =>
 ldI t169 h59 fun t170 =>
 cal D 86 [t168, (vI (Int.ofNat 13)), (vI t170)] h59 fun t171 h71 =>
 stsC 7 t2 t171 h71 fun h72 =>
 S169_6 D m t2 t3 t4 t5 t6 h72) (
 S169_6 D m t2 t3 t4 t5 t6 h59)) (
 S169_0 D m t2 t3 t4 t5 t6 h)))
def e169_1 (k t2 t3 t4 t5 t6 t23 t37 h) := kN k [(p2, t2), (p3, t3), (p4, t4), (p5, t5), (p6, t6), (p23, (vI t23)), (p37, (vB t37))] h
def S169_1 (D : CallD) (m : Nat) (t2 t3 t4 t5 t6 : AV) (t23 : Int) (t37 : Bool) (h : HP) : Res2 :=
 br t37 (
 cellsC 7 t2 h fun t42 =>
 iasC 8 t6 (vI (Int.ofNat 0)) fun t44 =>
 cellsC 8 t44 h fun t45 =>
 iasC 8 t6 (vI (Int.ofNat 0)) fun t47 =>
 faC 7 t47 fun t48 =>
 ldI t48 h fun t49 =>
 cal D 132 [t42, t45, (vI (Int.ofNat 1)), (vI t49)] h fun t50 h30 =>
 extC t50 0 fun t51 =>
 extC t50 1 fun t52 =>
 stsC 7 t2 t51 h30 fun h31 =>
 iasC 8 t6 (vI (Int.ofNat 0)) fun t53 =>
 stsC 8 t53 t52 h31 fun h32 =>
 faC 4 t2 fun t54 =>
 ldI t54 h32 fun t55 =>
 faC 0 t3 fun t56 =>
 ldI t56 h32 fun t57 =>
 let t58 := wrQ .i64 (addQ t55 t57)
 let t59 := wrQ .i64 (t58 - (Int.ofNat 2))
 faC 4 t2 fun t60 =>
 stoC t60 (vI t59) h32 fun h33 =>
 faC 2 t3 fun t61 =>
 cellC t61 h33 fun t62 =>
 lenC t62 fun vt63 => asI .i64 vt63 fun t63 =>
 S169_3 D m t2 t3 t4 t5 t6 (.nils : AV) t63 (Int.ofNat 0) h33) (
 let t96 := eqQ t23 (Int.ofNat 4)
 br t96 (
 lenC t6 fun vt98 => asI .i64 vt98 fun t98 =>
 let t99 := eqQ t98 (Int.ofNat 0)
 obB (brV t99 (
 faCV 2 t2 fun t101 =>
 ldIV t101 h fun t102 =>
 let t103 := notQ (eqQ t102 (Int.ofNat 0))
 some (vB t103)) (
 some (vB false))) fun t104 =>
 br t104 (
 cellsC 7 t2 h fun t105 =>
 faC 6 t3 fun t106 =>
 ldI t106 h fun t107 =>
 cal D 86 [t105, (vI (Int.ofNat 14)), (vI t107)] h fun t108 h50 =>
 stsC 7 t2 t108 h50 fun h51 =>
 S169_4 D m t2 t3 t4 t5 t6 h51) (
 S169_4 D m t2 t3 t4 t5 t6 h)) (
 let t127 := eqQ t23 (Int.ofNat 5)
 br t127 (
 S169_5 D m t2 t3 t4 t5 t6 t23 t127 h) (
 let t128 := eqQ t23 (Int.ofNat 6)
 S169_5 D m t2 t3 t4 t5 t6 t23 t128 h)))
def e169_12 (k t0 t1 h) := kN k [(p0, t0), (p1, t1)] h
def S169_12 (D : CallD) (m : Nat) (t0 t1 : AV) (h : HP) : Res2 :=
 let t2 := AV.ptr (HP.nxQ h) 0
 let h13 := HP.newQ h (.cells true (AV.cells t0))
 let t3 := AV.ptr (HP.nxQ h13) 0
 let h14 := HP.newQ h13 (.cells true (AV.cells t1))
 let t4 := AV.ptr (HP.nxQ h14) 0
 let h15 := HP.newQ h14 (.cells true [.nils, (kI 0), (kI 0), (kI 0), (kI 0), (kI 0), (kI 0)])
 let t5 := AV.ptr (HP.nxQ h15) 0
 let h16 := HP.newQ h15 (.cells true [(kI 0), .nils, .nils, (.str []), (kI 0), (kI 0), (kI 0)])
 let t13 := (AV.ptr (HP.nxQ h) (Nat.add 0 5))
 ldI t13 h16 fun t14 =>
 let t15 := notQ (eqQ t14 (Int.ofNat 0))
 br t15 (
 cellsC 7 t2 h16 fun t16 =>
 cellsC 7 t3 h16 fun t17 =>
 stsC 7 t4 t16 h16 fun h17 =>
 br (againE (.stores 7 q4 q16) [⟨none, .cells 7 q3, p17⟩] (mkT [(p4, t4), (p17, t17), (p3, t3)]) h17) (
 stsC 7 t5 t17 h17 fun h18 =>
 cellsC 7 t4 h18 fun t4a =>
 cellsC 7 t5 h18 fun t5a =>
 some (.ret (.tup [t4a, t5a]) h18, .no)) none) (
 let t18 := AV.slice (HP.nxQ h16) 0 0 (.exact 0)
 let h19 := HP.newQ h16 (.cells true [])
 let t19 := (AV.ptr (HP.nxQ h13) (Nat.add 0 1))
 cellC t19 h19 fun t20 =>
 eff (.app 8 96 (.c t18) (.c t20)) h19 fun t21 h20 =>
 let t22 := (AV.ptr (HP.nxQ h13) (Nat.add 0 0))
 ldI t22 h20 fun t23 =>
 let t25 := eqQ t23 (Int.ofNat 1)
 br t25 (
 cellsC 7 t2 h20 fun t27 =>
 let t29 := (AV.ptr (HP.nxQ h13) (Nat.add 0 2))
 cellC t29 h20 fun t30 =>
 cal D 129 [t27] h20 fun t28 h24 =>
 br (again [⟨none, .cell q29, p30⟩] (mkT [(p30, t30), (p29, t29)]) h24) (
 cal D 133 [t28, t30] h24 fun t31 h25 =>
 extC t31 0 fun t32 =>
 extC t31 1 fun t33 =>
 stsC 7 t2 t32 h25 fun h26 =>
 let t34 := (AV.ptr (HP.nxQ h13) (Nat.add 0 2))
 stoC t34 t33 h26 fun h27 =>
 cellsC 7 t2 h27 fun t35 =>
 cal D 134 [t35] h27 fun t36 h28 =>
 stsC 7 t2 t36 h28 fun h29 =>
 S169_0 D m t2 t3 t4 t5 t21 h29) none) (
 let t38 := eqQ t23 (Int.ofNat 2)
 br t38 (
 S169_1 D m t2 t3 t4 t5 t21 t23 t38 h20) (
 let t39 := eqQ t23 (Int.ofNat 3)
 S169_1 D m t2 t3 t4 t5 t21 t23 t39 h20)))
def S169 : SFn := fun D m args h u => nou u <| popV args fun t0 args => popV args fun t1 args => endA args (S169_12 D m t0 t1 h)
theorem T169_0 (hE : FX x169 D m E) : S169_0 D m = e169_0 (E c169_0 []) := by unfold S169_0; rw [hE c169_0]; kernel_rfl
theorem T169_2 (hE : FX x169 D m E) : S169_2 D m = e169_2 (E c169_2 [.blk 0, .sj v169_0 c169_0]) := by unfold S169_2; rw [T169_0 hE, hE c169_2]; kernel_rfl
theorem T169_3b (hE : FX x169 D m E) (G3) : S169_3b D m (e169_3 G3) = e169_3 (E c169_3b [.lp v169_3 G3, .blk 1, .sj v169_2 c169_2, .blk 0, .sj v169_0 c169_0]) := by unfold S169_3b; rw [T169_2 hE, hE c169_3b]; kernel_rfl
theorem T169_3 (hE : FX x169 D m E) : S169_3 D m = e169_3 (nrec (fun _ => none) (fun _ G3 st => E c169_3b [.lp v169_3 G3, .blk 1, .sj v169_2 c169_2, .blk 0, .sj v169_0 c169_0] st) m) :=
  nrec_emb e169_3 (fun _ _ _ _ _ _ _ _ _ => none) (fun g => S169_3b D m g) (fun G3 st => E c169_3b [.lp v169_3 G3, .blk 1, .sj v169_2 c169_2, .blk 0, .sj v169_0 c169_0] st) rfl (fun g => T169_3b hE g) m
theorem T169_4 (hE : FX x169 D m E) : S169_4 D m = e169_4 (E c169_4 [.blk 0, .sj v169_0 c169_0]) := by unfold S169_4; rw [T169_0 hE, hE c169_4]; kernel_rfl
theorem T169_8 (hE : FX x169 D m E) : S169_8 D m = e169_8 (E c169_8 [.blk 0, .sj v169_0 c169_0]) := by unfold S169_8; rw [T169_0 hE, hE c169_8]; kernel_rfl
theorem T169_10 (hE : FX x169 D m E) : S169_10 D m = e169_10 (E (.opq false l169_10 c169_11) [.sj v169_8 c169_8, .blk 0, .sj v169_0 c169_0]) := by unfold S169_10; rw [T169_8 hE, hE (.opq false l169_10 c169_11)]; kernel_rfl
theorem T169_9 (hE : FX x169 D m E) : S169_9 D m = e169_9 (E (.opq false l169_9 c169_11) [.sj v169_8 c169_8, .blk 0, .sj v169_0 c169_0]) := by unfold S169_9; rw [T169_10 hE, hE (.opq false l169_9 c169_11)]; kernel_rfl
theorem T169_7 (hE : FX x169 D m E) : S169_7 D m = e169_7 (E c169_7 [.blk 0, .sj v169_0 c169_0]) := by unfold S169_7; rw [T169_10 hE, T169_9 hE, hE c169_7]; kernel_rfl
theorem T169_6 (hE : FX x169 D m E) : S169_6 D m = e169_6 (E c169_6 [.blk 0, .sj v169_0 c169_0]) := by unfold S169_6; rw [T169_7 hE, hE c169_6]; kernel_rfl
theorem T169_5 (hE : FX x169 D m E) : S169_5 D m = e169_5 (E c169_5 [.blk 0, .sj v169_0 c169_0]) := by unfold S169_5; rw [T169_0 hE, T169_6 hE, hE c169_5]; kernel_rfl
theorem T169_1 (hE : FX x169 D m E) : S169_1 D m = e169_1 (E c169_1 [.blk 0, .sj v169_0 c169_0]) := by unfold S169_1; rw [T169_3 hE, T169_4 hE, T169_5 hE, hE c169_1]; kernel_rfl
theorem T169_12 (hE : FX x169 D m E) : S169_12 D m = e169_12 (E c169_e []) := by unfold S169_12; rw [T169_0 hE, T169_1 hE, hE c169_e]; kernel_rfl
theorem X169 : XTie S169 x169 := X_of fun D m E hE args h u => by unfold S169; rw [T169_12 hE]; kernel_rfl
/- 178 -/
def c178_e : XC := (.sO [.mv p4 (ci 0) tI] (.sO [.mv p6 q0 .v, .cl p7 90 [q6, (ci 1)] tI, .mv p5 q7 tI] (.sO [.mv p8 q0 .v, .mv p9 q5 tI, .mv p10 q1 tW, .P p11 (.build [(kI 0), (kI 0), (kI 0), (kI 0), (.int .u32 (.ofNat 0)), (.int .u64 (.ofNat 0)), (.str []), .nils, (kI 0)] [⟨0, 1, (ci 1)⟩, ⟨1, 1, q9⟩, ⟨4, 1, q10⟩]) .v, .cl p12 140 [q8, q11] .v] (.sO [.mv p13 q5 tI, .mv p4 q13 tI] (.s .ret)))))
def x178 : XFn := ⟨[.v, tW], false, [(.tmp p4)], c178_e⟩
def e178_0 (k t0 t1 h) := kN k [(p0, t0), (p1, (vW t1))] h
def S178_0 (D : CallD) (m : Nat) (t0 : AV) (t1 : Int) (h : HP) : Res2 :=
 cal D 90 [t0, (vI (Int.ofNat 1))] h fun t7 h1 =>
 asI .i64 t7 fun t7a =>
 let t11 := (AV.agg [(vI (Int.ofNat 1)), (vI t7a), (vI (Int.ofNat 0)), (vI (Int.ofNat 0)), (vW t1), (AV.int .u64 (Int.ofNat 0)), (vS ([] : LN)), (.nils : AV), (vI (Int.ofNat 0))])
 cal D 140 [t0, t11] h1 fun t12 h2 =>
 some (.ret (vI t7a) h2, .no)
def S178 : SFn := fun D m args h u => nou u <| popV args fun t0 args => popI .u32 args fun t1 args => endA args (S178_0 D m t0 t1 h)
theorem T178_0 (hE : FX x178 D m E) : S178_0 D m = e178_0 (E c178_e []) := by unfold S178_0; rw [hE c178_e]; kernel_rfl
theorem X178 : XTie S178 x178 := X_of fun D m E hE args h u => by unfold S178; rw [T178_0 hE]; kernel_rfl
/- 179 -/
def c179_e : XC := (.sO [.mv p8 (ci 0) tI] (.sO [.mv p10 q0 .v, .cl p11 90 [q10, (ci 1)] tI, .mv p9 q11 tI] (.sO [.mv p12 q0 .v, .mv p13 q9 tI, .mv p14 q2 tI, .mv p15 q3 tI, .mv p16 q1 tW, .P p17 (.build [(kI 0), (kI 0), (kI 0), (kI 0), (.int .u32 (.ofNat 0)), (.int .u64 (.ofNat 0)), (.str []), .nils, (kI 0)] [⟨0, 1, (ci 4)⟩, ⟨1, 1, q13⟩, ⟨2, 1, q14⟩, ⟨3, 1, q15⟩, ⟨4, 1, q16⟩]) .v, .cl p18 140 [q12, q17] .v] (.sO [.mv p19 q9 tI, .mv p8 q19 tI] (.s .ret)))))
def x179 : XFn := ⟨[.v, tW, tI, tI], false, [(.tmp p8)], c179_e⟩
def e179_0 (k t0 t1 t2 t3 h) := kN k [(p0, t0), (p1, (vW t1)), (p2, (vI t2)), (p3, (vI t3))] h
def S179_0 (D : CallD) (m : Nat) (t0 : AV) (t1 t2 t3 : Int) (h : HP) : Res2 :=
 cal D 90 [t0, (vI (Int.ofNat 1))] h fun t11 h1 =>
 asI .i64 t11 fun t11a =>
 let t17 := (AV.agg [(vI (Int.ofNat 4)), (vI t11a), (vI t2), (vI t3), (vW t1), (AV.int .u64 (Int.ofNat 0)), (vS ([] : LN)), (.nils : AV), (vI (Int.ofNat 0))])
 cal D 140 [t0, t17] h1 fun t18 h2 =>
 some (.ret (vI t11a) h2, .no)
def S179 : SFn := fun D m args h u => nou u <| popV args fun t0 args => popI .u32 args fun t1 args => popI .i64 args fun t2 args => popI .i64 args fun t3 args => endA args (S179_0 D m t0 t1 t2 t3 h)
theorem T179_0 (hE : FX x179 D m E) : S179_0 D m = e179_0 (E c179_e []) := by unfold S179_0; rw [hE c179_e]; kernel_rfl
theorem X179 : XTie S179 x179 := X_of fun D m E hE args h u => by unfold S179; rw [T179_0 hE]; kernel_rfl
/- 184 -/
def c184_e : XC := (.sO [.al p3 (.box q1), .mv p4 (ci 0) tI] (.sO [.mv p9 q0 .v, .L p10 (.cells 8 q3) .v, .cl p11 188 [q9, q10] .v, .mv p8 q11 .v, .P p12 (.ext q8 0) tI, .P p13 (.ext q8 1) tI, .mv p5 q12 tI, .mv p6 q13 tI] (.seq (.block 0 (.seq (.oX [.fa p15 0 q3, .ld p16 q15 tI, .bn p17 .eql q16 (ci 3) .b, .mv p18 q17 .b, .ge p18 (XL.of [.G p18 true p19 (.faddr 3 q3) .v, .o ⟨(some p20), (.l (.cell q19)), (some (p18, true)), []⟩ tW, .G p18 true p21 (.bin .eql q20 (.c (.int .u32 (.ofNat 1)))) .b, .P p22 (.pick q18 q21 (cb false)) .b]) p22 .b, .mv p14 q22 .b]) (.cond q14 (.seq (.oX [.mv p23 q6 tI, .mv p4 q23 tI]) .ret) (.seq (.oX [.mv p25 q5 tI, .bn p26 .lss q25 (ci 0) .b, .mv p24 q26 .b]) (.cond q24 (.seq (.oX [.mv p27 q0 .v, .fa p28 6 q3, .ld p29 q28 tI, .mv p30 q6 tI, .cl p31 216 [q27, q29, q30] tI, .mv p4 q31 tI]) .ret) .skip))))) (.sO [.mv p32 q0 .v, .fa p33 6 q3, .ld p34 q33 tI, .cl p35 91 [q34] tI, .cl p36 90 [q32, q35] tI, .mv p7 q36 tI] (.sO [.mv p37 q0 .v, .mv p38 q7 tI, .mv p39 q5 tI, .P p40 (.build [(kI 0), (kI 0), (kI 0), (kI 0), (.int .u32 (.ofNat 0)), (.int .u64 (.ofNat 0)), (.str []), .nils, (kI 0)] [⟨0, 1, (ci 3)⟩, ⟨1, 1, q38⟩, ⟨2, 1, q39⟩]) .v, .cl p41 140 [q37, q40] .v] (.sO [.mv p42 q7 tI, .mv p4 q42 tI] (.s .ret)))))))
def x184 : XFn := ⟨[.v, .v], false, [(.tmp p4)], c184_e⟩
def e184_0 (k t0 t1 h) := kN k [(p0, t0), (p1, t1)] h
def S184_0 (D : CallD) (m : Nat) (t0 t1 : AV) (h : HP) : Res2 :=
 let t3 := AV.ptr (HP.nxQ h) 0
 let h1 := HP.newQ h (.cells true (AV.cells t1))
 cellsC 8 t3 h1 fun t10 =>
 cal D 188 [t0, t10] h1 fun t11 h2 =>
 extC t11 0 fun vt12 => asI .i64 vt12 fun t12 =>
 extC t11 1 fun vt13 => asI .i64 vt13 fun t13 =>
 let t15 := (AV.ptr (HP.nxQ h) (Nat.add 0 0))
 ldI t15 h2 fun t16 =>
 let t17 := eqQ t16 (Int.ofNat 3)
 obB (brV t17 (
 let t19 := (AV.ptr (HP.nxQ h) (Nat.add 0 3))
 ldWV t19 h2 fun t20 =>
 let t21 := eqQ t20 (Int.ofNat 1)
 some (vB t21)) (
 some (vB false))) fun t22 =>
 br t22 (
 some (.ret (vI t13) h2, .no)) (
 let t26 := ltQ t12 (Int.ofNat 0)
 br t26 (
 let t28 := (AV.ptr (HP.nxQ h) (Nat.add 0 6))
 ldI t28 h2 fun t29 =>
 cal D 216 [t0, (vI t29), (vI t13)] h2 fun t31 h3 =>
 asI .i64 t31 fun t31a =>
 some (.ret (vI t31a) h3, .no)) (
 let t33 := (AV.ptr (HP.nxQ h) (Nat.add 0 6))
 ldI t33 h2 fun t34 =>
 cal D 91 [(vI t34)] h2 fun t35 h4 =>
 asI .i64 t35 fun t35a =>
 cal D 90 [t0, (vI t35a)] h4 fun t36 h5 =>
 asI .i64 t36 fun t36a =>
 let t40 := (AV.agg [(vI (Int.ofNat 3)), (vI t36a), (vI t12), (vI (Int.ofNat 0)), (vW (Int.ofNat 0)), (AV.int .u64 (Int.ofNat 0)), (vS ([] : LN)), (.nils : AV), (vI (Int.ofNat 0))])
 cal D 140 [t0, t40] h5 fun t41 h6 =>
 some (.ret (vI t36a) h6, .no)))
def S184 : SFn := fun D m args h u => nou u <| popV args fun t0 args => popV args fun t1 args => endA args (S184_0 D m t0 t1 h)
theorem T184_0 (hE : FX x184 D m E) : S184_0 D m = e184_0 (E c184_e []) := by unfold S184_0; rw [hE c184_e]; kernel_rfl
theorem X184 : XTie S184 x184 := X_of fun D m E hE args h u => by unfold S184; rw [T184_0 hE]; kernel_rfl
/- 187 -/
def c187_e : XC := (.sO [.al p5 (.box q1), .mv p8 (ci 0) tI] (.sO [.fa p10 5 q5, .ld p11 q10 .v, .P p12 (.iaddr (.sl 8) q11 (ci 0)) .v, .fa p13 6 q12, .ld p14 q13 tI, .mv p9 q14 tI] (.seq (.block 0 (.seq (.oX [.mv p16 q9 tI, .bn p17 .eql q16 (ci 2) .b, .mv p15 q17 .b]) (.cond q15 (.seq (.oX [.mv p18 q0 .v, .fa p19 1 q5, .ld p20 q19 .s, .mv p21 q2 tI, .mv p22 q3 tI, .cl p23 217 [q18, q20, q21, q22] tI, .mv p8 q23 tI]) .ret) (.seq (.oX [.mv p25 q9 tI, .bn p26 .geq q25 (ci 3) .b, .mv p27 q26 .b, .ge p27 (XL.of [.G p27 true p28 (.faddr 1 q5) .v, .o ⟨(some p29), (.l (.cell q28)), (some (p27, true)), []⟩ .s, .G p27 true p30 (.bin .eql q29 (.c (.str [43]))) .b, .P p31 (.pick q27 q30 (cb false)) .b]) p31 .b, .mv p24 q31 .b]) (.cond q24 (.seq (.oX [.mv p32 q0 .v, .mv p33 q9 tI, .mv p34 q2 tI, .mv p35 q3 tI, .cl p36 218 [q32, q33, q34, q35, (.c (.int .u32 (.ofNat 1)))] tI, .mv p8 q36 tI]) .ret) (.seq (.oX [.mv p38 q9 tI, .bn p39 .geq q38 (ci 3) .b, .mv p40 q39 .b, .ge p40 (XL.of [.G p40 true p41 (.faddr 1 q5) .v, .o ⟨(some p42), (.l (.cell q41)), (some (p40, true)), []⟩ .s, .G p40 true p43 (.bin .eql q42 (.c (.str [45]))) .b, .P p44 (.pick q40 q43 (cb false)) .b]) p44 .b, .mv p37 q44 .b]) (.cond q37 (.seq (.oX [.mv p45 q0 .v, .mv p46 q9 tI, .mv p47 q2 tI, .mv p48 q3 tI, .cl p49 218 [q45, q46, q47, q48, (.c (.int .u32 (.ofNat 2)))] tI, .mv p8 q49 tI]) .ret) .skip))))))) (.seq (.seq (.oX [.fa p50 1 q5, .ld p51 q50 .s]) (.block 1 (.seq (.oX [.bn p53 .eql q51 (.c (.str [61, 61])) .b, .mv p52 q53 .b]) (.cond q52 (.seq (.oX [.mv p54 q0 .v, .mv p55 q0 .v, .mv p56 q2 tI, .mv p57 q3 tI, .cl p58 179 [q55, (.c (.int .u32 (.ofNat 2))), q56, q57] tI, .mv p59 q0 .v, .cl p60 178 [q59, (.c (.int .u32 (.ofNat 1)))] tI, .cl p61 179 [q54, (.c (.int .u32 (.ofNat 5))), q58, q60] tI, .mv p8 q61 tI]) .ret) (.seq (.oX [.bn p63 .eql q51 (.c (.str [33, 61])) .b, .mv p62 q63 .b]) (.cond q62 (.seq (.oX [.mv p64 q0 .v, .mv p65 q0 .v, .cl p66 178 [q65, (.c (.int .u32 (.ofNat 0)))] tI, .mv p67 q0 .v, .mv p68 q2 tI, .mv p69 q3 tI, .cl p70 179 [q67, (.c (.int .u32 (.ofNat 2))), q68, q69] tI, .cl p71 179 [q64, (.c (.int .u32 (.ofNat 5))), q66, q70] tI, .mv p8 q71 tI]) .ret) (.seq (.oX [.bn p73 .eql q51 (.c (.str [60])) .b, .mv p72 q73 .b]) (.cond q72 (.seq (.oX [.mv p74 q0 .v, .mv p75 q2 tI, .mv p76 q3 tI, .cl p77 179 [q74, (.c (.int .u32 (.ofNat 4))), q75, q76] tI, .mv p8 q77 tI]) .ret) (.seq (.oX [.bn p79 .eql q51 (.c (.str [62])) .b, .mv p78 q79 .b]) (.cond q78 (.seq (.oX [.mv p80 q0 .v, .mv p81 q3 tI, .mv p82 q2 tI, .cl p83 179 [q80, (.c (.int .u32 (.ofNat 4))), q81, q82] tI, .mv p8 q83 tI]) .ret) (.seq (.oX [.bn p85 .eql q51 (.c (.str [60, 61])) .b, .mv p84 q85 .b]) (.cond q84 (.seq (.oX [.mv p86 q0 .v, .mv p87 q0 .v, .mv p88 q3 tI, .mv p89 q2 tI, .cl p90 179 [q87, (.c (.int .u32 (.ofNat 4))), q88, q89] tI, .mv p91 q0 .v, .cl p92 178 [q91, (.c (.int .u32 (.ofNat 1)))] tI, .cl p93 179 [q86, (.c (.int .u32 (.ofNat 6))), q90, q92] tI, .mv p8 q93 tI]) .ret) (.seq (.oX [.bn p95 .eql q51 (.c (.str [62, 61])) .b, .mv p94 q95 .b]) (.cond q94 (.seq (.oX [.mv p96 q0 .v, .mv p97 q0 .v, .mv p98 q2 tI, .mv p99 q3 tI, .cl p100 179 [q97, (.c (.int .u32 (.ofNat 4))), q98, q99] tI, .mv p101 q0 .v, .cl p102 178 [q101, (.c (.int .u32 (.ofNat 1)))] tI, .cl p103 179 [q96, (.c (.int .u32 (.ofNat 6))), q100, q102] tI, .mv p8 q103 tI]) .ret) .skip)))))))))))))) (.sO [.mv p104 q0 .v, .al p105 (.mkmap), .o ⟨none, (.e (.mset .str q105 (.c (.str [43])) (.c (.int .u32 (.ofNat 1))))), none, []⟩ .v, .o ⟨none, (.e (.mset .str q105 (.c (.str [45])) (.c (.int .u32 (.ofNat 2))))), none, []⟩ .v, .o ⟨none, (.e (.mset .str q105 (.c (.str [42])) (.c (.int .u32 (.ofNat 11))))), none, []⟩ .v, .o ⟨none, (.e (.mset .str q105 (.c (.str [47])) (.c (.int .u32 (.ofNat 14))))), none, []⟩ .v, .o ⟨none, (.e (.mset .str q105 (.c (.str [37])) (.c (.int .u32 (.ofNat 16))))), none, []⟩ .v, .o ⟨none, (.e (.mset .str q105 (.c (.str [60, 60])) (.c (.int .u32 (.ofNat 3))))), none, []⟩ .v, .o ⟨none, (.e (.mset .str q105 (.c (.str [62, 62])) (.c (.int .u32 (.ofNat 8))))), none, []⟩ .v, .o ⟨none, (.e (.mset .str q105 (.c (.str [38])) (.c (.int .u32 (.ofNat 10))))), none, []⟩ .v, .o ⟨none, (.e (.mset .str q105 (.c (.str [94])) (.c (.int .u32 (.ofNat 6))))), none, []⟩ .v, .o ⟨none, (.e (.mset .str q105 (.c (.str [124])) (.c (.int .u32 (.ofNat 9))))), none, []⟩ .v, .mv p106 q105 .v, .fa p107 1 q5, .ld p108 q107 .s, .L p109 (.look .str (.int .u32 (.ofNat 0)) false q106 q108) tW, .mv p110 q2 tI, .mv p111 q3 tI, .cl p112 179 [q104, q109, q110, q111] tI, .mv p8 q112 tI] (.s .ret))))))
def x187 : XFn := ⟨[.v, .v, tI, tI], false, [(.tmp p8)], c187_e⟩
def e187_0 (k t0 t1 t2 t3 h) := kN k [(p0, t0), (p1, t1), (p2, (vI t2)), (p3, (vI t3))] h
def S187_0 (D : CallD) (m : Nat) (t0 t1 : AV) (t2 t3 : Int) (h : HP) : Res2 :=
 let t5 := AV.ptr (HP.nxQ h) 0
 let h1 := HP.newQ h (.cells true (AV.cells t1))
 let t10 := (AV.ptr (HP.nxQ h) (Nat.add 0 5))
 cellC t10 h1 fun t11 =>
 iasC 8 t11 (vI (Int.ofNat 0)) fun t12 =>
 faC 6 t12 fun t13 =>
 ldI t13 h1 fun t14 =>
 let t17 := eqQ t14 (Int.ofNat 2)
 br t17 (
 let t19 := (AV.ptr (HP.nxQ h) (Nat.add 0 1))
 ldS t19 h1 fun t20 =>
 cal D 217 [t0, (vS t20), (vI t2), (vI t3)] h1 fun t23 h2 =>
 asI .i64 t23 fun t23a =>
 some (.ret (vI t23a) h2, .no)) (
 let t26 := leQ (Int.ofNat 3) t14
 obB (brV t26 (
 let t28 := (AV.ptr (HP.nxQ h) (Nat.add 0 1))
 ldSV t28 h1 fun t29 =>
 let t30 := eqL t29 ([43] : LN)
 some (vB t30)) (
 some (vB false))) fun t31 =>
 br t31 (
 cal D 218 [t0, (vI t14), (vI t2), (vI t3), (vW (Int.ofNat 1))] h1 fun t36 h3 =>
 asI .i64 t36 fun t36a =>
 some (.ret (vI t36a) h3, .no)) (
 let t39 := leQ (Int.ofNat 3) t14
 obB (brV t39 (
 let t41 := (AV.ptr (HP.nxQ h) (Nat.add 0 1))
 ldSV t41 h1 fun t42 =>
 let t43 := eqL t42 ([45] : LN)
 some (vB t43)) (
 some (vB false))) fun t44 =>
 br t44 (
 cal D 218 [t0, (vI t14), (vI t2), (vI t3), (vW (Int.ofNat 2))] h1 fun t49 h4 =>
 asI .i64 t49 fun t49a =>
 some (.ret (vI t49a) h4, .no)) (
 let t50 := (AV.ptr (HP.nxQ h) (Nat.add 0 1))
 ldS t50 h1 fun t51 =>
 let t53 := eqL t51 ([61, 61] : LN)
 br t53 (
 cal D 179 [t0, (vW (Int.ofNat 2)), (vI t2), (vI t3)] h1 fun t58 h5 =>
 asI .i64 t58 fun t58a =>
 cal D 178 [t0, (vW (Int.ofNat 1))] h5 fun t60 h6 =>
 asI .i64 t60 fun t60a =>
 cal D 179 [t0, (vW (Int.ofNat 5)), (vI t58a), (vI t60a)] h6 fun t61 h7 =>
 asI .i64 t61 fun t61a =>
 some (.ret (vI t61a) h7, .no)) (
 let t63 := eqL t51 ([33, 61] : LN)
 br t63 (
 cal D 178 [t0, (vW (Int.ofNat 0))] h1 fun t66 h8 =>
 asI .i64 t66 fun t66a =>
 cal D 179 [t0, (vW (Int.ofNat 2)), (vI t2), (vI t3)] h8 fun t70 h9 =>
 asI .i64 t70 fun t70a =>
 cal D 179 [t0, (vW (Int.ofNat 5)), (vI t66a), (vI t70a)] h9 fun t71 h10 =>
 asI .i64 t71 fun t71a =>
 some (.ret (vI t71a) h10, .no)) (
 let t73 := eqL t51 ([60] : LN)
 br t73 (
 cal D 179 [t0, (vW (Int.ofNat 4)), (vI t2), (vI t3)] h1 fun t77 h11 =>
 asI .i64 t77 fun t77a =>
 some (.ret (vI t77a) h11, .no)) (
 let t79 := eqL t51 ([62] : LN)
 br t79 (
 cal D 179 [t0, (vW (Int.ofNat 4)), (vI t3), (vI t2)] h1 fun t83 h12 =>
 asI .i64 t83 fun t83a =>
 some (.ret (vI t83a) h12, .no)) (
 let t85 := eqL t51 ([60, 61] : LN)
 br t85 (
 cal D 179 [t0, (vW (Int.ofNat 4)), (vI t3), (vI t2)] h1 fun t90 h13 =>
 asI .i64 t90 fun t90a =>
 cal D 178 [t0, (vW (Int.ofNat 1))] h13 fun t92 h14 =>
 asI .i64 t92 fun t92a =>
 cal D 179 [t0, (vW (Int.ofNat 6)), (vI t90a), (vI t92a)] h14 fun t93 h15 =>
 asI .i64 t93 fun t93a =>
 some (.ret (vI t93a) h15, .no)) (
 let t95 := eqL t51 ([62, 61] : LN)
 br t95 (
 cal D 179 [t0, (vW (Int.ofNat 4)), (vI t2), (vI t3)] h1 fun t100 h16 =>
 asI .i64 t100 fun t100a =>
 cal D 178 [t0, (vW (Int.ofNat 1))] h16 fun t102 h17 =>
 asI .i64 t102 fun t102a =>
 cal D 179 [t0, (vW (Int.ofNat 6)), (vI t100a), (vI t102a)] h17 fun t103 h18 =>
 asI .i64 t103 fun t103a =>
 some (.ret (vI t103a) h18, .no)) (
 let t105 := AV.map (HP.nxQ h1)
 let h19 := HP.newQ h1 (.map [] 0)
 eff (.mset .str (.c t105) (.c (vS ([43] : LN))) (.c (vW (Int.ofNat 1)))) h19 fun t0a h20 =>
 eff (.mset .str (.c t105) (.c (vS ([45] : LN))) (.c (vW (Int.ofNat 2)))) h20 fun t0aa h21 =>
 eff (.mset .str (.c t105) (.c (vS ([42] : LN))) (.c (vW (Int.ofNat 11)))) h21 fun t0aaa h22 =>
 eff (.mset .str (.c t105) (.c (vS ([47] : LN))) (.c (vW (Int.ofNat 14)))) h22 fun t0aaaa h23 =>
 eff (.mset .str (.c t105) (.c (vS ([37] : LN))) (.c (vW (Int.ofNat 16)))) h23 fun t0aaaaa h24 =>
 eff (.mset .str (.c t105) (.c (vS ([60, 60] : LN))) (.c (vW (Int.ofNat 3)))) h24 fun t0aaaaaa h25 =>
 eff (.mset .str (.c t105) (.c (vS ([62, 62] : LN))) (.c (vW (Int.ofNat 8)))) h25 fun t0aaaaaaa h26 =>
 eff (.mset .str (.c t105) (.c (vS ([38] : LN))) (.c (vW (Int.ofNat 10)))) h26 fun t0aaaaaaaa h27 =>
 eff (.mset .str (.c t105) (.c (vS ([94] : LN))) (.c (vW (Int.ofNat 6)))) h27 fun t0aaaaaaaaa h28 =>
 eff (.mset .str (.c t105) (.c (vS ([124] : LN))) (.c (vW (Int.ofNat 9)))) h28 fun t0aaaaaaaaaa h29 =>
 let t107 := (AV.ptr (HP.nxQ h) (Nat.add 0 1))
 ldS t107 h29 fun t108 =>
 obI .u32 (evL (.look .str (.int .u32 (.ofNat 0)) false (.c t105) (.c (vS t108))) .leaf h29) fun t109 =>
 cal D 179 [t0, (vW t109), (vI t2), (vI t3)] h29 fun t112 h30 =>
 asI .i64 t112 fun t112a =>
 some (.ret (vI t112a) h30, .no))))))))))
def S187 : SFn := fun D m args h u => nou u <| popV args fun t0 args => popV args fun t1 args => popI .i64 args fun t2 args => popI .i64 args fun t3 args => endA args (S187_0 D m t0 t1 t2 t3 h)
theorem T187_0 (hE : FX x187 D m E) : S187_0 D m = e187_0 (E c187_e []) := by unfold S187_0; rw [hE c187_e]; kernel_rfl
theorem X187 : XTie S187 x187 := X_of fun D m E hE args h u => by unfold S187; rw [T187_0 hE]; kernel_rfl
/- 188 -/
def c188_e : XC := (.sO [.al p3 (.box q1), .mv p4 (ci 0) tI, .mv p5 (ci 0) tI] (.seq (.seq (.oX [.fa p10 0 q3, .ld p11 q10 tI]) (.block 0 (.seq (.oX [.bn p13 .eql q11 (ci 3) .b, .mv p12 q13 .b]) (.cond q12 (.seq (.seq (.ops true (XL.of [.mv p15 q0 .v, .P p16 (.nilck q15) .v, .fa p17 6 q16, .ld p18 q17 .v, .fa p19 2 q3, .ld p20 q19 .s, .L p21 (.look .str (.agg [(kI 0), (kI 0), (kI 0), (kI 0)]) true q18 q20) .v, .mv p14 q21 .v, .P p22 (.ext q14 0) .v, .P p23 (.ext q14 1) .b, .al p6 (.new [(kI 0), (kI 0), (kI 0), (kI 0)]), .ss 4 q6 q22, .mv p7 q23 .b])) (.seq (.oX [.mv p24 q7 .b]) (.cond q24 (.seq (.seq (.oX [.fa p25 0 q6, .ld p26 q25 tI, .bn p27 .geq q26 (ci 0) .b]) (.cond q27 (.seq (.oX [.fa p28 0 q6, .ld p29 q28 tI, .mv p4 q29 tI, .mv p5 (.c (.int .i64 (.negSucc 0))) tI]) .ret) .skip)) (.seq (.oX [.mv p30 q0 .v, .fa p31 1 q6, .ld p32 q31 tI, .cl p33 141 [q30, q32] tI, .mv p4 (.c (.int .i64 (.negSucc 0))) tI, .mv p5 q33 tI]) .ret)) .skip))) (.seq (.oX [.mv p34 q0 .v, .cl p35 90 [q34, (ci 1)] tI, .mv p8 q35 tI]) (.seq (.oX [.mv p36 q0 .v, .mv p37 q8 tI, .fa p38 2 q3, .ld p39 q38 .s, .P p40 (.build [(kI 0), (kI 0), (kI 0), (kI 0), (.int .u32 (.ofNat 0)), (.int .u64 (.ofNat 0)), (.str []), .nils, (kI 0)] [⟨0, 1, (ci 10)⟩, ⟨1, 1, q37⟩, ⟨6, 1, q39⟩]) .v, .cl p41 140 [q36, q40] .v]) (.seq (.oX [.mv p42 q8 tI, .mv p4 (.c (.int .i64 (.negSucc 0))) tI, .mv p5 q42 tI]) .ret)))) (.seq (.oX [.bn p44 .eql q11 (ci 8) .b, .mv p43 q44 .b]) (.cond q43 (.seq (.oX [.mv p45 q0 .v, .fa p46 5 q3, .ld p47 q46 .v, .P p48 (.iaddr (.sl 8) q47 (ci 0)) .v, .L p49 (.cells 8 q48) .v, .cl p50 145 [q45, q49] tI, .mv p9 q50 tI]) (.seq (.ops true (XL.of [.mv p51 q0 .v, .fa p52 5 q3, .ld p53 q52 .v, .P p54 (.iaddr (.sl 8) q53 (ci 0)) .v, .fa p55 6 q54, .ld p56 q55 tI, .mv p57 q9 tI, .mv p58 q0 .v, .fa p59 5 q3, .ld p60 q59 .v, .P p61 (.iaddr (.sl 8) q60 (ci 1)) .v, .L p62 (.cells 8 q61) .v, .o ⟨(some p63), (.call (.fn 145) [q58, q62]), none, [⟨none, .cell q52, p53⟩, ⟨none, .cell q55, p56⟩]⟩ tI, .cl p64 218 [q51, q56, q57, q63, (.c (.int .u32 (.ofNat 1)))] tI, .mv p4 (.c (.int .i64 (.negSucc 0))) tI, .mv p5 q64 tI])) .ret)) .skip)))))) (.sO [.mv p65 q0 .v, .fa p66 5 q3, .ld p67 q66 .v, .P p68 (.iaddr (.sl 8) q67 (ci 0)) .v, .L p69 (.cells 8 q68) .v, .cl p70 145 [q65, q69] tI, .mv p4 (.c (.int .i64 (.negSucc 0))) tI, .mv p5 q70 tI] (.s .ret))))
def x188 : XFn := ⟨[.v, .v], false, [(.tmp p4), (.tmp p5)], c188_e⟩
def e188_0 (k t0 t1 h) := kN k [(p0, t0), (p1, t1)] h
def S188_0 (D : CallD) (m : Nat) (t0 t1 : AV) (h : HP) : Res2 :=
 let t3 := AV.ptr (HP.nxQ h) 0
 let h1 := HP.newQ h (.cells true (AV.cells t1))
 let t10 := (AV.ptr (HP.nxQ h) (Nat.add 0 0))
 ldI t10 h1 fun t11 =>
 let t13 := eqQ t11 (Int.ofNat 3)
 br t13 (
 nilckC t0 fun t16 =>
 faC 6 t16 fun t17 =>
 cellC t17 h1 fun t18 =>
 let t19 := (AV.ptr (HP.nxQ h) (Nat.add 0 2))
 ldS t19 h1 fun t20 =>
 obQ (evL (.look .str (.agg [(kI 0), (kI 0), (kI 0), (kI 0)]) true (.c t18) (.c (vS t20))) .leaf h1) fun t21 =>
 extC t21 0 fun t22 =>
 extC t21 1 fun vt23 => asB vt23 fun t23 =>
 let t6 := AV.ptr (HP.nxQ h1) 0
 let h2 := HP.newQ h1 (.cells true [(kI 0), (kI 0), (kI 0), (kI 0)])
 stsC 4 t6 t22 h2 fun h3 =>
 br t23 (
 let t25 := (AV.ptr (HP.nxQ h1) (Nat.add 0 0))
 ldI t25 h3 fun t26 =>
 let t27 := leQ (Int.ofNat 0) t26
 br t27 (
 let t28 := (AV.ptr (HP.nxQ h1) (Nat.add 0 0))
 ldI t28 h3 fun t29 =>
 some (.ret (.tup [(vI t29), (vI (Int.negSucc 0))]) h3, .no)) (
 let t31 := (AV.ptr (HP.nxQ h1) (Nat.add 0 1))
 ldI t31 h3 fun t32 =>
 cal D 141 [t0, (vI t32)] h3 fun t33 h4 =>
 asI .i64 t33 fun t33a =>
 some (.ret (.tup [(vI (Int.negSucc 0)), (vI t33a)]) h4, .no))) (
 cal D 90 [t0, (vI (Int.ofNat 1))] h3 fun t35 h5 =>
 asI .i64 t35 fun t35a =>
 let t38 := (AV.ptr (HP.nxQ h) (Nat.add 0 2))
 ldS t38 h5 fun t39 =>
 let t40 := (AV.agg [(vI (Int.ofNat 10)), (vI t35a), (vI (Int.ofNat 0)), (vI (Int.ofNat 0)), (vW (Int.ofNat 0)), (AV.int .u64 (Int.ofNat 0)), (vS t39), (.nils : AV), (vI (Int.ofNat 0))])
 cal D 140 [t0, t40] h5 fun t41 h6 =>
 some (.ret (.tup [(vI (Int.negSucc 0)), (vI t35a)]) h6, .no))) (
 let t44 := eqQ t11 (Int.ofNat 8)
 br t44 (
 let t46 := (AV.ptr (HP.nxQ h) (Nat.add 0 5))
 cellC t46 h1 fun t47 =>
 iasC 8 t47 (vI (Int.ofNat 0)) fun t48 =>
 cellsC 8 t48 h1 fun t49 =>
 cal D 145 [t0, t49] h1 fun t50 h7 =>
 asI .i64 t50 fun t50a =>
 let t52 := (AV.ptr (HP.nxQ h) (Nat.add 0 5))
 cellC t52 h7 fun t53 =>
 iasC 8 t53 (vI (Int.ofNat 0)) fun t54 =>
 faC 6 t54 fun t55 =>
 ldI t55 h7 fun t56 =>
 let t59 := (AV.ptr (HP.nxQ h) (Nat.add 0 5))
 cellC t59 h7 fun t60 =>
 iasC 8 t60 (vI (Int.ofNat 1)) fun t61 =>
 cellsC 8 t61 h7 fun t62 =>
 cal D 145 [t0, t62] h7 fun t63 h8 =>
 br (again [⟨none, .cell q52, p53⟩, ⟨none, .cell q55, p56⟩] (mkT [(p56, (vI t56)), (p55, t55), (p53, t53), (p52, t52)]) h8) (
 asI .i64 t63 fun t63a =>
 cal D 218 [t0, (vI t56), (vI t50a), (vI t63a), (vW (Int.ofNat 1))] h8 fun t64 h9 =>
 asI .i64 t64 fun t64a =>
 some (.ret (.tup [(vI (Int.negSucc 0)), (vI t64a)]) h9, .no)) none) (
 let t66 := (AV.ptr (HP.nxQ h) (Nat.add 0 5))
 cellC t66 h1 fun t67 =>
 iasC 8 t67 (vI (Int.ofNat 0)) fun t68 =>
 cellsC 8 t68 h1 fun t69 =>
 cal D 145 [t0, t69] h1 fun t70 h10 =>
 asI .i64 t70 fun t70a =>
 some (.ret (.tup [(vI (Int.negSucc 0)), (vI t70a)]) h10, .no)))
def S188 : SFn := fun D m args h u => nou u <| popV args fun t0 args => popV args fun t1 args => endA args (S188_0 D m t0 t1 h)
theorem T188_0 (hE : FX x188 D m E) : S188_0 D m = e188_0 (E c188_e []) := by unfold S188_0; rw [hE c188_e]; kernel_rfl
theorem X188 : XTie S188 x188 := X_of fun D m E hE args h u => by unfold S188; rw [T188_0 hE]; kernel_rfl
/- 190 -/
def v190_1 : List Pos := [p0, p5]
def c190_1 : XC := (.sO [.mv p36 q0 .v, .L p37 (.cells 9 q5) .v, .cl p38 140 [q36, q37] .v] (.sO [.fa p39 1 q5, .ld p40 q39 tI, .mv p4 q40 tI] (.s .ret)))
def v190_0 : List Pos := [p0, p3, p5]
def c190_0 : XC := (.sj v190_1 (.sO [.fa p27 6 q3, .ld p28 q27 tI, .bn p29 .neq q28 (ci 0) .b] (.cond q29 (.s (.oX [.mv p30 q0 .v, .fa p31 6 q3, .ld p32 q31 tI, .cl p33 91 [q32] tI, .cl p34 90 [q30, q33] tI, .fa p35 1 q5, .st q35 q34])) (.s .skip))) c190_1)
def v190_2 : List Pos := [p0, p3, p5, p12, p13, p14]
def c190_2b : XC := (.sO [.bn p15 .lss q14 q13 .b] (.seq (.cond q15 .skip (.exit 0)) (.seq (.block 1 (.seq (.oX [.P p16 (.iaddr (.sl 8) q12 q14) .v, .L p17 (.cells 8 q16) .v, .al p7 (.new [(kI 0), (.str []), (.str []), (.int .u32 (.ofNat 0)), (.int .u64 (.ofNat 0)), .nils, (kI 0), (kI 0)]), .ss 8 q7 q17]) (.ops true (XL.of [.fa p18 7 q5, .ld p19 q18 .v, .mv p20 q0 .v, .L p21 (.cells 8 q7) .v, .o ⟨(some p22), (.call (.fn 145) [q20, q21]), none, [⟨none, .cell q18, p19⟩]⟩ tI, .al p23 (.bsl [(kI 0)] 1 [⟨0, 1, q22⟩]), .o ⟨(some p24), (.e (.app 1 8 q19 q23)), none, []⟩ .v, .fa p25 7 q5, .st q25 q24])))) (.s (.oX [.bn p26 .add q14 (ci 1) tI, .mv p14 q26 tI])))))
def c190_e : XC := (.sO [.al p3 (.box q1), .mv p4 (ci 0) tI] (.sO [.fa p8 2 q3, .ld p9 q8 .s, .P p10 (.build [(kI 0), (kI 0), (kI 0), (kI 0), (.int .u32 (.ofNat 0)), (.int .u64 (.ofNat 0)), (.str []), .nils, (kI 0)] [⟨0, 1, (ci 16)⟩, ⟨1, 1, (.c (.int .i64 (.negSucc 0)))⟩, ⟨6, 1, q9⟩]) .v, .al p5 (.new [(kI 0), (kI 0), (kI 0), (kI 0), (.int .u32 (.ofNat 0)), (.int .u64 (.ofNat 0)), (.str []), .nils, (kI 0)]), .ss 9 q5 q10] (.sj v190_0 (.sO [.fa p11 5 q3, .ld p12 q11 .v, .P p13 (.lenl q12) tI, .mv p14 (ci 0) tI] (.block 0 (.loop v190_2 c190_2b))) c190_0)))
def x190 : XFn := ⟨[.v, .v], false, [(.tmp p4)], c190_e⟩
def e190_1 (k t0 t5 h) := kN k [(p0, t0), (p5, t5)] h
def S190_1 (D : CallD) (m : Nat) (t0 t5 : AV) (h : HP) : Res2 :=
 cellsC 9 t5 h fun t37 =>
 cal D 140 [t0, t37] h fun t38 h7 =>
 faC 1 t5 fun t39 =>
 ldI t39 h7 fun t40 =>
 some (.ret (vI t40) h7, .no)
def e190_0 (k t0 t3 t5 h) := kN k [(p0, t0), (p3, t3), (p5, t5)] h
def S190_0 (D : CallD) (m : Nat) (t0 t3 t5 : AV) (h : HP) : Res2 :=
 faC 6 t3 fun t27 =>
 ldI t27 h fun t28 =>
 let t29 := notQ (eqQ t28 (Int.ofNat 0))
 br t29 (
 faC 6 t3 fun t31 =>
 ldI t31 h fun t32 =>
 cal D 91 [(vI t32)] h fun t33 h8 =>
 asI .i64 t33 fun t33a =>
 cal D 90 [t0, (vI t33a)] h8 fun t34 h9 =>
 asI .i64 t34 fun t34a =>
 faC 1 t5 fun t35 =>
 stoC t35 (vI t34a) h9 fun h10 =>
 S190_1 D m t0 t5 h10) (
 S190_1 D m t0 t5 h)
def e190_2 (k t0 t3 t5 t12 t13 t14 h) := kN k [(p0, t0), (p3, t3), (p5, t5), (p12, t12), (p13, (vI t13)), (p14, (vI t14))] h
def S190_2b (D : CallD) (m : Nat) (g2 : AV → AV → AV → AV → Int → Int → HP → Res2) (t0 t3 t5 t12 : AV) (t13 t14 : Int) (h : HP) : Res2 :=
 let t15 := ltQ t14 t13
 br t15 (
 iasC 8 t12 (vI t14) fun t16 =>
 cellsC 8 t16 h fun t17 =>
 let t7 := AV.ptr (HP.nxQ h) 0
 let h11 := HP.newQ h (.cells true [(kI 0), (.str []), (.str []), (.int .u32 (.ofNat 0)), (.int .u64 (.ofNat 0)), .nils, (kI 0), (kI 0)])
 stsC 8 t7 t17 h11 fun h12 =>
 faC 7 t5 fun t18 =>
 cellC t18 h12 fun t19 =>
 cellsC 8 t7 h12 fun t21 =>
 cal D 145 [t0, t21] h12 fun t22 h13 =>
 br (again [⟨none, .cell q18, p19⟩] (mkT [(p19, t19), (p18, t18)]) h13) (
 asI .i64 t22 fun t22a =>
 let t23 := AV.slice (HP.nxQ h13) 0 1 (.exact 1)
 let h14 := HP.newQ h13 (.cells true [(vI t22a)])
 eff (.app 1 8 (.c t19) (.c t23)) h14 fun t24 h15 =>
 faC 7 t5 fun t25 =>
 stoC t25 t24 h15 fun h16 =>
 let t26 := wrQ .i64 (addQ t14 (Int.ofNat 1))
 g2 t0 t3 t5 t12 t13 t26 h16) none) (
 S190_0 D m t0 t3 t5 h)
def S190_2 (D : CallD) (m : Nat) : AV → AV → AV → AV → Int → Int → HP → Res2 := nrec (fun _ _ _ _ _ _ _ => none) (fun _ g => S190_2b D m g) m
def e190_3 (k t0 t1 h) := kN k [(p0, t0), (p1, t1)] h
def S190_3 (D : CallD) (m : Nat) (t0 t1 : AV) (h : HP) : Res2 :=
 let t3 := AV.ptr (HP.nxQ h) 0
 let h4 := HP.newQ h (.cells true (AV.cells t1))
 let t8 := (AV.ptr (HP.nxQ h) (Nat.add 0 2))
 ldS t8 h4 fun t9 =>
 let t10 := (AV.agg [(vI (Int.ofNat 16)), (vI (Int.negSucc 0)), (vI (Int.ofNat 0)), (vI (Int.ofNat 0)), (vW (Int.ofNat 0)), (AV.int .u64 (Int.ofNat 0)), (vS t9), (.nils : AV), (vI (Int.ofNat 0))])
 let t5 := AV.ptr (HP.nxQ h4) 0
 let h5 := HP.newQ h4 (.cells true [(kI 0), (kI 0), (kI 0), (kI 0), (.int .u32 (.ofNat 0)), (.int .u64 (.ofNat 0)), (.str []), .nils, (kI 0)])
 stsC 9 t5 t10 h5 fun h6 =>
 let t11 := (AV.ptr (HP.nxQ h) (Nat.add 0 5))
 cellC t11 h6 fun t12 =>
 lenC t12 fun vt13 => asI .i64 vt13 fun t13 =>
 S190_2 D m t0 t3 t5 t12 t13 (Int.ofNat 0) h6
def S190 : SFn := fun D m args h u => nou u <| popV args fun t0 args => popV args fun t1 args => endA args (S190_3 D m t0 t1 h)
theorem T190_1 (hE : FX x190 D m E) : S190_1 D m = e190_1 (E c190_1 []) := by unfold S190_1; rw [hE c190_1]; kernel_rfl
theorem T190_0 (hE : FX x190 D m E) : S190_0 D m = e190_0 (E c190_0 []) := by unfold S190_0; rw [T190_1 hE, hE c190_0]; kernel_rfl
theorem T190_2b (hE : FX x190 D m E) (G2) : S190_2b D m (e190_2 G2) = e190_2 (E c190_2b [.lp v190_2 G2, .blk 0, .sj v190_0 c190_0]) := by unfold S190_2b; rw [T190_0 hE, hE c190_2b]; kernel_rfl
theorem T190_2 (hE : FX x190 D m E) : S190_2 D m = e190_2 (nrec (fun _ => none) (fun _ G2 st => E c190_2b [.lp v190_2 G2, .blk 0, .sj v190_0 c190_0] st) m) :=
  nrec_emb e190_2 (fun _ _ _ _ _ _ _ => none) (fun g => S190_2b D m g) (fun G2 st => E c190_2b [.lp v190_2 G2, .blk 0, .sj v190_0 c190_0] st) rfl (fun g => T190_2b hE g) m
theorem T190_3 (hE : FX x190 D m E) : S190_3 D m = e190_3 (E c190_e []) := by unfold S190_3; rw [T190_2 hE, hE c190_e]; kernel_rfl
theorem X190 : XTie S190 x190 := X_of fun D m E hE args h u => by unfold S190; rw [T190_3 hE]; kernel_rfl
/- 199 -/
def v199_0 : List Pos := [p1]
def c199_0 : XC := (.sO [.mv p17 q1 tI, .mv p4 q17 tI] (.s .ret))
def v199_2 : List Pos := [p0, p1]
def c199_2 : XC := (.block 1 (.s (.oX [.mv p15 q1 tI, .bn p16 .add q15 (ci 1) tI, .mv p1 q16 tI])))
def c199_4 : XC := (.cond q14 (.s .skip) (.s (.exit 0)))
def l199_3 : XL := (XL.of [])
def v199_1 : List Pos := [p0, p1]
def c199_1b : XC := (.sj v199_2 (.opq false (XL.pre [.mv p5 q1 tI, .mv p6 q0 .s, .P p7 (.lens q6) tI, .bn p8 .lss q5 q7 .b, .mv p9 q8 .b, .sp p9, .G p9 true p10 (.mov q0) .s, .G p9 true p11 (.mov q1) tI, .G p9 true p12 (.idxs q10 q11) tC, .o ⟨(some p13), (.call (.fn 158) [q12]), (some (p9, true)), []⟩ .b, .P p14 (.pick q9 q13 (cb false)) .b, .jn p9 [p0, p1, p14]] l199_3) c199_4) c199_2)
def c199_e : XC := (.sO [.mv p4 (ci 0) tI] (.sj v199_0 (.block 0 (.loop v199_1 c199_1b)) c199_0))
def x199 : XFn := ⟨[.s, tI], false, [(.tmp p4)], c199_e⟩
def e199_0 (k t1 h) := kN k [(p1, (vI t1))] h
def S199_0 (D : CallD) (m : Nat) (t1 : Int) (h : HP) : Res2 :=
 some (.ret (vI t1) h, .no)
def e199_2 (k t0 t1 h) := kN k [(p0, (vS t0)), (p1, (vI t1))] h
def S199_2 (D : CallD) (m : Nat) (g1 : LN → Int → HP → Res2) (t0 : LN) (t1 : Int) (h : HP) : Res2 :=
 let t16 := wrQ .i64 (addQ t1 (Int.ofNat 1))
 g1 t0 t16 h
def e199_3 (k t0 t1 t14 h) := kN k [(p0, (vS t0)), (p1, (vI t1)), (p14, (vB t14))] h
def S199_3 (D : CallD) (m : Nat) (g1 : LN → Int → HP → Res2) (t0 : LN) (t1 : Int) (t14 : Bool) (h : HP) : Res2 :=
 br t14 (
 S199_2 D m g1 t0 t1 h) (
 S199_0 D m t1 h)
def e199_1 (k t0 t1 h) := kN k [(p0, (vS t0)), (p1, (vI t1))] h
def S199_1b (D : CallD) (m : Nat) (g1 : LN → Int → HP → Res2) (t0 : LN) (t1 : Int) (h : HP) : Res2 :=
 let t7 := Int.ofNat (lenL t0)
 let t8 := ltQ t1 t7
 br t8 (
 ixC (vS t0) (vI t1) fun vt12 => asI .u8 vt12 fun t12 =>
 cal D 158 [(vC t12)] h fun t13 h6 =>
 asB t13 fun t13a =>
 S199_3 D m g1 t0 t1 t13a h6) (
 S199_3 D m g1 t0 t1 false h)
def S199_1 (D : CallD) (m : Nat) : LN → Int → HP → Res2 := nrec (fun _ _ _ => none) (fun _ g => S199_1b D m g) m
def e199_5 (k t0 t1 h) := kN k [(p0, (vS t0)), (p1, (vI t1))] h
def S199_5 (D : CallD) (m : Nat) (t0 : LN) (t1 : Int) (h : HP) : Res2 :=
 S199_1 D m t0 t1 h
def S199 : SFn := fun D m args h u => nou u <| popS args fun t0 args => popI .i64 args fun t1 args => endA args (S199_5 D m t0 t1 h)
theorem T199_0 (hE : FX x199 D m E) : S199_0 D m = e199_0 (E c199_0 []) := by unfold S199_0; rw [hE c199_0]; kernel_rfl
theorem T199_2 (hE : FX x199 D m E) (G1) : S199_2 D m (e199_1 G1) = e199_2 (E c199_2 [.lp v199_1 G1, .blk 0, .sj v199_0 c199_0]) := by unfold S199_2; rw [hE c199_2]; kernel_rfl
theorem T199_3 (hE : FX x199 D m E) (G1) : S199_3 D m (e199_1 G1) = e199_3 (E (.opq false l199_3 c199_4) [.sj v199_2 c199_2, .lp v199_1 G1, .blk 0, .sj v199_0 c199_0]) := by unfold S199_3; rw [T199_2 hE G1, T199_0 hE, hE (.opq false l199_3 c199_4)]; kernel_rfl
theorem T199_1b (hE : FX x199 D m E) (G1) : S199_1b D m (e199_1 G1) = e199_1 (E c199_1b [.lp v199_1 G1, .blk 0, .sj v199_0 c199_0]) := by unfold S199_1b; rw [T199_3 hE G1, hE c199_1b]; kernel_rfl
theorem T199_1 (hE : FX x199 D m E) : S199_1 D m = e199_1 (nrec (fun _ => none) (fun _ G1 st => E c199_1b [.lp v199_1 G1, .blk 0, .sj v199_0 c199_0] st) m) :=
  nrec_emb e199_1 (fun _ _ _ => none) (fun g => S199_1b D m g) (fun G1 st => E c199_1b [.lp v199_1 G1, .blk 0, .sj v199_0 c199_0] st) rfl (fun g => T199_1b hE g) m
theorem T199_5 (hE : FX x199 D m E) : S199_5 D m = e199_5 (E c199_e []) := by unfold S199_5; rw [T199_1 hE, hE c199_e]; kernel_rfl
theorem X199 : XTie S199 x199 := X_of fun D m E hE args h u => by unfold S199; rw [T199_5 hE]; kernel_rfl
/- 201 -/
def v201_4 : List Pos := [p1, p2, p3, p4]
def c201_4 : XC := (.seq (.ops true (XL.of [.L p151 (.cells 5 q1) .v, .L p153 (.cells 7 q4) .v, .o ⟨(some p152), (.call (.fn 123) [q151, (.c (.str [59]))]), none, [⟨none, .cells 7 q4, p153⟩]⟩ .v, .o ⟨none, (.e (.stores 5 q2 q152)), none, [⟨none, .cells 7 q4, p153⟩]⟩ .v, .ss 7 q3 q153])) (.s .ret))
def v201_3 : List Pos := [p1, p2, p3, p4, p5]
def c201_3 : XC := (.sj v201_4 (.sO [.L p140 (.cells 5 q1) .v, .cl p141 117 [q140, (.c (.str [59]))] .b, .P p142 (.un .not q141) .b] (.cond q142 (.sO [.L p144 (.cells 5 q1) .v, .cl p145 125 [q144] .v, .mv p143 q145 .v, .P p146 (.ext q143 0) .v, .P p147 (.ext q143 1) .v, .ss 5 q1 q146, .ss 8 q5 q147] (.s (.oX [.L p148 (.cells 8 q5) .v, .al p149 (.bsl [(kI 0), (.str []), (.str []), (.int .u32 (.ofNat 0)), (.int .u64 (.ofNat 0)), .nils, (kI 0), (kI 0)] 1 [⟨0, 8, q148⟩]), .fa p150 1 q4, .st q150 q149]))) (.s .skip))) c201_4)
def v201_2 : List Pos := [p1, p2, p3, p4, p5]
def c201_2 : XC := (.sO [.fa p134 0 q4, .st q134 (ci 7)] (.sj v201_3 (.sO [.L p135 (.cells 5 q1) .v, .cl p136 117 [q135, (.c (.str [114, 101, 116, 117, 114, 110]))] .b] (.cond q136 (.sO [.fa p137 0 q4, .st q137 (ci 4)] (.s (.oX [.L p138 (.cells 5 q1) .v, .cl p139 118 [q138] .v, .ss 5 q1 q139]))) (.s .skip))) c201_3))
def v201_6 : List Pos := [p1, p2, p3, p4]
def c201_6 : XC := (.seq (.ops true (XL.of [.L p130 (.cells 5 q1) .v, .L p133 (.cells 7 q4) .v, .o ⟨(some p131), (.call (.fn 118) [q130]), none, [⟨none, .cells 7 q4, p133⟩]⟩ .v, .o ⟨(some p132), (.call (.fn 123) [q131, (.c (.str [59]))]), none, [⟨none, .cells 7 q4, p133⟩]⟩ .v, .o ⟨none, (.e (.stores 5 q2 q132)), none, [⟨none, .cells 7 q4, p133⟩]⟩ .v, .ss 7 q3 q133])) (.s .ret))
def c201_7 : XC := (.cond q125 (.sO [.fa p126 0 q4, .st q126 (ci 5)] (.sj v201_6 (.sO [.L p127 (.cells 5 q1) .v, .cl p128 117 [q127, (.c (.str [99, 111, 110, 116, 105, 110, 117, 101]))] .b] (.cond q128 (.s (.oX [.fa p129 0 q4, .st q129 (ci 6)])) (.s .skip))) c201_6)) (.s .skip))
def l201_5 : XL := (XL.of [])
def v201_1 : List Pos := [p1, p2, p3, p4, p5]
def c201_1 : XC := (.sj v201_2 (.opq false (XL.pre [.L p120 (.cells 5 q1) .v, .cl p121 117 [q120, (.c (.str [98, 114, 101, 97, 107]))] .b, .mv p122 q121 .b, .sp p122, .o ⟨(some p123), (.l (.cells 5 q1)), (some (p122, false)), []⟩ .v, .o ⟨(some p124), (.call (.fn 117) [q123, (.c (.str [99, 111, 110, 116, 105, 110, 117, 101]))]), (some (p122, false)), []⟩ .b, .P p125 (.pick q122 (cb true) q124) .b, .jn p122 [p1, p2, p3, p4, p5, p125]] l201_5) c201_7) c201_2)
def v201_10 : List Pos := [p1, p2, p3, p4]
def c201_10 : XC := (.seq (.ops true (XL.of [.L p117 (.cells 5 q1) .v, .L p119 (.cells 7 q4) .v, .o ⟨(some p118), (.call (.fn 123) [q117, (.c (.str [59]))]), none, [⟨none, .cells 7 q4, p119⟩]⟩ .v, .o ⟨none, (.e (.stores 5 q2 q118)), none, [⟨none, .cells 7 q4, p119⟩]⟩ .v, .ss 7 q3 q119])) (.s .ret))
def c201_11 : XC := (.cond q86 (.sO [.fa p87 0 q4, .st q87 (ci 8)] (.sO [.L p89 (.cells 5 q1) .v, .cl p90 119 [q89] .v, .mv p88 q90 .v, .P p91 (.ext q88 0) .v, .P p92 (.ext q88 1) tI, .ss 5 q1 q91, .fa p93 4 q4, .st q93 q92] (.sO [.L p95 (.cells 5 q1) .v, .cl p96 120 [q95, (ci 1)] .v, .mv p94 q96 .v, .P p97 (.ext q94 0) .v, .P p98 (.ext q94 1) .s, .ss 5 q1 q97, .fa p99 3 q4, .st q99 q98] (.sO [.L p101 (.cells 5 q1) .v, .cl p102 124 [q101] .v, .mv p100 q102 .v, .P p103 (.ext q100 0) .v, .P p104 (.ext q100 1) tI, .ss 5 q1 q103, .fa p105 5 q4, .st q105 q104] (.sj v201_10 (.sO [.L p106 (.cells 5 q1) .v, .cl p107 117 [q106, (.c (.str [61]))] .b] (.cond q107 (.sO [.L p109 (.cells 5 q1) .v, .cl p110 118 [q109] .v, .cl p111 125 [q110] .v, .mv p108 q111 .v, .P p112 (.ext q108 0) .v, .P p113 (.ext q108 1) .v, .ss 5 q1 q112, .ss 8 q5 q113] (.s (.oX [.L p114 (.cells 8 q5) .v, .al p115 (.bsl [(kI 0), (.str []), (.str []), (.int .u32 (.ofNat 0)), (.int .u64 (.ofNat 0)), .nils, (kI 0), (kI 0)] 1 [⟨0, 8, q114⟩]), .fa p116 1 q4, .st q116 q115]))) (.s .skip))) c201_10))))) (.s .skip))
def l201_9 : XL := (XL.of [])
def l201_8 : XL := (XL.pre [.mv p83 q82 .b, .sp p83, .o ⟨(some p84), (.l (.cells 5 q1)), (some (p83, false)), []⟩ .v, .o ⟨(some p85), (.call (.fn 117) [q84, (.c (.str [118, 111, 105, 100]))]), (some (p83, false)), []⟩ .b, .P p86 (.pick q83 (cb true) q85) .b, .jn p83 [p1, p2, p3, p4, p5, p86]] l201_9)
def v201_0 : List Pos := [p1, p2, p3, p4, p5]
def c201_0 : XC := (.sj v201_1 (.opq false (XL.pre [.L p77 (.cells 5 q1) .v, .cl p78 117 [q77, (.c (.str [105, 110, 116]))] .b, .mv p79 q78 .b, .sp p79, .o ⟨(some p80), (.l (.cells 5 q1)), (some (p79, false)), []⟩ .v, .o ⟨(some p81), (.call (.fn 117) [q80, (.c (.str [100, 111, 117, 98, 108, 101]))]), (some (p79, false)), []⟩ .b, .P p82 (.pick q79 (cb true) q81) .b, .jn p79 [p1, p2, p3, p4, p5, p82]] l201_8) c201_11) c201_1)
def v201_14 : List Pos := [p1, p2, p3, p4]
def c201_14 : XC := (.seq (.ops true (XL.of [.L p75 (.cells 5 q1) .v, .L p76 (.cells 7 q4) .v, .o ⟨none, (.e (.stores 5 q2 q75)), none, [⟨none, .cells 7 q4, p76⟩]⟩ .v, .ss 7 q3 q76])) (.s .ret))
def c201_16 : XC := (.cond q62 (.sO [.L p64 (.cells 5 q1) .v, .cl p65 118 [q64] .v, .cl p66 162 [q65] .v, .mv p63 q66 .v, .P p67 (.ext q63 0) .v, .P p68 (.ext q63 1) .v, .ss 5 q1 q67, .ss 7 q6 q68] (.s (.oX [.fa p69 2 q4, .ld p70 q69 .v, .L p71 (.cells 7 q6) .v, .al p72 (.bsl [(kI 0), .nils, .nils, (.str []), (kI 0), (kI 0), (kI 0)] 1 [⟨0, 7, q71⟩]), .o ⟨(some p73), (.e (.app 7 96 q70 q72)), none, []⟩ .v, .fa p74 2 q4, .st q74 q73]))) (.s .skip))
def l201_15 : XL := (XL.of [])
def v201_13 : List Pos := [p1, p2, p3, p4, p5, p6]
def c201_13 : XC := (.sO [.L p35 (.cells 5 q1) .v, .cl p36 118 [q35] .v, .cl p37 123 [q36, (.c (.str [40]))] .v, .cl p38 125 [q37] .v, .mv p34 q38 .v, .P p39 (.ext q34 0) .v, .P p40 (.ext q34 1) .v, .ss 5 q1 q39, .ss 8 q5 q40] (.sO [.L p41 (.cells 8 q5) .v, .al p42 (.bsl [(kI 0), (.str []), (.str []), (.int .u32 (.ofNat 0)), (.int .u64 (.ofNat 0)), .nils, (kI 0), (kI 0)] 1 [⟨0, 8, q41⟩]), .fa p43 1 q4, .st q43 q42] (.sO [.L p45 (.cells 5 q1) .v, .cl p46 123 [q45, (.c (.str [41]))] .v, .cl p47 162 [q46] .v, .mv p44 q47 .v, .P p48 (.ext q44 0) .v, .P p49 (.ext q44 1) .v, .ss 5 q1 q48, .ss 7 q6 q49] (.sO [.fa p50 2 q4, .ld p51 q50 .v, .L p52 (.cells 7 q6) .v, .al p53 (.bsl [(kI 0), .nils, .nils, (.str []), (kI 0), (kI 0), (kI 0)] 1 [⟨0, 7, q52⟩]), .o ⟨(some p54), (.e (.app 7 96 q51 q53)), none, []⟩ .v, .fa p55 2 q4, .st q55 q54] (.sj v201_14 (.opq false (XL.pre [.fa p56 0 q4, .ld p57 q56 tI, .bn p58 .eql q57 (ci 2) .b, .mv p59 q58 .b, .sp p59, .o ⟨(some p60), (.l (.cells 5 q1)), (some (p59, true)), []⟩ .v, .o ⟨(some p61), (.call (.fn 117) [q60, (.c (.str [101, 108, 115, 101]))]), (some (p59, true)), []⟩ .b, .P p62 (.pick q59 q61 (cb false)) .b, .jn p59 [p1, p2, p3, p4, p6, p62]] l201_15) c201_16) c201_14)))))
def c201_17 : XC := (.cond q29 (.sO [.fa p30 0 q4, .st q30 (ci 2)] (.sj v201_13 (.sO [.L p31 (.cells 5 q1) .v, .cl p32 117 [q31, (.c (.str [119, 104, 105, 108, 101]))] .b] (.cond q32 (.s (.oX [.fa p33 0 q4, .st q33 (ci 3)])) (.s .skip))) c201_13)) (.s .skip))
def l201_12 : XL := (XL.of [])
def c201_e : XC := (.sO [.al p1 (.box q0), .al p2 (.new [.nils, (kI 0), (kI 0), (kI 0), (kI 0)]), .al p3 (.new [(kI 0), .nils, .nils, (.str []), (kI 0), (kI 0), (kI 0)])] (.sO [.L p7 (.cells 5 q1) .v, .cl p8 82 [q7] .v, .P p9 (.field 2 1 false q8) tI, .P p10 (.build [(kI 0), .nils, .nils, (.str []), (kI 0), (kI 0), (kI 0)] [⟨6, 1, q9⟩]) .v, .al p4 (.new [(kI 0), .nils, .nils, (.str []), (kI 0), (kI 0), (kI 0)]), .ss 7 q4 q10] (.sO [.P p11 (.build [(kI 0), (.str []), (.str []), (.int .u32 (.ofNat 0)), (.int .u64 (.ofNat 0)), .nils, (kI 0), (kI 0)] []) .v, .al p5 (.new [(kI 0), (.str []), (.str []), (.int .u32 (.ofNat 0)), (.int .u64 (.ofNat 0)), .nils, (kI 0), (kI 0)]), .ss 8 q5 q11] (.sO [.P p12 (.build [(kI 0), .nils, .nils, (.str []), (kI 0), (kI 0), (kI 0)] []) .v, .al p6 (.new [(kI 0), .nils, .nils, (.str []), (kI 0), (kI 0), (kI 0)]), .ss 7 q6 q12] (.seq (.seq (.oX [.fa p13 3 q1, .ld p14 q13 tI, .bn p15 .neq q14 (ci 0) .b]) (.cond q15 (.seq (.ops true (XL.of [.L p16 (.cells 5 q1) .v, .L p17 (.cells 7 q4) .v, .o ⟨none, (.e (.stores 5 q2 q16)), none, [⟨none, .cells 7 q4, p17⟩]⟩ .v, .ss 7 q3 q17])) .ret) .skip)) (.seq (.seq (.oX [.L p18 (.cells 5 q1) .v, .cl p19 117 [q18, (.c (.str [123]))] .b]) (.cond q19 (.seq (.oX [.L p20 (.cells 5 q1) .v, .cl p21 122 [q20] .v, .P p22 (.ext q21 0) .v, .P p23 (.ext q21 1) .v, .ss 5 q2 q22, .ss 7 q3 q23]) .ret) .skip)) (.sj v201_0 (.opq false (XL.pre [.L p24 (.cells 5 q1) .v, .cl p25 117 [q24, (.c (.str [105, 102]))] .b, .mv p26 q25 .b, .sp p26, .o ⟨(some p27), (.l (.cells 5 q1)), (some (p26, false)), []⟩ .v, .o ⟨(some p28), (.call (.fn 117) [q27, (.c (.str [119, 104, 105, 108, 101]))]), (some (p26, false)), []⟩ .b, .P p29 (.pick q26 (cb true) q28) .b, .jn p26 [p1, p2, p3, p4, p5, p6, p29]] l201_12) c201_17) c201_0)))))))
def x201 : XFn := ⟨[.v], false, [(.cells 5 p2), (.cells 7 p3)], c201_e⟩
def e201_4 (k t1 t2 t3 t4 h) := kN k [(p1, t1), (p2, t2), (p3, t3), (p4, t4)] h
def S201_4 (D : CallD) (m : Nat) (t1 t2 t3 t4 : AV) (h : HP) : Res2 :=
 cellsC 5 t1 h fun t151 =>
 cellsC 7 t4 h fun t153 =>
 cal D 123 [t151, (vS ([59] : LN))] h fun t152 h36 =>
 br (again [⟨none, .cells 7 q4, p153⟩] (mkT [(p153, t153), (p4, t4)]) h36) (
 stsC 5 t2 t152 h36 fun h37 =>
 br (againE (.stores 5 q2 q152) [⟨none, .cells 7 q4, p153⟩] (mkT [(p2, t2), (p153, t153), (p4, t4)]) h37) (
 stsC 7 t3 t153 h37 fun h38 =>
 cellsC 5 t2 h38 fun t2a =>
 cellsC 7 t3 h38 fun t3a =>
 some (.ret (.tup [t2a, t3a]) h38, .no)) none) none
def e201_3 (k t1 t2 t3 t4 t5 h) := kN k [(p1, t1), (p2, t2), (p3, t3), (p4, t4), (p5, t5)] h
def S201_3 (D : CallD) (m : Nat) (t1 t2 t3 t4 t5 : AV) (h : HP) : Res2 :=
 cellsC 5 t1 h fun t140 =>
 cal D 117 [t140, (vS ([59] : LN))] h fun t141 h39 =>
 asB t141 fun t141a =>
 let t142 := !t141a
 br t142 (
 cellsC 5 t1 h39 fun t144 =>
 cal D 125 [t144] h39 fun t145 h40 =>
 extC t145 0 fun t146 =>
 extC t145 1 fun t147 =>
 stsC 5 t1 t146 h40 fun h41 =>
 stsC 8 t5 t147 h41 fun h42 =>
 cellsC 8 t5 h42 fun t148 =>
 obQ (evA (.bsl [(kI 0), (.str []), (.str []), (.int .u32 (.ofNat 0)), (.int .u64 (.ofNat 0)), .nils, (kI 0), (kI 0)] 1 [⟨0, 8, (.c t148)⟩]) .leaf) fun r43 =>
 let t149 := vkV r43.2 (HP.nxQ h42)
 let h44 := HP.newQ h42 r43.1
 faC 1 t4 fun t150 =>
 stoC t150 t149 h44 fun h45 =>
 S201_4 D m t1 t2 t3 t4 h45) (
 S201_4 D m t1 t2 t3 t4 h39)
def e201_2 (k t1 t2 t3 t4 t5 h) := kN k [(p1, t1), (p2, t2), (p3, t3), (p4, t4), (p5, t5)] h
def S201_2 (D : CallD) (m : Nat) (t1 t2 t3 t4 t5 : AV) (h : HP) : Res2 :=
 faC 0 t4 fun t134 =>
 stoC t134 (vI (Int.ofNat 7)) h fun h35 =>
 cellsC 5 t1 h35 fun t135 =>
 cal D 117 [t135, (vS ([114, 101, 116, 117, 114, 110] : LN))] h35 fun t136 h46 =>
 asB t136 fun t136a =>
 br t136a (
 faC 0 t4 fun t137 =>
 stoC t137 (vI (Int.ofNat 4)) h46 fun h47 =>
 cellsC 5 t1 h47 fun t138 =>
 cal D 118 [t138] h47 fun t139 h48 =>
 stsC 5 t1 t139 h48 fun h49 =>
 S201_3 D m t1 t2 t3 t4 t5 h49) (
 S201_3 D m t1 t2 t3 t4 t5 h46)
def e201_6 (k t1 t2 t3 t4 h) := kN k [(p1, t1), (p2, t2), (p3, t3), (p4, t4)] h
def S201_6 (D : CallD) (m : Nat) (t1 t2 t3 t4 : AV) (h : HP) : Res2 :=
 cellsC 5 t1 h fun t130 =>
 cellsC 7 t4 h fun t133 =>
 cal D 118 [t130] h fun t131 h52 =>
 br (again [⟨none, .cells 7 q4, p133⟩] (mkT [(p133, t133), (p4, t4)]) h52) (
 cal D 123 [t131, (vS ([59] : LN))] h52 fun t132 h53 =>
 br (again [⟨none, .cells 7 q4, p133⟩] (mkT [(p133, t133), (p4, t4)]) h53) (
 stsC 5 t2 t132 h53 fun h54 =>
 br (againE (.stores 5 q2 q132) [⟨none, .cells 7 q4, p133⟩] (mkT [(p2, t2), (p133, t133), (p4, t4)]) h54) (
 stsC 7 t3 t133 h54 fun h55 =>
 cellsC 5 t2 h55 fun t2a =>
 cellsC 7 t3 h55 fun t3a =>
 some (.ret (.tup [t2a, t3a]) h55, .no)) none) none) none
def e201_5 (k t1 t2 t3 t4 t5 t125 h) := kN k [(p1, t1), (p2, t2), (p3, t3), (p4, t4), (p5, t5), (p125, (vB t125))] h
def S201_5 (D : CallD) (m : Nat) (t1 t2 t3 t4 t5 : AV) (t125 : Bool) (h : HP) : Res2 :=
 br t125 (
 faC 0 t4 fun t126 =>
 stoC t126 (vI (Int.ofNat 5)) h fun h51 =>
 cellsC 5 t1 h51 fun t127 =>
 cal D 117 [t127, (vS ([99, 111, 110, 116, 105, 110, 117, 101] : LN))] h51 fun t128 h56 =>
 asB t128 fun t128a =>
 br t128a (
 faC 0 t4 fun t129 =>
 stoC t129 (vI (Int.ofNat 6)) h56 fun h57 =>
 S201_6 D m t1 t2 t3 t4 h57) (
 S201_6 D m t1 t2 t3 t4 h56)) (
 S201_2 D m t1 t2 t3 t4 t5 h)
def e201_1 (k t1 t2 t3 t4 t5 h) := kN k [(p1, t1), (p2, t2), (p3, t3), (p4, t4), (p5, t5)] h
def S201_1 (D : CallD) (m : Nat) (t1 t2 t3 t4 t5 : AV) (h : HP) : Res2 :=
 cellsC 5 t1 h fun t120 =>
 cal D 117 [t120, (vS ([98, 114, 101, 97, 107] : LN))] h fun t121 h50 =>
 asB t121 fun t121a =>
 br t121a (
 S201_5 D m t1 t2 t3 t4 t5 true h50) (
 cellsC 5 t1 h50 fun t123 =>
 cal D 117 [t123, (vS ([99, 111, 110, 116, 105, 110, 117, 101] : LN))] h50 fun t124 h58 =>
 asB t124 fun t124a =>
 S201_5 D m t1 t2 t3 t4 t5 t124a h58)
def e201_10 (k t1 t2 t3 t4 h) := kN k [(p1, t1), (p2, t2), (p3, t3), (p4, t4)] h
def S201_10 (D : CallD) (m : Nat) (t1 t2 t3 t4 : AV) (h : HP) : Res2 :=
 cellsC 5 t1 h fun t117 =>
 cellsC 7 t4 h fun t119 =>
 cal D 123 [t117, (vS ([59] : LN))] h fun t118 h70 =>
 br (again [⟨none, .cells 7 q4, p119⟩] (mkT [(p119, t119), (p4, t4)]) h70) (
 stsC 5 t2 t118 h70 fun h71 =>
 br (againE (.stores 5 q2 q118) [⟨none, .cells 7 q4, p119⟩] (mkT [(p2, t2), (p119, t119), (p4, t4)]) h71) (
 stsC 7 t3 t119 h71 fun h72 =>
 cellsC 5 t2 h72 fun t2a =>
 cellsC 7 t3 h72 fun t3a =>
 some (.ret (.tup [t2a, t3a]) h72, .no)) none) none
def e201_9 (k t1 t2 t3 t4 t5 t86 h) := kN k [(p1, t1), (p2, t2), (p3, t3), (p4, t4), (p5, t5), (p86, (vB t86))] h
def S201_9 (D : CallD) (m : Nat) (t1 t2 t3 t4 t5 : AV) (t86 : Bool) (h : HP) : Res2 :=
 br t86 (
 faC 0 t4 fun t87 =>
 stoC t87 (vI (Int.ofNat 8)) h fun h60 =>
 cellsC 5 t1 h60 fun t89 =>
 cal D 119 [t89] h60 fun t90 h61 =>
 extC t90 0 fun t91 =>
 extC t90 1 fun vt92 => asI .i64 vt92 fun t92 =>
 stsC 5 t1 t91 h61 fun h62 =>
 faC 4 t4 fun t93 =>
 stoC t93 (vI t92) h62 fun h63 =>
 cellsC 5 t1 h63 fun t95 =>
 cal D 120 [t95, (vI (Int.ofNat 1))] h63 fun t96 h64 =>
 extC t96 0 fun t97 =>
 extC t96 1 fun vt98 => asS vt98 fun t98 =>
 stsC 5 t1 t97 h64 fun h65 =>
 faC 3 t4 fun t99 =>
 stoC t99 (vS t98) h65 fun h66 =>
 cellsC 5 t1 h66 fun t101 =>
 cal D 124 [t101] h66 fun t102 h67 =>
 extC t102 0 fun t103 =>
 extC t102 1 fun vt104 => asI .i64 vt104 fun t104 =>
 stsC 5 t1 t103 h67 fun h68 =>
 faC 5 t4 fun t105 =>
 stoC t105 (vI t104) h68 fun h69 =>
 cellsC 5 t1 h69 fun t106 =>
 cal D 117 [t106, (vS ([61] : LN))] h69 fun t107 h73 =>
 asB t107 fun t107a =>
 br t107a (
 cellsC 5 t1 h73 fun t109 =>
 cal D 118 [t109] h73 fun t110 h74 =>
 cal D 125 [t110] h74 fun t111 h75 =>
 extC t111 0 fun t112 =>
 extC t111 1 fun t113 =>
 stsC 5 t1 t112 h75 fun h76 =>
 stsC 8 t5 t113 h76 fun h77 =>
 cellsC 8 t5 h77 fun t114 =>
 obQ (evA (.bsl [(kI 0), (.str []), (.str []), (.int .u32 (.ofNat 0)), (.int .u64 (.ofNat 0)), .nils, (kI 0), (kI 0)] 1 [⟨0, 8, (.c t114)⟩]) .leaf) fun r78 =>
 let t115 := vkV r78.2 (HP.nxQ h77)
 let h79 := HP.newQ h77 r78.1
 faC 1 t4 fun t116 =>
 stoC t116 t115 h79 fun h80 =>
 S201_10 D m t1 t2 t3 t4 h80) (
 S201_10 D m t1 t2 t3 t4 h73)) (
 S201_1 D m t1 t2 t3 t4 t5 h)
def e201_8 (k t1 t2 t3 t4 t5 t82 h) := kN k [(p1, t1), (p2, t2), (p3, t3), (p4, t4), (p5, t5), (p82, (vB t82))] h
def S201_8 (D : CallD) (m : Nat) (t1 t2 t3 t4 t5 : AV) (t82 : Bool) (h : HP) : Res2 :=
 br t82 (
 S201_9 D m t1 t2 t3 t4 t5 true h) (
 cellsC 5 t1 h fun t84 =>
 cal D 117 [t84, (vS ([118, 111, 105, 100] : LN))] h fun t85 h81 =>
 asB t85 fun t85a =>
 S201_9 D m t1 t2 t3 t4 t5 t85a h81)
def e201_0 (k t1 t2 t3 t4 t5 h) := kN k [(p1, t1), (p2, t2), (p3, t3), (p4, t4), (p5, t5)] h
def S201_0 (D : CallD) (m : Nat) (t1 t2 t3 t4 t5 : AV) (h : HP) : Res2 :=
 cellsC 5 t1 h fun t77 =>
 cal D 117 [t77, (vS ([105, 110, 116] : LN))] h fun t78 h59 =>
 asB t78 fun t78a =>
 br t78a (
 S201_8 D m t1 t2 t3 t4 t5 true h59) (
 cellsC 5 t1 h59 fun t80 =>
 cal D 117 [t80, (vS ([100, 111, 117, 98, 108, 101] : LN))] h59 fun t81 h82 =>
 asB t81 fun t81a =>
 S201_8 D m t1 t2 t3 t4 t5 t81a h82)
def e201_14 (k t1 t2 t3 t4 h) := kN k [(p1, t1), (p2, t2), (p3, t3), (p4, t4)] h
def S201_14 (D : CallD) (m : Nat) (t1 t2 t3 t4 : AV) (h : HP) : Res2 :=
 cellsC 5 t1 h fun t75 =>
 cellsC 7 t4 h fun t76 =>
 stsC 5 t2 t75 h fun h101 =>
 br (againE (.stores 5 q2 q75) [⟨none, .cells 7 q4, p76⟩] (mkT [(p2, t2), (p76, t76), (p4, t4)]) h101) (
 stsC 7 t3 t76 h101 fun h102 =>
 cellsC 5 t2 h102 fun t2a =>
 cellsC 7 t3 h102 fun t3a =>
 some (.ret (.tup [t2a, t3a]) h102, .no)) none
def e201_15 (k t1 t2 t3 t4 t6 t62 h) := kN k [(p1, t1), (p2, t2), (p3, t3), (p4, t4), (p6, t6), (p62, (vB t62))] h
def S201_15 (D : CallD) (m : Nat) (t1 t2 t3 t4 t6 : AV) (t62 : Bool) (h : HP) : Res2 :=
 br t62 (
 cellsC 5 t1 h fun t64 =>
 cal D 118 [t64] h fun t65 h104 =>
 cal D 162 [t65] h104 fun t66 h105 =>
 extC t66 0 fun t67 =>
 extC t66 1 fun t68 =>
 stsC 5 t1 t67 h105 fun h106 =>
 stsC 7 t6 t68 h106 fun h107 =>
 faC 2 t4 fun t69 =>
 cellC t69 h107 fun t70 =>
 cellsC 7 t6 h107 fun t71 =>
 obQ (evA (.bsl [(kI 0), .nils, .nils, (.str []), (kI 0), (kI 0), (kI 0)] 1 [⟨0, 7, (.c t71)⟩]) .leaf) fun r108 =>
 let t72 := vkV r108.2 (HP.nxQ h107)
 let h109 := HP.newQ h107 r108.1
 eff (.app 7 96 (.c t70) (.c t72)) h109 fun t73 h110 =>
 faC 2 t4 fun t74 =>
 stoC t74 t73 h110 fun h111 =>
 S201_14 D m t1 t2 t3 t4 h111) (
 S201_14 D m t1 t2 t3 t4 h)
def e201_13 (k t1 t2 t3 t4 t5 t6 h) := kN k [(p1, t1), (p2, t2), (p3, t3), (p4, t4), (p5, t5), (p6, t6)] h
def S201_13 (D : CallD) (m : Nat) (t1 t2 t3 t4 t5 t6 : AV) (h : HP) : Res2 :=
 cellsC 5 t1 h fun t35 =>
 cal D 118 [t35] h fun t36 h85 =>
 cal D 123 [t36, (vS ([40] : LN))] h85 fun t37 h86 =>
 cal D 125 [t37] h86 fun t38 h87 =>
 extC t38 0 fun t39 =>
 extC t38 1 fun t40 =>
 stsC 5 t1 t39 h87 fun h88 =>
 stsC 8 t5 t40 h88 fun h89 =>
 cellsC 8 t5 h89 fun t41 =>
 obQ (evA (.bsl [(kI 0), (.str []), (.str []), (.int .u32 (.ofNat 0)), (.int .u64 (.ofNat 0)), .nils, (kI 0), (kI 0)] 1 [⟨0, 8, (.c t41)⟩]) .leaf) fun r90 =>
 let t42 := vkV r90.2 (HP.nxQ h89)
 let h91 := HP.newQ h89 r90.1
 faC 1 t4 fun t43 =>
 stoC t43 t42 h91 fun h92 =>
 cellsC 5 t1 h92 fun t45 =>
 cal D 123 [t45, (vS ([41] : LN))] h92 fun t46 h93 =>
 cal D 162 [t46] h93 fun t47 h94 =>
 extC t47 0 fun t48 =>
 extC t47 1 fun t49 =>
 stsC 5 t1 t48 h94 fun h95 =>
 stsC 7 t6 t49 h95 fun h96 =>
 faC 2 t4 fun t50 =>
 cellC t50 h96 fun t51 =>
 cellsC 7 t6 h96 fun t52 =>
 obQ (evA (.bsl [(kI 0), .nils, .nils, (.str []), (kI 0), (kI 0), (kI 0)] 1 [⟨0, 7, (.c t52)⟩]) .leaf) fun r97 =>
 let t53 := vkV r97.2 (HP.nxQ h96)
 let h98 := HP.newQ h96 r97.1
 eff (.app 7 96 (.c t51) (.c t53)) h98 fun t54 h99 =>
 faC 2 t4 fun t55 =>
 stoC t55 t54 h99 fun h100 =>
 faC 0 t4 fun t56 =>
 ldI t56 h100 fun t57 =>
 let t58 := eqQ t57 (Int.ofNat 2)
 br t58 (
 cellsC 5 t1 h100 fun t60 =>
 cal D 117 [t60, (vS ([101, 108, 115, 101] : LN))] h100 fun t61 h103 =>
 asB t61 fun t61a =>
 S201_15 D m t1 t2 t3 t4 t6 t61a h103) (
 S201_15 D m t1 t2 t3 t4 t6 false h100)
def e201_12 (k t1 t2 t3 t4 t5 t6 t29 h) := kN k [(p1, t1), (p2, t2), (p3, t3), (p4, t4), (p5, t5), (p6, t6), (p29, (vB t29))] h
def S201_12 (D : CallD) (m : Nat) (t1 t2 t3 t4 t5 t6 : AV) (t29 : Bool) (h : HP) : Res2 :=
 br t29 (
 faC 0 t4 fun t30 =>
 stoC t30 (vI (Int.ofNat 2)) h fun h84 =>
 cellsC 5 t1 h84 fun t31 =>
 cal D 117 [t31, (vS ([119, 104, 105, 108, 101] : LN))] h84 fun t32 h112 =>
 asB t32 fun t32a =>
 br t32a (
 faC 0 t4 fun t33 =>
 stoC t33 (vI (Int.ofNat 3)) h112 fun h113 =>
 S201_13 D m t1 t2 t3 t4 t5 t6 h113) (
 S201_13 D m t1 t2 t3 t4 t5 t6 h112)) (
 S201_0 D m t1 t2 t3 t4 t5 h)
def e201_18 (k t0 h) := kN k [(p0, t0)] h
def S201_18 (D : CallD) (m : Nat) (t0 : AV) (h : HP) : Res2 :=
 let t1 := AV.ptr (HP.nxQ h) 0
 let h19 := HP.newQ h (.cells true (AV.cells t0))
 let t2 := AV.ptr (HP.nxQ h19) 0
 let h20 := HP.newQ h19 (.cells true [.nils, (kI 0), (kI 0), (kI 0), (kI 0)])
 let t3 := AV.ptr (HP.nxQ h20) 0
 let h21 := HP.newQ h20 (.cells true [(kI 0), .nils, .nils, (.str []), (kI 0), (kI 0), (kI 0)])
 cellsC 5 t1 h21 fun t7 =>
 cal D 82 [t7] h21 fun t8 h22 =>
 fldC 2 1 false t8 fun vt9 => asI .i64 vt9 fun t9 =>
 let t10 := (AV.agg [(vI (Int.ofNat 0)), (.nils : AV), (.nils : AV), (vS ([] : LN)), (vI (Int.ofNat 0)), (vI (Int.ofNat 0)), (vI t9)])
 let t4 := AV.ptr (HP.nxQ h22) 0
 let h23 := HP.newQ h22 (.cells true [(kI 0), .nils, .nils, (.str []), (kI 0), (kI 0), (kI 0)])
 stsC 7 t4 t10 h23 fun h24 =>
 let t11 := (AV.agg [(vI (Int.ofNat 0)), (vS ([] : LN)), (vS ([] : LN)), (vW (Int.ofNat 0)), (AV.int .u64 (Int.ofNat 0)), (.nils : AV), (vI (Int.ofNat 0)), (vI (Int.ofNat 0))])
 let t5 := AV.ptr (HP.nxQ h24) 0
 let h25 := HP.newQ h24 (.cells true [(kI 0), (.str []), (.str []), (.int .u32 (.ofNat 0)), (.int .u64 (.ofNat 0)), .nils, (kI 0), (kI 0)])
 stsC 8 t5 t11 h25 fun h26 =>
 let t12 := (AV.agg [(vI (Int.ofNat 0)), (.nils : AV), (.nils : AV), (vS ([] : LN)), (vI (Int.ofNat 0)), (vI (Int.ofNat 0)), (vI (Int.ofNat 0))])
 let t6 := AV.ptr (HP.nxQ h26) 0
 let h27 := HP.newQ h26 (.cells true [(kI 0), .nils, .nils, (.str []), (kI 0), (kI 0), (kI 0)])
 stsC 7 t6 t12 h27 fun h28 =>
 let t13 := (AV.ptr (HP.nxQ h) (Nat.add 0 3))
 ldI t13 h28 fun t14 =>
 let t15 := notQ (eqQ t14 (Int.ofNat 0))
 br t15 (
 cellsC 5 t1 h28 fun t16 =>
 cellsC 7 t4 h28 fun t17 =>
 stsC 5 t2 t16 h28 fun h29 =>
 br (againE (.stores 5 q2 q16) [⟨none, .cells 7 q4, p17⟩] (mkT [(p2, t2), (p17, t17), (p4, t4)]) h29) (
 stsC 7 t3 t17 h29 fun h30 =>
 cellsC 5 t2 h30 fun t2a =>
 cellsC 7 t3 h30 fun t3a =>
 some (.ret (.tup [t2a, t3a]) h30, .no)) none) (
 cellsC 5 t1 h28 fun t18 =>
 cal D 117 [t18, (vS ([123] : LN))] h28 fun t19 h31 =>
 asB t19 fun t19a =>
 br t19a (
 cellsC 5 t1 h31 fun t20 =>
 cal D 122 [t20] h31 fun t21 h32 =>
 extC t21 0 fun t22 =>
 extC t21 1 fun t23 =>
 stsC 5 t2 t22 h32 fun h33 =>
 stsC 7 t3 t23 h33 fun h34 =>
 cellsC 5 t2 h34 fun t2a =>
 cellsC 7 t3 h34 fun t3a =>
 some (.ret (.tup [t2a, t3a]) h34, .no)) (
 cellsC 5 t1 h31 fun t24 =>
 cal D 117 [t24, (vS ([105, 102] : LN))] h31 fun t25 h83 =>
 asB t25 fun t25a =>
 br t25a (
 S201_12 D m t1 t2 t3 t4 t5 t6 true h83) (
 cellsC 5 t1 h83 fun t27 =>
 cal D 117 [t27, (vS ([119, 104, 105, 108, 101] : LN))] h83 fun t28 h114 =>
 asB t28 fun t28a =>
 S201_12 D m t1 t2 t3 t4 t5 t6 t28a h114)))
def S201 : SFn := fun D m args h u => nou u <| popV args fun t0 args => endA args (S201_18 D m t0 h)
theorem T201_4 (hE : FX x201 D m E) : S201_4 D m = e201_4 (E c201_4 []) := by unfold S201_4; rw [hE c201_4]; kernel_rfl
theorem T201_3 (hE : FX x201 D m E) : S201_3 D m = e201_3 (E c201_3 []) := by unfold S201_3; rw [T201_4 hE, hE c201_3]; kernel_rfl
theorem T201_2 (hE : FX x201 D m E) : S201_2 D m = e201_2 (E c201_2 []) := by unfold S201_2; rw [T201_3 hE, hE c201_2]; kernel_rfl
theorem T201_6 (hE : FX x201 D m E) : S201_6 D m = e201_6 (E c201_6 [.sj v201_2 c201_2]) := by unfold S201_6; rw [hE c201_6]; kernel_rfl
theorem T201_5 (hE : FX x201 D m E) : S201_5 D m = e201_5 (E (.opq false l201_5 c201_7) [.sj v201_2 c201_2]) := by unfold S201_5; rw [T201_6 hE, T201_2 hE, hE (.opq false l201_5 c201_7)]; kernel_rfl
theorem T201_1 (hE : FX x201 D m E) : S201_1 D m = e201_1 (E c201_1 []) := by unfold S201_1; rw [T201_5 hE, hE c201_1]; kernel_rfl
theorem T201_10 (hE : FX x201 D m E) : S201_10 D m = e201_10 (E c201_10 [.sj v201_1 c201_1]) := by unfold S201_10; rw [hE c201_10]; kernel_rfl
theorem T201_9 (hE : FX x201 D m E) : S201_9 D m = e201_9 (E (.opq false l201_9 c201_11) [.sj v201_1 c201_1]) := by unfold S201_9; rw [T201_10 hE, T201_1 hE, hE (.opq false l201_9 c201_11)]; kernel_rfl
theorem T201_8 (hE : FX x201 D m E) : S201_8 D m = e201_8 (E (.opq false l201_8 c201_11) [.sj v201_1 c201_1]) := by unfold S201_8; rw [T201_9 hE, hE (.opq false l201_8 c201_11)]; kernel_rfl
theorem T201_0 (hE : FX x201 D m E) : S201_0 D m = e201_0 (E c201_0 []) := by unfold S201_0; rw [T201_8 hE, hE c201_0]; kernel_rfl
theorem T201_14 (hE : FX x201 D m E) : S201_14 D m = e201_14 (E c201_14 [.sj v201_0 c201_0]) := by unfold S201_14; rw [hE c201_14]; kernel_rfl
theorem T201_15 (hE : FX x201 D m E) : S201_15 D m = e201_15 (E (.opq false l201_15 c201_16) [.sj v201_14 c201_14, .sj v201_0 c201_0]) := by unfold S201_15; rw [T201_14 hE, hE (.opq false l201_15 c201_16)]; kernel_rfl
theorem T201_13 (hE : FX x201 D m E) : S201_13 D m = e201_13 (E c201_13 [.sj v201_0 c201_0]) := by unfold S201_13; rw [T201_15 hE, hE c201_13]; kernel_rfl
theorem T201_12 (hE : FX x201 D m E) : S201_12 D m = e201_12 (E (.opq false l201_12 c201_17) [.sj v201_0 c201_0]) := by unfold S201_12; rw [T201_13 hE, T201_0 hE, hE (.opq false l201_12 c201_17)]; kernel_rfl
theorem T201_18 (hE : FX x201 D m E) : S201_18 D m = e201_18 (E c201_e []) := by unfold S201_18; rw [T201_12 hE, hE c201_e]; kernel_rfl
theorem X201 : XTie S201 x201 := X_of fun D m E hE args h u => by unfold S201; rw [T201_18 hE]; kernel_rfl
/- 202 -/
def c202_e : XC := (.sO [.al p1 (.box q0), .al p2 (.new [.nils, (kI 0), (kI 0), (kI 0), (kI 0)]), .al p3 (.new [(kI 0), (.str []), (.str []), (.int .u32 (.ofNat 0)), (.int .u64 (.ofNat 0)), .nils, (kI 0), (kI 0)])] (.sO [.L p6 (.cells 5 q1) .v, .cl p7 165 [q6] .v, .cl p8 222 [q7] .v, .mv p5 q8 .v, .P p9 (.ext q5 0) .v, .P p10 (.ext q5 1) .v, .al p4 (.new [(kI 0), (.str []), (.str []), (.int .u32 (.ofNat 0)), (.int .u64 (.ofNat 0)), .nils, (kI 0), (kI 0)]), .ss 5 q1 q9, .ss 8 q4 q10] (.seq (.ops true (XL.of [.L p11 (.cells 5 q1) .v, .L p13 (.cells 8 q4) .v, .o ⟨(some p12), (.call (.fn 166) [q11]), none, [⟨none, .cells 8 q4, p13⟩]⟩ .v, .o ⟨none, (.e (.stores 5 q2 q12)), none, [⟨none, .cells 8 q4, p13⟩]⟩ .v, .ss 8 q3 q13])) (.s .ret))))
def x202 : XFn := ⟨[.v], false, [(.cells 5 p2), (.cells 8 p3)], c202_e⟩
def e202_0 (k t0 h) := kN k [(p0, t0)] h
def S202_0 (D : CallD) (m : Nat) (t0 : AV) (h : HP) : Res2 :=
 let t1 := AV.ptr (HP.nxQ h) 0
 let h1 := HP.newQ h (.cells true (AV.cells t0))
 let t2 := AV.ptr (HP.nxQ h1) 0
 let h2 := HP.newQ h1 (.cells true [.nils, (kI 0), (kI 0), (kI 0), (kI 0)])
 let t3 := AV.ptr (HP.nxQ h2) 0
 let h3 := HP.newQ h2 (.cells true [(kI 0), (.str []), (.str []), (.int .u32 (.ofNat 0)), (.int .u64 (.ofNat 0)), .nils, (kI 0), (kI 0)])
 cellsC 5 t1 h3 fun t6 =>
 cal D 165 [t6] h3 fun t7 h4 =>
 cal D 222 [t7] h4 fun t8 h5 =>
 extC t8 0 fun t9 =>
 extC t8 1 fun t10 =>
 let t4 := AV.ptr (HP.nxQ h5) 0
 let h6 := HP.newQ h5 (.cells true [(kI 0), (.str []), (.str []), (.int .u32 (.ofNat 0)), (.int .u64 (.ofNat 0)), .nils, (kI 0), (kI 0)])
 stsC 5 t1 t9 h6 fun h7 =>
 stsC 8 t4 t10 h7 fun h8 =>
 cellsC 5 t1 h8 fun t11 =>
 cellsC 8 t4 h8 fun t13 =>
 cal D 166 [t11] h8 fun t12 h9 =>
 br (again [⟨none, .cells 8 q4, p13⟩] (mkT [(p13, t13), (p4, t4)]) h9) (
 stsC 5 t2 t12 h9 fun h10 =>
 br (againE (.stores 5 q2 q12) [⟨none, .cells 8 q4, p13⟩] (mkT [(p2, t2), (p13, t13), (p4, t4)]) h10) (
 stsC 8 t3 t13 h10 fun h11 =>
 cellsC 5 t2 h11 fun t2a =>
 cellsC 8 t3 h11 fun t3a =>
 some (.ret (.tup [t2a, t3a]) h11, .no)) none) none
def S202 : SFn := fun D m args h u => nou u <| popV args fun t0 args => endA args (S202_0 D m t0 h)
theorem T202_0 (hE : FX x202 D m E) : S202_0 D m = e202_0 (E c202_e []) := by unfold S202_0; rw [hE c202_e]; kernel_rfl
theorem X202 : XTie S202 x202 := X_of fun D m E hE args h u => by unfold S202; rw [T202_0 hE]; kernel_rfl
/- 203 -/
def v203_0 : List Pos := []
def c203_0 : XC := (.sO [.mv p2 (.c (.int .i64 (.negSucc 0))) tI] (.s .ret))
def v203_5 : List Pos := [p28]
def c203_5 : XC := (.cond q28 (.sO [.mv p2 (ci 9) tI] (.s .ret)) (.s .skip))
def v203_4 : List Pos := [p3, p25]
def c203_4 : XC := (.cond q25 (.sO [.mv p2 (ci 8) tI] (.s .ret)) (.sj v203_5 (.sO [.bn p29 .eql q3 (.c (.str [42])) .b, .mv p28 q29 .b] (.cond q28 (.s .skip) (.sO [.bn p30 .eql q3 (.c (.str [47])) .b, .mv p28 q30 .b] (.cond q28 (.s .skip) (.s (.oX [.bn p31 .eql q3 (.c (.str [37])) .b, .mv p28 q31 .b])))))) c203_5))
def v203_3 : List Pos := [p3, p22]
def c203_3 : XC := (.cond q22 (.sO [.mv p2 (ci 7) tI] (.s .ret)) (.sj v203_4 (.sO [.bn p26 .eql q3 (.c (.str [43])) .b, .mv p25 q26 .b] (.cond q25 (.s .skip) (.s (.oX [.bn p27 .eql q3 (.c (.str [45])) .b, .mv p25 q27 .b])))) c203_4))
def v203_2 : List Pos := [p3, p17]
def c203_2 : XC := (.cond q17 (.sO [.mv p2 (ci 6) tI] (.s .ret)) (.sj v203_3 (.sO [.bn p23 .eql q3 (.c (.str [60, 60])) .b, .mv p22 q23 .b] (.cond q22 (.s .skip) (.s (.oX [.bn p24 .eql q3 (.c (.str [62, 62])) .b, .mv p22 q24 .b])))) c203_3))
def v203_1 : List Pos := [p3, p14]
def c203_1 : XC := (.cond q14 (.sO [.mv p2 (ci 5) tI] (.s .ret)) (.sj v203_2 (.sO [.bn p18 .eql q3 (.c (.str [60])) .b, .mv p17 q18 .b] (.cond q17 (.s .skip) (.sO [.bn p19 .eql q3 (.c (.str [60, 61])) .b, .mv p17 q19 .b] (.cond q17 (.s .skip) (.sO [.bn p20 .eql q3 (.c (.str [62])) .b, .mv p17 q20 .b] (.cond q17 (.s .skip) (.s (.oX [.bn p21 .eql q3 (.c (.str [62, 61])) .b, .mv p17 q21 .b])))))))) c203_2))
def c203_e : XC := (.sO [.mv p2 (ci 0) tI] (.sj v203_0 (.sO [.mv p3 q0 .s] (.block 0 (.sO [.bn p5 .eql q3 (.c (.str [124, 124])) .b, .mv p4 q5 .b] (.cond q4 (.sO [.mv p2 (ci 0) tI] (.s .ret)) (.sO [.bn p7 .eql q3 (.c (.str [38, 38])) .b, .mv p6 q7 .b] (.cond q6 (.sO [.mv p2 (ci 1) tI] (.s .ret)) (.sO [.bn p9 .eql q3 (.c (.str [124])) .b, .mv p8 q9 .b] (.cond q8 (.sO [.mv p2 (ci 2) tI] (.s .ret)) (.sO [.bn p11 .eql q3 (.c (.str [94])) .b, .mv p10 q11 .b] (.cond q10 (.sO [.mv p2 (ci 3) tI] (.s .ret)) (.sO [.bn p13 .eql q3 (.c (.str [38])) .b, .mv p12 q13 .b] (.cond q12 (.sO [.mv p2 (ci 4) tI] (.s .ret)) (.sj v203_1 (.sO [.bn p15 .eql q3 (.c (.str [61, 61])) .b, .mv p14 q15 .b] (.cond q14 (.s .skip) (.s (.oX [.bn p16 .eql q3 (.c (.str [33, 61])) .b, .mv p14 q16 .b])))) c203_1))))))))))))) c203_0))
def x203 : XFn := ⟨[.s], false, [(.tmp p2)], c203_e⟩
def e203_0 (k h) := kN k [] h
def S203_0 (D : CallD) (m : Nat) (h : HP) : Res2 :=
 some (.ret (vI (Int.negSucc 0)) h, .no)
def e203_5 (k t28 h) := kN k [(p28, (vB t28))] h
def S203_5 (D : CallD) (m : Nat) (t28 : Bool) (h : HP) : Res2 :=
 br t28 (
 some (.ret (vI (Int.ofNat 9)) h, .no)) (
 S203_0 D m h)
def e203_4 (k t3 t25 h) := kN k [(p3, (vS t3)), (p25, (vB t25))] h
def S203_4 (D : CallD) (m : Nat) (t3 : LN) (t25 : Bool) (h : HP) : Res2 :=
 br t25 (
 some (.ret (vI (Int.ofNat 8)) h, .no)) (
 let t29 := eqL t3 ([42] : LN)
 br t29 (
 S203_5 D m t29 h) (
 let t30 := eqL t3 ([47] : LN)
 br t30 (
 S203_5 D m t30 h) (
 let t31 := eqL t3 ([37] : LN)
 S203_5 D m t31 h)))
def e203_3 (k t3 t22 h) := kN k [(p3, (vS t3)), (p22, (vB t22))] h
def S203_3 (D : CallD) (m : Nat) (t3 : LN) (t22 : Bool) (h : HP) : Res2 :=
 br t22 (
 some (.ret (vI (Int.ofNat 7)) h, .no)) (
 let t26 := eqL t3 ([43] : LN)
 br t26 (
 S203_4 D m t3 t26 h) (
 let t27 := eqL t3 ([45] : LN)
 S203_4 D m t3 t27 h))
def e203_2 (k t3 t17 h) := kN k [(p3, (vS t3)), (p17, (vB t17))] h
def S203_2 (D : CallD) (m : Nat) (t3 : LN) (t17 : Bool) (h : HP) : Res2 :=
 br t17 (
 some (.ret (vI (Int.ofNat 6)) h, .no)) (
 let t23 := eqL t3 ([60, 60] : LN)
 br t23 (
 S203_3 D m t3 t23 h) (
 let t24 := eqL t3 ([62, 62] : LN)
 S203_3 D m t3 t24 h))
def e203_1 (k t3 t14 h) := kN k [(p3, (vS t3)), (p14, (vB t14))] h
def S203_1 (D : CallD) (m : Nat) (t3 : LN) (t14 : Bool) (h : HP) : Res2 :=
 br t14 (
 some (.ret (vI (Int.ofNat 5)) h, .no)) (
 let t18 := eqL t3 ([60] : LN)
 br t18 (
 S203_2 D m t3 t18 h) (
 let t19 := eqL t3 ([60, 61] : LN)
 br t19 (
 S203_2 D m t3 t19 h) (
 let t20 := eqL t3 ([62] : LN)
 br t20 (
 S203_2 D m t3 t20 h) (
 let t21 := eqL t3 ([62, 61] : LN)
 S203_2 D m t3 t21 h))))
def e203_6 (k t0 h) := kN k [(p0, (vS t0))] h
def S203_6 (D : CallD) (m : Nat) (t0 : LN) (h : HP) : Res2 :=
 let t5 := eqL t0 ([124, 124] : LN)
 br t5 (
 some (.ret (vI (Int.ofNat 0)) h, .no)) (
 let t7 := eqL t0 ([38, 38] : LN)
 br t7 (
 some (.ret (vI (Int.ofNat 1)) h, .no)) (
 let t9 := eqL t0 ([124] : LN)
 br t9 (
 some (.ret (vI (Int.ofNat 2)) h, .no)) (
 let t11 := eqL t0 ([94] : LN)
 br t11 (
 some (.ret (vI (Int.ofNat 3)) h, .no)) (
 let t13 := eqL t0 ([38] : LN)
 br t13 (
 some (.ret (vI (Int.ofNat 4)) h, .no)) (
 let t15 := eqL t0 ([61, 61] : LN)
 br t15 (
 S203_1 D m t0 t15 h) (
 let t16 := eqL t0 ([33, 61] : LN)
 S203_1 D m t0 t16 h))))))
def S203 : SFn := fun D m args h u => nou u <| popS args fun t0 args => endA args (S203_6 D m t0 h)
theorem T203_0 (hE : FX x203 D m E) : S203_0 D m = e203_0 (E c203_0 []) := by unfold S203_0; rw [hE c203_0]; kernel_rfl
theorem T203_5 (hE : FX x203 D m E) : S203_5 D m = e203_5 (E c203_5 [.blk 0, .sj v203_0 c203_0]) := by unfold S203_5; rw [T203_0 hE, hE c203_5]; kernel_rfl
theorem T203_4 (hE : FX x203 D m E) : S203_4 D m = e203_4 (E c203_4 [.blk 0, .sj v203_0 c203_0]) := by unfold S203_4; rw [T203_5 hE, hE c203_4]; kernel_rfl
theorem T203_3 (hE : FX x203 D m E) : S203_3 D m = e203_3 (E c203_3 [.blk 0, .sj v203_0 c203_0]) := by unfold S203_3; rw [T203_4 hE, hE c203_3]; kernel_rfl
theorem T203_2 (hE : FX x203 D m E) : S203_2 D m = e203_2 (E c203_2 [.blk 0, .sj v203_0 c203_0]) := by unfold S203_2; rw [T203_3 hE, hE c203_2]; kernel_rfl
theorem T203_1 (hE : FX x203 D m E) : S203_1 D m = e203_1 (E c203_1 [.blk 0, .sj v203_0 c203_0]) := by unfold S203_1; rw [T203_2 hE, hE c203_1]; kernel_rfl
theorem T203_6 (hE : FX x203 D m E) : S203_6 D m = e203_6 (E c203_e []) := by unfold S203_6; rw [T203_1 hE, hE c203_e]; kernel_rfl
theorem X203 : XTie S203 x203 := X_of fun D m E hE args h u => by unfold S203; rw [T203_6 hE]; kernel_rfl
end
end Go.Proofs.YtcoldhmbmcdemaaGreat.Sx
