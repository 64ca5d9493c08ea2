/- Functions, printed by a program of ours: their code, what they do, and that it is so. -/
import Derived.Test.YtlfhnopganplfaaGreatDoorSp
set_option maxRecDepth 8000
set_option linter.unusedVariables false
namespace Go.Proofs.YtlfhnopganplfaaGreatDoor.Sx
open Go Go.Proofs.YtlfhnopganplfaaGreatDoor.Ev
set_option linter.unusedSectionVars false
noncomputable section
variable [Rho]
variable {D : CallD} {m : Nat} {E : XE}
/- 3 -/
def v3_0 : List Pos := [p0, p1, p5]
def c3_0 : XC := (.sO [.mv p40 q5 .v, .L p41 (.bstr q40) .s, .cl p42 7 [q41] .v, .mv p39 q42 .v, .P p43 (.ext q39 0) .v, .P p44 (.ext q39 1) tI, .P p45 (.ext q39 2) tI, .mv p7 q43 .v, .mv p8 q44 tI, .mv p9 q45 tI] (.seq (.block 2 (.seq (.oX [.mv p47 q0 tI, .mv p48 q1 tI, .bn p49 .add q47 q48 tI, .bn p50 .gtr q49 (ci 8192) .b, .mv p46 q50 .b]) (.cond q46 (.seq (.oX [.mv p51 q9 tI, .bn p52 .eql q51 (ci 6) .b, .mv p53 q52 .b, .ge p53 (XL.of [.G p53 true p54 (.mov q8) tI, .G p53 true p55 (.bin .eql q54 (ci 0)) .b, .P p56 (.pick q53 q55 (cb false)) .b]) p56 .b, .mv p4 q56 .b]) .ret) (.seq (.oX [.mv p58 q0 tI, .bn p59 .gtr q58 (ci 2500) .b, .mv p57 q59 .b]) (.cond q57 (.seq (.oX [.mv p60 q9 tI, .bn p61 .eql q60 (ci 5) .b, .mv p62 q61 .b, .ge p62 (XL.of [.G p62 true p63 (.mov q8) tI, .G p62 true p64 (.bin .eql q63 (ci 2500)) .b, .P p65 (.pick q62 q64 (cb false)) .b]) p65 .b, .mv p4 q65 .b]) .ret) .skip))))) (.sO [.mv p66 q9 tI, .bn p67 .eql q66 (ci 0) .b, .mv p68 q67 .b, .ge p68 (XL.of [.G p68 true p69 (.mov q7) .v, .G p68 true p70 (.lenl q69) tI, .G p68 true p71 (.mov q0) tI, .G p68 true p72 (.bin .add q71 (ci 1)) tI, .G p68 true p73 (.bin .eql q70 q72) .b, .P p74 (.pick q68 q73 (cb false)) .b]) p74 .b, .mv p4 q74 .b] (.s .ret))))
def v3_2 : List Pos := [p0, p1, p5, p25, p26]
def c3_2 : XC := (.s (.oX [.bn p38 .add q26 (ci 1) tI, .mv p26 q38 tI]))
def v3_1 : List Pos := [p0, p1, p5, p25, p26]
def c3_1b : XC := (.sO [.bn p27 .lss q26 q25 .b] (.seq (.cond q27 .skip (.exit 0)) (.sj v3_2 (.block 1 (.sO [.mv p28 q26 tI, .mv p6 q28 tI] (.sO [.mv p29 q5 .v, .mv p30 q6 tI, .P p31 (.iaddr (.sl 1) q29 q30) .v, .st q31 (.c (.int .u8 (.ofNat 32)))] (.sO [.mv p32 q6 tI, .mv p33 q0 tI, .bn p34 .lss q32 q33 .b] (.cond q34 (.s (.oX [.mv p35 q5 .v, .mv p36 q6 tI, .P p37 (.iaddr (.sl 1) q35 q36) .v, .st q37 (.c (.int .u8 (.ofNat 59)))])) (.s .skip)))))) c3_2)))
def c3_e : XC := (.sO [.mv p4 (cb false) .b] (.seq (.seq (.oX [.cl p10 6 [] .b, .P p11 (.un .not q10) .b]) (.cond q11 (.seq (.oX [.mv p4 (cb false) .b]) .ret) .skip)) (.sO [.mv p12 q0 tI, .P p13 (.conv (.ii .u64) q12) (.i .u64), .bn p14 .rem q13 (.c (.int .u64 (.ofNat 2510))) (.i .u64), .P p15 (.conv (.ii .i64) q14) tI, .mv p16 q1 tI, .P p17 (.conv (.ii .u64) q16) (.i .u64), .bn p18 .rem q17 (.c (.int .u64 (.ofNat 8200))) (.i .u64), .P p19 (.conv (.ii .i64) q18) tI, .mv p0 q15 tI, .mv p1 q19 tI] (.sO [.mv p20 q0 tI, .mv p21 q1 tI, .bn p22 .add q20 q21 tI, .al p23 (.mksl [(.int .u8 (.ofNat 0))] 1 q22 q22), .mv p5 q23 .v] (.sj v3_0 (.sO [.mv p24 q5 .v, .P p25 (.lenl q24) tI, .mv p26 (ci 0) tI] (.block 0 (.loop v3_1 c3_1b))) c3_0)))))
def x3 : XFn := ⟨[tI, tI], false, [(.tmp p4)], c3_e⟩
def e3_0 (k t0 t1 t5 h) := kN k [(p0, (vI t0)), (p1, (vI t1)), (p5, t5)] h
def S3_0 (D : CallD) (m : Nat) (t0 t1 : Int) (t5 : AV) (h : HP) : Res2 :=
 obS (bstrV t5 h) fun t41 =>
 cal D 7 [(vS t41)] h fun t42 h7 =>
 extC t42 0 fun t43 =>
 extC t42 1 fun vt44 => asI .i64 vt44 fun t44 =>
 extC t42 2 fun vt45 => asI .i64 vt45 fun t45 =>
 let t49 := wrQ .i64 (addQ t0 t1)
 let t50 := ltQ (Int.ofNat 8192) t49
 br t50 (
 let t52 := eqQ t45 (Int.ofNat 6)
 obB (brV t52 (
 let t55 := eqQ t44 (Int.ofNat 0)
 some (vB t55)) (
 some (vB false))) fun t56 =>
 some (.ret (vB t56) h7, .no)) (
 let t59 := ltQ (Int.ofNat 2500) t0
 br t59 (
 let t61 := eqQ t45 (Int.ofNat 5)
 obB (brV t61 (
 let t64 := eqQ t44 (Int.ofNat 2500)
 some (vB t64)) (
 some (vB false))) fun t65 =>
 some (.ret (vB t65) h7, .no)) (
 let t67 := eqQ t45 (Int.ofNat 0)
 obB (brV t67 (
 lenCV t43 fun vt70 => asIV .i64 vt70 fun t70 =>
 let t72 := wrQ .i64 (addQ t0 (Int.ofNat 1))
 let t73 := eqQ t70 t72
 some (vB t73)) (
 some (vB false))) fun t74 =>
 some (.ret (vB t74) h7, .no)))
def e3_2 (k t0 t1 t5 t25 t26 h) := kN k [(p0, (vI t0)), (p1, (vI t1)), (p5, t5), (p25, (vI t25)), (p26, (vI t26))] h
def S3_2 (D : CallD) (m : Nat) (g1 : Int → Int → AV → Int → Int → HP → Res2) (t0 t1 : Int) (t5 : AV) (t25 t26 : Int) (h : HP) : Res2 :=
 let t38 := wrQ .i64 (addQ t26 (Int.ofNat 1))
 g1 t0 t1 t5 t25 t38 h
def e3_1 (k t0 t1 t5 t25 t26 h) := kN k [(p0, (vI t0)), (p1, (vI t1)), (p5, t5), (p25, (vI t25)), (p26, (vI t26))] h
def S3_1b (D : CallD) (m : Nat) (g1 : Int → Int → AV → Int → Int → HP → Res2) (t0 t1 : Int) (t5 : AV) (t25 t26 : Int) (h : HP) : Res2 :=
 let t27 := ltQ t26 t25
 br t27 (
 iasC 1 t5 (vI t26) fun t31 =>
 stoC t31 (vC (Int.ofNat 32)) h fun h8 =>
 let t34 := ltQ t26 t0
 br t34 (
 iasC 1 t5 (vI t26) fun t37 =>
 stoC t37 (vC (Int.ofNat 59)) h8 fun h9 =>
 S3_2 D m g1 t0 t1 t5 t25 t26 h9) (
 S3_2 D m g1 t0 t1 t5 t25 t26 h8)) (
 S3_0 D m t0 t1 t5 h)
def S3_1 (D : CallD) (m : Nat) : Int → Int → AV → Int → Int → HP → Res2 := nrec (fun _ _ _ _ _ _ => none) (fun _ g => S3_1b D m g) m
def e3_3 (k t0 t1 h) := kN k [(p0, (vI t0)), (p1, (vI t1))] h
def S3_3 (D : CallD) (m : Nat) (t0 t1 : Int) (h : HP) : Res2 :=
 cal D 6 [] h fun t10 h4 =>
 asB t10 fun t10a =>
 let t11 := !t10a
 br t11 (
 some (.ret (vB false) h4, .no)) (
 let t13 := wrapF .u64 t0
 let t14 := Int.tmod t13 (Int.ofNat 2510)
 let t15 := wrapF .i64 t14
 let t17 := wrapF .u64 t1
 let t18 := Int.tmod t17 (Int.ofNat 8200)
 let t19 := wrapF .i64 t18
 let t22 := wrQ .i64 (addQ t15 t19)
 obQ (evA (.mksl [(.int .u8 (.ofNat 0))] 1 (.c (vI t22)) (.c (vI t22))) .leaf) fun r5 =>
 let t23 := vkV r5.2 (HP.nxQ h4)
 let h6 := HP.newQ h4 r5.1
 lenC t23 fun vt25 => asI .i64 vt25 fun t25 =>
 S3_1 D m t15 t19 t23 t25 (Int.ofNat 0) h6)
def S3 : SFn := fun D m args h u => nou u <| popI .i64 args fun t0 args => popI .i64 args fun t1 args => endA args (S3_3 D m t0 t1 h)
theorem T3_0 (hE : FX x3 D m E) : S3_0 D m = e3_0 (E c3_0 []) := by unfold S3_0; rw [hE c3_0]; kernel_rfl
theorem T3_2 (hE : FX x3 D m E) (G1) : S3_2 D m (e3_1 G1) = e3_2 (E c3_2 [.lp v3_1 G1, .blk 0, .sj v3_0 c3_0]) := by unfold S3_2; rw [hE c3_2]; kernel_rfl
theorem T3_1b (hE : FX x3 D m E) (G1) : S3_1b D m (e3_1 G1) = e3_1 (E c3_1b [.lp v3_1 G1, .blk 0, .sj v3_0 c3_0]) := by unfold S3_1b; rw [T3_2 hE G1, T3_0 hE, hE c3_1b]; kernel_rfl
theorem T3_1 (hE : FX x3 D m E) : S3_1 D m = e3_1 (nrec (fun _ => none) (fun _ G1 st => E c3_1b [.lp v3_1 G1, .blk 0, .sj v3_0 c3_0] st) m) :=
  nrec_emb e3_1 (fun _ _ _ _ _ _ => none) (fun g => S3_1b D m g) (fun G1 st => E c3_1b [.lp v3_1 G1, .blk 0, .sj v3_0 c3_0] st) rfl (fun g => T3_1b hE g) m
theorem T3_3 (hE : FX x3 D m E) : S3_3 D m = e3_3 (E c3_e []) := by unfold S3_3; rw [T3_1 hE, hE c3_e]; kernel_rfl
theorem X3 : XTie S3 x3 := X_of fun D m E hE args h u => by unfold S3; rw [T3_3 hE]; kernel_rfl
/- 4 -/
def v4_0 : List Pos := [p3, p4]
def c4_0 : XC := (.sO [.mv p33 q4 .s, .cl p34 7 [q33] .v, .mv p32 q34 .v, .P p35 (.ext q32 0) .v, .P p36 (.ext q32 1) tI, .P p37 (.ext q32 2) tI, .mv p6 q35 .v, .mv p7 q36 tI, .mv p8 q37 tI] (.seq (.seq (.oX [.mv p38 q3 tI, .bn p39 .geq q38 (ci 4294967296) .b]) (.cond q39 (.seq (.oX [.mv p40 q8 tI, .bn p41 .eql q40 (ci 10) .b, .mv p42 q41 .b, .ge p42 (XL.of [.G p42 true p43 (.mov q7) tI, .G p42 true p44 (.bin .eql q43 (ci 0)) .b, .P p45 (.pick q42 q44 (cb false)) .b]) p45 .b, .mv p2 q45 .b]) .ret) .skip)) (.sO [.mv p46 q8 tI, .bn p47 .eql q46 (ci 0) .b, .mv p48 q47 .b, .ge p48 (XL.of [.G p48 true p49 (.mov q6) .v, .G p48 true p50 (.lenl q49) tI, .G p48 true p51 (.bin .eql q50 (ci 2)) .b, .P p52 (.pick q48 q51 (cb false)) .b]) p52 .b, .mv p53 q52 .b, .ge p53 (XL.of [.G p53 true p54 (.mov q6) .v, .G p53 true p55 (.iaddr (.sl 3) q54 (ci 0)) .v, .o ⟨(some p56), (.l (.cells 3 q55)), (some (p53, true)), []⟩ .v, .G p53 true p57 (.mov q4) .s, .G p53 true p58 (.build [(kI 0), (.str []), (kI 0)] [⟨0, 1, (ci 2)⟩, ⟨1, 1, q57⟩]) .v, .G p53 true p59 (.eqs 3 [(0, .int), (1, .str), (2, .int)] false q56 q58) .b, .P p60 (.pick q53 q59 (cb false)) .b]) p60 .b, .mv p2 q60 .b] (.s .ret))))
def v4_1 : List Pos := [p3, p4, p5]
def c4_1b : XC := (.seq (.seq (.oX [.mv p16 q5 tI, .bn p17 .gtr q16 (ci 0) .b, .mv p18 q17 .b, .ge p18 (XL.of [.G p18 false p19 (.mov q4) .s, .G p18 false p20 (.bin .eql q19 (.c (.str []))) .b, .P p21 (.pick q18 (cb true) q20) .b]) p21 .b]) (.cond q21 .skip (.exit 0))) (.seq (.block 1 (.oX [.mv p24 q5 tI, .bn p25 .rem q24 (ci 10) tI, .bn p26 .add (ci 48) q25 tI, .P p27 (.conv (.ii .u8) q26) tC, .al p28 (.bsl [(.int .u8 (.ofNat 0))] 1 [⟨0, 1, q27⟩]), .L p29 (.bstr q28) .s, .mv p30 q4 .s, .bn p31 .add q29 q30 .s, .mv p4 q31 .s])) (.s (.oX [.mv p22 q5 tI, .bn p23 .quo q22 (ci 10) tI, .mv p5 q23 tI]))))
def c4_e : XC := (.sO [.mv p2 (cb false) .b] (.seq (.seq (.oX [.cl p9 6 [] .b, .P p10 (.un .not q9) .b]) (.cond q10 (.seq (.oX [.mv p2 (cb false) .b]) .ret) .skip)) (.sO [.mv p11 q0 tI, .P p12 (.conv (.ii .u64) q11) (.i .u64), .bn p13 .rem q12 (.c (.int .u64 (.ofNat 17179869184))) (.i .u64), .P p14 (.conv (.ii .i64) q13) tI, .mv p3 q14 tI] (.sO [.mv p4 (.c (.str [])) .s] (.sj v4_0 (.sO [.mv p15 q3 tI, .mv p5 q15 tI] (.block 0 (.loop v4_1 c4_1b))) c4_0)))))
def x4 : XFn := ⟨[tI], false, [(.tmp p2)], c4_e⟩
def e4_0 (k t3 t4 h) := kN k [(p3, (vI t3)), (p4, (vS t4))] h
def S4_0 (D : CallD) (m : Nat) (t3 : Int) (t4 : LN) (h : HP) : Res2 :=
 cal D 7 [(vS t4)] h fun t34 h4 =>
 extC t34 0 fun t35 =>
 extC t34 1 fun vt36 => asI .i64 vt36 fun t36 =>
 extC t34 2 fun vt37 => asI .i64 vt37 fun t37 =>
 let t39 := leQ (Int.ofNat 4294967296) t3
 br t39 (
 let t41 := eqQ t37 (Int.ofNat 10)
 obB (brV t41 (
 let t44 := eqQ t36 (Int.ofNat 0)
 some (vB t44)) (
 some (vB false))) fun t45 =>
 some (.ret (vB t45) h4, .no)) (
 let t47 := eqQ t37 (Int.ofNat 0)
 obB (brV t47 (
 lenCV t35 fun vt50 => asIV .i64 vt50 fun t50 =>
 let t51 := eqQ t50 (Int.ofNat 2)
 some (vB t51)) (
 some (vB false))) fun t52 =>
 obB (brV t52 (
 iasCV 3 t35 (vI (Int.ofNat 0)) fun t55 =>
 cellsCV 3 t55 h4 fun t56 =>
 let t58 := (AV.agg [(vI (Int.ofNat 2)), (vS t4), (vI (Int.ofNat 0))])
 obBV (evP (.eqs 3 [(0, .int), (1, .str), (2, .int)] false (.c t56) (.c t58)) .leaf) fun t59 =>
 some (vB t59)) (
 some (vB false))) fun t60 =>
 some (.ret (vB t60) h4, .no))
def e4_1 (k t3 t4 t5 h) := kN k [(p3, (vI t3)), (p4, (vS t4)), (p5, (vI t5))] h
def S4_1b (D : CallD) (m : Nat) (g1 : Int → LN → Int → HP → Res2) (t3 : Int) (t4 : LN) (t5 : Int) (h : HP) : Res2 :=
 let t17 := ltQ (Int.ofNat 0) t5
 obB (brV t17 (
 some (vB true)) (
 let t20 := eqL t4 ([] : LN)
 some (vB t20))) fun t21 =>
 br t21 (
 let t25 := Int.tmod t5 (Int.ofNat 10)
 let t26 := wrQ .i64 (addQ (Int.ofNat 48) t25)
 let t27 := wrapF .u8 t26
 let t28 := AV.slice (HP.nxQ h) 0 1 (.exact 1)
 let h5 := HP.newQ h (.cells true [(vC t27)])
 obS (bstrV t28 h5) fun t29 =>
 obS (strBin .add t29 t4) fun t31 =>
 let t23 := wrapF .i64 (Int.tdiv t5 (Int.ofNat 10))
 g1 t3 t31 t23 h5) (
 S4_0 D m t3 t4 h)
def S4_1 (D : CallD) (m : Nat) : Int → LN → Int → HP → Res2 := nrec (fun _ _ _ _ => none) (fun _ g => S4_1b D m g) m
def e4_2 (k t0 h) := kN k [(p0, (vI t0))] h
def S4_2 (D : CallD) (m : Nat) (t0 : Int) (h : HP) : Res2 :=
 cal D 6 [] h fun t9 h3 =>
 asB t9 fun t9a =>
 let t10 := !t9a
 br t10 (
 some (.ret (vB false) h3, .no)) (
 let t12 := wrapF .u64 t0
 let t13 := Int.tmod t12 (Int.ofNat 17179869184)
 let t14 := wrapF .i64 t13
 S4_1 D m t14 ([] : LN) t14 h3)
def S4 : SFn := fun D m args h u => nou u <| popI .i64 args fun t0 args => endA args (S4_2 D m t0 h)
theorem T4_0 (hE : FX x4 D m E) : S4_0 D m = e4_0 (E c4_0 []) := by unfold S4_0; rw [hE c4_0]; kernel_rfl
theorem T4_1b (hE : FX x4 D m E) (G1) : S4_1b D m (e4_1 G1) = e4_1 (E c4_1b [.lp v4_1 G1, .blk 0, .sj v4_0 c4_0]) := by unfold S4_1b; rw [T4_0 hE, hE c4_1b]; kernel_rfl
theorem T4_1 (hE : FX x4 D m E) : S4_1 D m = e4_1 (nrec (fun _ => none) (fun _ G1 st => E c4_1b [.lp v4_1 G1, .blk 0, .sj v4_0 c4_0] st) m) :=
  nrec_emb e4_1 (fun _ _ _ _ => none) (fun g => S4_1b D m g) (fun G1 st => E c4_1b [.lp v4_1 G1, .blk 0, .sj v4_0 c4_0] st) rfl (fun g => T4_1b hE g) m
theorem T4_2 (hE : FX x4 D m E) : S4_2 D m = e4_2 (E c4_e []) := by unfold S4_2; rw [T4_1 hE, hE c4_e]; kernel_rfl
theorem X4 : XTie S4 x4 := X_of fun D m E hE args h u => by unfold S4; rw [T4_2 hE]; kernel_rfl
/- 5 -/
def v5_1 : List Pos := [p4, p8, p10, p11]
def c5_1 : XC := (.sO [.mv p67 q10 tI, .bn p68 .eql q67 (ci 0) .b, .mv p69 q68 .b, .ge p69 (XL.of [.G p69 true p70 (.mov q8) .v, .G p69 true p71 (.lenl q70) tI, .G p69 true p72 (.bin .eql q71 (ci 2)) .b, .P p73 (.pick q69 q72 (cb false)) .b]) p73 .b, .mv p74 q73 .b, .ge p74 (XL.of [.G p74 true p75 (.mov q8) .v, .G p74 true p76 (.iaddr (.sl 3) q75 (ci 0)) .v, .o ⟨(some p77), (.l (.cells 3 q76)), (some (p74, true)), []⟩ .v, .G p74 true p78 (.mov q11) tI, .G p74 true p79 (.mov q4) .s, .G p74 true p80 (.build [(kI 0), (.str []), (kI 0)] [⟨0, 1, q78⟩, ⟨1, 1, q79⟩]) .v, .G p74 true p81 (.eqs 3 [(0, .int), (1, .str), (2, .int)] false q77 q80) .b, .P p82 (.pick q74 q81 (cb false)) .b]) p82 .b, .mv p2 q82 .b] (.s .ret))
def v5_0 : List Pos := [p4]
def c5_0 : XC := (.sO [.mv p51 q4 .s, .cl p52 7 [q51] .v, .mv p50 q52 .v, .P p53 (.ext q50 0) .v, .P p54 (.ext q50 1) tI, .P p55 (.ext q50 2) tI, .mv p8 q53 .v, .mv p9 q54 tI, .mv p10 q55 tI] (.seq (.seq (.oX [.mv p56 q4 .s, .P p57 (.lens q56) tI, .bn p58 .gtr q57 (ci 40) .b]) (.cond q58 (.seq (.oX [.mv p59 q10 tI, .bn p60 .eql q59 (ci 10) .b, .mv p61 q60 .b, .ge p61 (XL.of [.G p61 true p62 (.mov q9) tI, .G p61 true p63 (.bin .eql q62 (ci 0)) .b, .P p64 (.pick q61 q63 (cb false)) .b]) p64 .b, .mv p2 q64 .b]) .ret) .skip)) (.sO [.mv p11 (ci 1) tI] (.sj v5_1 (.sO [.mv p65 q4 .s, .cl p66 8 [q65] .b] (.cond q66 (.s (.oX [.mv p11 (ci 5) tI])) (.s .skip))) c5_1))))
def v5_3 : List Pos := [p3, p4, p25, p26, p27]
def c5_3 : XC := (.s (.oX [.bn p49 .add q27 (ci 1) tI, .mv p27 q49 tI]))
def v5_4 : List Pos := [p3, p4, p7, p25, p26, p27]
def c5_4 : XC := (.s (.oX [.mv p42 q4 .s, .mv p43 q3 .s, .mv p44 q7 tI, .mv p45 q7 tI, .bn p46 .add q45 (ci 1) tI, .P p47 (.slice .str q43 (some q44) (some q46) none) .s, .bn p48 .add q42 q47 .s, .mv p4 q48 .s]))
def v5_2 : List Pos := [p3, p4, p25, p26, p27]
def c5_2b : XC := (.sO [.bn p28 .lss q27 q26 .b] (.seq (.cond q28 .skip (.exit 0)) (.sj v5_3 (.block 1 (.sO [.mv p29 q27 tI, .P p30 (.iaddr (.sl 1) q25 q27) .v, .ld p31 q30 tC, .mv p5 q29 tI, .mv p6 q31 tC] (.sO [.mv p32 q6 tC, .P p33 (.conv (.ii .i64) q32) tI, .mv p34 q3 .s, .P p35 (.lens q34) tI, .bn p36 .rem q33 q35 tI, .mv p7 q36 tI] (.sj v5_4 (.sO [.mv p37 q5 tI, .bn p38 .eql q37 (ci 0) .b] (.cond q38 (.s (.oX [.mv p39 q6 tC, .P p40 (.conv (.ii .i64) q39) tI, .bn p41 .rem q40 (ci 33) tI, .mv p7 q41 tI])) (.s .skip))) c5_4)))) c5_3)))
def c5_e : XC := (.sO [.mv p2 (cb false) .b] (.seq (.seq (.oX [.cl p12 6 [] .b, .P p13 (.un .not q12) .b, .mv p14 q13 .b, .ge p14 (XL.of [.G p14 false p15 (.mov q0) .v, .G p14 false p16 (.lenl q15) tI, .G p14 false p17 (.bin .eql q16 (ci 0)) .b, .P p18 (.pick q14 (cb true) q17) .b]) p18 .b, .mv p19 q18 .b, .ge p19 (XL.of [.G p19 false p20 (.mov q0) .v, .G p19 false p21 (.lenl q20) tI, .G p19 false p22 (.bin .gtr q21 (ci 60)) .b, .P p23 (.pick q19 (cb true) q22) .b]) p23 .b]) (.cond q23 (.seq (.oX [.cl p24 6 [] .b, .mv p2 q24 .b]) .ret) .skip)) (.sO [.mv p3 (.c (.str [97, 98, 99, 100, 101, 102, 103, 104, 105, 106, 107, 108, 109, 110, 111, 112, 113, 114, 115, 116, 117, 118, 119, 120, 121, 122, 65, 66, 67, 88, 89, 90, 95, 48, 49, 50, 51, 52, 53, 54, 55, 56, 57])) .s] (.sO [.mv p4 (.c (.str [])) .s] (.sj v5_0 (.sO [.mv p25 q0 .v, .P p26 (.lenl q25) tI, .mv p27 (ci 0) tI] (.block 0 (.loop v5_2 c5_2b))) c5_0)))))
def x5 : XFn := ⟨[.v], false, [(.tmp p2)], c5_e⟩
def e5_1 (k t4 t8 t10 t11 h) := kN k [(p4, (vS t4)), (p8, t8), (p10, (vI t10)), (p11, (vI t11))] h
def S5_1 (D : CallD) (m : Nat) (t4 : LN) (t8 : AV) (t10 t11 : Int) (h : HP) : Res2 :=
 let t68 := eqQ t10 (Int.ofNat 0)
 obB (brV t68 (
 lenCV t8 fun vt71 => asIV .i64 vt71 fun t71 =>
 let t72 := eqQ t71 (Int.ofNat 2)
 some (vB t72)) (
 some (vB false))) fun t73 =>
 obB (brV t73 (
 iasCV 3 t8 (vI (Int.ofNat 0)) fun t76 =>
 cellsCV 3 t76 h fun t77 =>
 let t80 := (AV.agg [(vI t11), (vS t4), (vI (Int.ofNat 0))])
 obBV (evP (.eqs 3 [(0, .int), (1, .str), (2, .int)] false (.c t77) (.c t80)) .leaf) fun t81 =>
 some (vB t81)) (
 some (vB false))) fun t82 =>
 some (.ret (vB t82) h, .no)
def e5_0 (k t4 h) := kN k [(p4, (vS t4))] h
def S5_0 (D : CallD) (m : Nat) (t4 : LN) (h : HP) : Res2 :=
 cal D 7 [(vS t4)] h fun t52 h8 =>
 extC t52 0 fun t53 =>
 extC t52 1 fun vt54 => asI .i64 vt54 fun t54 =>
 extC t52 2 fun vt55 => asI .i64 vt55 fun t55 =>
 let t57 := Int.ofNat (lenL t4)
 let t58 := ltQ (Int.ofNat 40) t57
 br t58 (
 let t60 := eqQ t55 (Int.ofNat 10)
 obB (brV t60 (
 let t63 := eqQ t54 (Int.ofNat 0)
 some (vB t63)) (
 some (vB false))) fun t64 =>
 some (.ret (vB t64) h8, .no)) (
 cal D 8 [(vS t4)] h8 fun t66 h9 =>
 asB t66 fun t66a =>
 br t66a (
 S5_1 D m t4 t53 t55 (Int.ofNat 5) h9) (
 S5_1 D m t4 t53 t55 (Int.ofNat 1) h9))
def e5_3 (k t3 t4 t25 t26 t27 h) := kN k [(p3, (vS t3)), (p4, (vS t4)), (p25, t25), (p26, (vI t26)), (p27, (vI t27))] h
def S5_3 (D : CallD) (m : Nat) (g2 : LN → LN → AV → Int → Int → HP → Res2) (t3 t4 : LN) (t25 : AV) (t26 t27 : Int) (h : HP) : Res2 :=
 let t49 := wrQ .i64 (addQ t27 (Int.ofNat 1))
 g2 t3 t4 t25 t26 t49 h
def e5_4 (k t3 t4 t7 t25 t26 t27 h) := kN k [(p3, (vS t3)), (p4, (vS t4)), (p7, (vI t7)), (p25, t25), (p26, (vI t26)), (p27, (vI t27))] h
def S5_4 (D : CallD) (m : Nat) (g2 : LN → LN → AV → Int → Int → HP → Res2) (t3 t4 : LN) (t7 : Int) (t25 : AV) (t26 t27 : Int) (h : HP) : Res2 :=
 let t46 := wrQ .i64 (addQ t7 (Int.ofNat 1))
 slC (vS t3) (some (vI t7)) (some (vI t46)) fun vt47 => asS vt47 fun t47 =>
 obS (strBin .add t4 t47) fun t48 =>
 S5_3 D m g2 t3 t48 t25 t26 t27 h
def e5_2 (k t3 t4 t25 t26 t27 h) := kN k [(p3, (vS t3)), (p4, (vS t4)), (p25, t25), (p26, (vI t26)), (p27, (vI t27))] h
def S5_2b (D : CallD) (m : Nat) (g2 : LN → LN → AV → Int → Int → HP → Res2) (t3 t4 : LN) (t25 : AV) (t26 t27 : Int) (h : HP) : Res2 :=
 let t28 := ltQ t27 t26
 br t28 (
 iasC 1 t25 (vI t27) fun t30 =>
 ldC t30 h fun t31 =>
 let t33 := wrapF .i64 t31
 let t35 := Int.ofNat (lenL t3)
 obI .i64 (intBin .rem .i64 t33 t35) fun t36 =>
 let t38 := eqQ t27 (Int.ofNat 0)
 br t38 (
 let t40 := wrapF .i64 t31
 let t41 := Int.tmod t40 (Int.ofNat 33)
 S5_4 D m g2 t3 t4 t41 t25 t26 t27 h) (
 S5_4 D m g2 t3 t4 t36 t25 t26 t27 h)) (
 S5_0 D m t4 h)
def S5_2 (D : CallD) (m : Nat) : LN → LN → AV → Int → Int → HP → Res2 := nrec (fun _ _ _ _ _ _ => none) (fun _ g => S5_2b D m g) m
def e5_5 (k t0 h) := kN k [(p0, t0)] h
def S5_5 (D : CallD) (m : Nat) (t0 : AV) (h : HP) : Res2 :=
 cal D 6 [] h fun t12 h6 =>
 asB t12 fun t12a =>
 let t13 := !t12a
 obB (brV t13 (
 some (vB true)) (
 lenCV t0 fun vt16 => asIV .i64 vt16 fun t16 =>
 let t17 := eqQ t16 (Int.ofNat 0)
 some (vB t17))) fun t18 =>
 obB (brV t18 (
 some (vB true)) (
 lenCV t0 fun vt21 => asIV .i64 vt21 fun t21 =>
 let t22 := ltQ (Int.ofNat 60) t21
 some (vB t22))) fun t23 =>
 br t23 (
 cal D 6 [] h6 fun t24 h7 =>
 asB t24 fun t24a =>
 some (.ret (vB t24a) h7, .no)) (
 lenC t0 fun vt26 => asI .i64 vt26 fun t26 =>
 S5_2 D m ([97, 98, 99, 100, 101, 102, 103, 104, 105, 106, 107, 108, 109, 110, 111, 112, 113, 114, 115, 116, 117, 118, 119, 120, 121, 122, 65, 66, 67, 88, 89, 90, 95, 48, 49, 50, 51, 52, 53, 54, 55, 56, 57] : LN) ([] : LN) t0 t26 (Int.ofNat 0) h6)
def S5 : SFn := fun D m args h u => nou u <| popV args fun t0 args => endA args (S5_5 D m t0 h)
theorem T5_1 (hE : FX x5 D m E) : S5_1 D m = e5_1 (E c5_1 []) := by unfold S5_1; rw [hE c5_1]; kernel_rfl
theorem T5_0 (hE : FX x5 D m E) : S5_0 D m = e5_0 (E c5_0 []) := by unfold S5_0; rw [T5_1 hE, hE c5_0]; kernel_rfl
theorem T5_3 (hE : FX x5 D m E) (G2) : S5_3 D m (e5_2 G2) = e5_3 (E c5_3 [.lp v5_2 G2, .blk 0, .sj v5_0 c5_0]) := by unfold S5_3; rw [hE c5_3]; kernel_rfl
theorem T5_4 (hE : FX x5 D m E) (G2) : S5_4 D m (e5_2 G2) = e5_4 (E c5_4 [.blk 1, .sj v5_3 c5_3, .lp v5_2 G2, .blk 0, .sj v5_0 c5_0]) := by unfold S5_4; rw [T5_3 hE G2, hE c5_4]; kernel_rfl
theorem T5_2b (hE : FX x5 D m E) (G2) : S5_2b D m (e5_2 G2) = e5_2 (E c5_2b [.lp v5_2 G2, .blk 0, .sj v5_0 c5_0]) := by unfold S5_2b; rw [T5_4 hE G2, T5_0 hE, hE c5_2b]; kernel_rfl
theorem T5_2 (hE : FX x5 D m E) : S5_2 D m = e5_2 (nrec (fun _ => none) (fun _ G2 st => E c5_2b [.lp v5_2 G2, .blk 0, .sj v5_0 c5_0] st) m) :=
  nrec_emb e5_2 (fun _ _ _ _ _ _ => none) (fun g => S5_2b D m g) (fun G2 st => E c5_2b [.lp v5_2 G2, .blk 0, .sj v5_0 c5_0] st) rfl (fun g => T5_2b hE g) m
theorem T5_5 (hE : FX x5 D m E) : S5_5 D m = e5_5 (E c5_e []) := by unfold S5_5; rw [T5_2 hE, hE c5_e]; kernel_rfl
theorem X5 : XTie S5 x5 := X_of fun D m E hE args h u => by unfold S5; rw [T5_5 hE]; kernel_rfl
/- 6 -/
def c6_e : XC := (.sO [.mv p0 (cb false) .b] (.sO [.cl p8 7 [(.c (.str [97, 60, 60, 61, 49, 46, 53, 101, 51, 59]))] .v, .mv p7 q8 .v, .P p9 (.ext q7 0) .v, .P p10 (.ext q7 1) tI, .P p11 (.ext q7 2) tI, .mv p1 q9 .v, .mv p2 q10 tI, .mv p3 q11 tI] (.sO [.cl p13 7 [(.c (.str [32, 52, 50, 57, 52, 57, 54, 55, 50, 57, 54]))] .v, .mv p12 q13 .v, .P p14 (.ext q12 0) .v, .P p15 (.ext q12 1) tI, .P p16 (.ext q12 2) tI, .mv p4 q14 .v, .mv p5 q15 tI, .mv p6 q16 tI] (.sO [.mv p17 q3 tI, .bn p18 .eql q17 (ci 0) .b, .mv p19 q18 .b, .ge p19 (XL.of [.G p19 true p20 (.mov q1) .v, .G p19 true p21 (.lenl q20) tI, .G p19 true p22 (.bin .eql q21 (ci 6)) .b, .P p23 (.pick q19 q22 (cb false)) .b]) p23 .b, .mv p24 q23 .b, .ge p24 (XL.of [.G p24 true p25 (.mov q1) .v, .G p24 true p26 (.iaddr (.sl 3) q25 (ci 1)) .v, .G p24 true p27 (.faddr 1 q26) .v, .o ⟨(some p28), (.l (.cell q27)), (some (p24, true)), []⟩ .s, .G p24 true p29 (.bin .eql q28 (.c (.str [60, 60]))) .b, .P p30 (.pick q24 q29 (cb false)) .b]) p30 .b, .mv p31 q30 .b, .ge p31 (XL.of [.G p31 true p32 (.mov q1) .v, .G p31 true p33 (.iaddr (.sl 3) q32 (ci 3)) .v, .o ⟨(some p34), (.l (.cells 3 q33)), (some (p31, true)), []⟩ .v, .G p31 true p35 (.build [(kI 0), (.str []), (kI 0)] [⟨0, 1, (ci 3)⟩, ⟨1, 1, (.c (.str [49, 46, 53, 101, 51]))⟩, ⟨2, 1, (ci 4)⟩]) .v, .G p31 true p36 (.eqs 3 [(0, .int), (1, .str), (2, .int)] false q34 q35) .b, .P p37 (.pick q31 q36 (cb false)) .b]) p37 .b, .mv p38 q37 .b, .ge p38 (XL.of [.G p38 true p39 (.mov q6) tI, .G p38 true p40 (.bin .eql q39 (ci 10)) .b, .P p41 (.pick q38 q40 (cb false)) .b]) p41 .b, .mv p42 q41 .b, .ge p42 (XL.of [.G p42 true p43 (.mov q5) tI, .G p42 true p44 (.bin .eql q43 (ci 1)) .b, .P p45 (.pick q42 q44 (cb false)) .b]) p45 .b, .mv p0 q45 .b] (.s .ret)))))
def x6 : XFn := ⟨[], false, [(.tmp p0)], c6_e⟩
def e6_0 (k h) := kN k [] h
def S6_0 (D : CallD) (m : Nat) (h : HP) : Res2 :=
 cal D 7 [(vS ([97, 60, 60, 61, 49, 46, 53, 101, 51, 59] : LN))] h fun t8 h1 =>
 extC t8 0 fun t9 =>
 extC t8 1 fun vt10 => asI .i64 vt10 fun t10 =>
 extC t8 2 fun vt11 => asI .i64 vt11 fun t11 =>
 cal D 7 [(vS ([32, 52, 50, 57, 52, 57, 54, 55, 50, 57, 54] : LN))] h1 fun t13 h2 =>
 extC t13 0 fun t14 =>
 extC t13 1 fun vt15 => asI .i64 vt15 fun t15 =>
 extC t13 2 fun vt16 => asI .i64 vt16 fun t16 =>
 let t18 := eqQ t11 (Int.ofNat 0)
 obB (brV t18 (
 lenCV t9 fun vt21 => asIV .i64 vt21 fun t21 =>
 let t22 := eqQ t21 (Int.ofNat 6)
 some (vB t22)) (
 some (vB false))) fun t23 =>
 obB (brV t23 (
 iasCV 3 t9 (vI (Int.ofNat 1)) fun t26 =>
 faCV 1 t26 fun t27 =>
 ldSV t27 h2 fun t28 =>
 let t29 := eqL t28 ([60, 60] : LN)
 some (vB t29)) (
 some (vB false))) fun t30 =>
 obB (brV t30 (
 iasCV 3 t9 (vI (Int.ofNat 3)) fun t33 =>
 cellsCV 3 t33 h2 fun t34 =>
 let t35 := (AV.agg [(vI (Int.ofNat 3)), (vS ([49, 46, 53, 101, 51] : LN)), (vI (Int.ofNat 4))])
 obBV (evP (.eqs 3 [(0, .int), (1, .str), (2, .int)] false (.c t34) (.c t35)) .leaf) fun t36 =>
 some (vB t36)) (
 some (vB false))) fun t37 =>
 obB (brV t37 (
 let t40 := eqQ t16 (Int.ofNat 10)
 some (vB t40)) (
 some (vB false))) fun t41 =>
 obB (brV t41 (
 let t44 := eqQ t15 (Int.ofNat 1)
 some (vB t44)) (
 some (vB false))) fun t45 =>
 some (.ret (vB t45) h2, .no)
def S6 : SFn := fun D m args h u => nou u <| endA args (S6_0 D m h)
theorem T6_0 (hE : FX x6 D m E) : S6_0 D m = e6_0 (E c6_e []) := by unfold S6_0; rw [hE c6_e]; kernel_rfl
theorem X6 : XTie S6 x6 := X_of fun D m E hE args h u => by unfold S6; rw [T6_0 hE]; kernel_rfl
/- 7 -/
def v7_0 : List Pos := [p0, p2, p3, p4]
def c7_0 : XC := (.sO [.ld p35 q2 .v, .mv p36 q0 .s, .P p37 (.lens q36) tI, .P p38 (.build [(kI 0), (.str []), (kI 0)] [⟨2, 1, q37⟩]) .v, .al p39 (.bsl [(kI 0), (.str []), (kI 0)] 1 [⟨0, 3, q38⟩]), .o ⟨(some p40), (.e (.app 3 32 q35 q39)), none, []⟩ .v, .st q2 q40, .st q3 (ci 0), .st q4 (ci 0)] (.s .ret))
def v7_1 : List Pos := [p0, p2, p3, p4]
def c7_1b : XC := (.seq (.seq (.oX [.ld p12 q3 tI, .mv p13 q0 .s, .P p14 (.lens q13) tI, .bn p15 .lss q12 q14 .b]) (.cond q15 .skip (.exit 0))) (.seq (.block 1 (.seq (.oX [.mv p19 q0 .s, .ld p20 q3 tI, .cl p21 11 [q19, q20] .v, .al p5 (.new [(kI 0), (.str []), (kI 0)]), .ss 3 q5 q21]) (.seq (.seq (.oX [.ld p22 q2 .v, .P p23 (.lenl q22) tI, .bn p24 .eql q23 (ci 2500) .b]) (.cond q24 (.seq (.ops true (XL.of [.ld p25 q3 tI, .o ⟨none, (.e (.store q2 (.c .nils))), none, [⟨none, .cell q3, p25⟩]⟩ .v, .st q3 q25, .st q4 (ci 5)])) .ret) .skip)) (.seq (.oX [.ld p26 q2 .v, .L p27 (.cells 3 q5) .v, .al p28 (.bsl [(kI 0), (.str []), (kI 0)] 1 [⟨0, 3, q27⟩]), .o ⟨(some p29), (.e (.app 3 32 q26 q28)), none, []⟩ .v, .st q2 q29]) (.oX [.ld p30 q3 tI, .fa p31 1 q5, .ld p32 q31 .s, .P p33 (.lens q32) tI, .bn p34 .add q30 q33 tI, .st q3 q34]))))) (.s (.oX [.mv p16 q0 .s, .ld p17 q3 tI, .cl p18 10 [q16, q17] tI, .st q3 q18]))))
def c7_e : XC := (.sO [.al p2 (.new [.nils]), .al p3 (.new [(kI 0)]), .al p4 (.new [(kI 0)])] (.seq (.seq (.oX [.mv p6 q0 .s, .P p7 (.lens q6) tI, .bn p8 .gtr q7 (ci 8192) .b]) (.cond q8 (.seq (.oX [.st q2 (.c .nils), .st q3 (ci 0), .st q4 (ci 6)]) .ret) .skip)) (.sO [.P p9 (.mkfn 9 [] [q2, q3, q4]) .v, .o ⟨none, (.defer (.val q9) []), none, []⟩ .v] (.sj v7_0 (.sO [.mv p10 q0 .s, .cl p11 10 [q10, (ci 0)] tI, .st q3 q11] (.block 0 (.loop v7_1 c7_1b))) c7_0))))
def x7 : XFn := ⟨[.s], false, [(.cell p2), (.cell p3), (.cell p4)], c7_e⟩
def e7_0 (k : St → Res2) (t0 : LN) (t2 t3 t4 : AV) (h : HP) (df : List ADef) : Res2 := k ⟨mkT [(p0, (vS t0)), (p2, t2), (p3, t3), (p4, t4)], h, df, .no⟩
def S7_0 (D : CallD) (m : Nat) (t0 : LN) (t2 t3 t4 : AV) (h : HP) (df : List ADef) : Res2 :=
 cellC t2 h fun t35 =>
 let t37 := Int.ofNat (lenL t0)
 let t38 := (AV.agg [(vI (Int.ofNat 0)), (vS ([] : LN)), (vI t37)])
 let t39 := AV.slice (HP.nxQ h) 0 1 (.exact 1)
 let h10 := HP.newQ h (.cells true [(vI (Int.ofNat 0)), (vS ([] : LN)), (vI t37)])
 eff (.app 3 32 (.c t35) (.c t39)) h10 fun t40 h11 =>
 stoC t2 t40 h11 fun h12 =>
 stoC t3 (vI (Int.ofNat 0)) h12 fun h13 =>
 stoC t4 (vI (Int.ofNat 0)) h13 fun h14 =>
 XFn.endOf x7 D (.ret ⟨(mkT [(p2, t2), (p3, t3), (p4, t4)]), h14, df, .no⟩)
def e7_1 (k : St → Res2) (t0 : LN) (t2 t3 t4 : AV) (h : HP) (df : List ADef) : Res2 := k ⟨mkT [(p0, (vS t0)), (p2, t2), (p3, t3), (p4, t4)], h, df, .no⟩
def S7_1b (D : CallD) (m : Nat) (g1 : LN → AV → AV → AV → HP → List ADef → Res2) (t0 : LN) (t2 t3 t4 : AV) (h : HP) (df : List ADef) : Res2 :=
 ldI t3 h fun t12 =>
 let t14 := Int.ofNat (lenL t0)
 let t15 := ltQ t12 t14
 br t15 (
 ldI t3 h fun t20 =>
 calC D 11 [(vS t0), (vI t20)] h (fun t21 h17 =>
 let t5 := AV.ptr (HP.nxQ h17) 0
 let h18 := HP.newQ h17 (.cells true [(kI 0), (.str []), (kI 0)])
 stsC 3 t5 t21 h18 fun h19 =>
 cellC t2 h19 fun t22 =>
 lenC t22 fun vt23 => asI .i64 vt23 fun t23 =>
 let t24 := eqQ t23 (Int.ofNat 2500)
 br t24 (
 ldI t3 h19 fun t25 =>
 stoC t2 (.nils : AV) h19 fun h20 =>
 br (againE (.store q2 (.c .nils)) [⟨none, .cell q3, p25⟩] (mkT [(p2, t2), (p25, (vI t25)), (p3, t3)]) h20) (
 stoC t3 (vI t25) h20 fun h21 =>
 stoC t4 (vI (Int.ofNat 5)) h21 fun h22 =>
 XFn.endOf x7 D (.ret ⟨(mkT [(p2, t2), (p3, t3), (p4, t4)]), h22, df, .no⟩)) none) (
 cellC t2 h19 fun t26 =>
 cellsC 3 t5 h19 fun t27 =>
 obQ (evA (.bsl [(kI 0), (.str []), (kI 0)] 1 [⟨0, 3, (.c t27)⟩]) .leaf) fun r23 =>
 let t28 := vkV r23.2 (HP.nxQ h19)
 let h24 := HP.newQ h19 r23.1
 eff (.app 3 32 (.c t26) (.c t28)) h24 fun t29 h25 =>
 stoC t2 t29 h25 fun h26 =>
 ldI t3 h26 fun t30 =>
 let t31 := (AV.ptr (HP.nxQ h17) (Nat.add 0 1))
 ldS t31 h26 fun t32 =>
 let t33 := Int.ofNat (lenL t32)
 let t34 := wrQ .i64 (addQ t30 t33)
 stoC t3 (vI t34) h26 fun h27 =>
 ldI t3 h27 fun t17 =>
 calC D 10 [(vS t0), (vI t17)] h27 (fun t18 h28 =>
 asI .i64 t18 fun t18a =>
 stoC t3 (vI t18a) h28 fun h29 =>
 g1 t0 t2 t3 t4 h29 df) (fun ch28 gh28 => XFn.endOf x7 D (.panic ch28 ⟨(mkT [(p2, t2), (p3, t3), (p4, t4)]), gh28, df, .no⟩)))) (fun ch17 gh17 => XFn.endOf x7 D (.panic ch17 ⟨(mkT [(p2, t2), (p3, t3), (p4, t4)]), gh17, df, .no⟩))) (
 S7_0 D m t0 t2 t3 t4 h df)
def S7_1 (D : CallD) (m : Nat) : LN → AV → AV → AV → HP → List ADef → Res2 := nrec (fun _ _ _ _ _ _ => none) (fun _ g => S7_1b D m g) m
def e7_2 (k t0 h) := kN k [(p0, (vS t0))] h
def S7_2 (D : CallD) (m : Nat) (t0 : LN) (h : HP) : Res2 :=
 let t2 := AV.ptr (HP.nxQ h) 0
 let h3 := HP.newQ h (.cells true [.nils])
 let t3 := AV.ptr (HP.nxQ h3) 0
 let h4 := HP.newQ h3 (.cells true [(kI 0)])
 let t4 := AV.ptr (HP.nxQ h4) 0
 let h5 := HP.newQ h4 (.cells true [(kI 0)])
 let t7 := Int.ofNat (lenL t0)
 let t8 := ltQ (Int.ofNat 8192) t7
 br t8 (
 stoC t2 (.nils : AV) h5 fun h6 =>
 stoC t3 (vI (Int.ofNat 0)) h6 fun h7 =>
 stoC t4 (vI (Int.ofNat 6)) h7 fun h8 =>
 XFn.endOf x7 D (.ret ⟨(mkT [(p2, t2), (p3, t3), (p4, t4)]), h8, [], .no⟩)) (
 let t9 := (AV.fn 9 [] [t2, t3, t4])
 let d9 : List ADef := ⟨9, [t2, t3, t4]⟩ :: []
 calC D 10 [(vS t0), (vI (Int.ofNat 0))] h5 (fun t11 h15 =>
 asI .i64 t11 fun t11a =>
 stoC t3 (vI t11a) h15 fun h16 =>
 S7_1 D m t0 t2 t3 t4 h16 d9) (fun ch15 gh15 => XFn.endOf x7 D (.panic ch15 ⟨(mkT [(p2, t2), (p3, t3), (p4, t4)]), gh15, d9, .no⟩)))
def S7 : SFn := fun D m args h u => nou u <| popS args fun t0 args => endA args (S7_2 D m t0 h)
theorem T7_0 (hE : FX x7 D m E) : S7_0 D m = e7_0 (E c7_0 []) := by unfold S7_0; rw [hE c7_0]; kernel_rfl
theorem T7_1b (hE : FX x7 D m E) (G1) : S7_1b D m (e7_1 G1) = e7_1 (E c7_1b [.lp v7_1 G1, .blk 0, .sj v7_0 c7_0]) := by unfold S7_1b; rw [T7_0 hE, hE c7_1b]; kernel_rfl
theorem T7_1 (hE : FX x7 D m E) : S7_1 D m = e7_1 (nrec (fun _ => none) (fun _ G1 st => E c7_1b [.lp v7_1 G1, .blk 0, .sj v7_0 c7_0] st) m) :=
  nrec_emb e7_1 (fun _ _ _ _ _ _ => none) (fun g => S7_1b D m g) (fun G1 st => E c7_1b [.lp v7_1 G1, .blk 0, .sj v7_0 c7_0] st) rfl (fun g => T7_1b hE g) m
theorem T7_2 (hE : FX x7 D m E) : S7_2 D m = e7_2 (E c7_e []) := by unfold S7_2; rw [T7_1 hE, hE c7_e]; kernel_rfl
theorem X7 : XTie S7 x7 := X_of fun D m E hE args h u => by unfold S7; rw [T7_2 hE]; kernel_rfl
/- 8 -/
def v8_0 : List Pos := []
def c8_0 : XC := (.sO [.mv p2 (cb false) .b] (.s .ret))
def v8_1 : List Pos := [p0, p3, p6]
def c8_1b : XC := (.sO [.bn p7 .lss q6 (ci 11) .b] (.seq (.cond q7 .skip (.exit 0)) (.seq (.block 1 (.seq (.oX [.mv p8 q6 tI, .mv p4 q8 tI]) (.seq (.oX [.mv p9 q4 tI, .P p10 (.iaddr (.arr 11 1) q3 q9) .v, .ld p11 q10 .s, .mv p12 q0 .s, .bn p13 .eql q11 q12 .b]) (.cond q13 (.seq (.oX [.mv p2 (cb true) .b]) .ret) .skip)))) (.s (.oX [.bn p14 .add q6 (ci 1) tI, .mv p6 q14 tI])))))
def c8_e : XC := (.sO [.mv p2 (cb false) .b] (.sO [.P p5 (.build [(.str []), (.str []), (.str []), (.str []), (.str []), (.str []), (.str []), (.str []), (.str []), (.str []), (.str [])] [⟨0, 1, (.c (.str [105, 110, 116]))⟩, ⟨1, 1, (.c (.str [100, 111, 117, 98, 108, 101]))⟩, ⟨2, 1, (.c (.str [118, 111, 105, 100]))⟩, ⟨3, 1, (.c (.str [115, 116, 97, 116, 105, 99]))⟩, ⟨4, 1, (.c (.str [101, 120, 116, 101, 114, 110]))⟩, ⟨5, 1, (.c (.str [105, 102]))⟩, ⟨6, 1, (.c (.str [101, 108, 115, 101]))⟩, ⟨7, 1, (.c (.str [119, 104, 105, 108, 101]))⟩, ⟨8, 1, (.c (.str [114, 101, 116, 117, 114, 110]))⟩, ⟨9, 1, (.c (.str [98, 114, 101, 97, 107]))⟩, ⟨10, 1, (.c (.str [99, 111, 110, 116, 105, 110, 117, 101]))⟩]) .v, .al p3 (.new [(.str []), (.str []), (.str []), (.str []), (.str []), (.str []), (.str []), (.str []), (.str []), (.str []), (.str [])]), .ss 11 q3 q5] (.sj v8_0 (.sO [.mv p6 (ci 0) tI] (.block 0 (.loop v8_1 c8_1b))) c8_0)))
def x8 : XFn := ⟨[.s], false, [(.tmp p2)], c8_e⟩
def e8_0 (k h) := kN k [] h
def S8_0 (D : CallD) (m : Nat) (h : HP) : Res2 :=
 some (.ret (vB false) h, .no)
def e8_1 (k t0 t3 t6 h) := kN k [(p0, (vS t0)), (p3, t3), (p6, (vI t6))] h
def S8_1b (D : CallD) (m : Nat) (g1 : LN → AV → Int → HP → Res2) (t0 : LN) (t3 : AV) (t6 : Int) (h : HP) : Res2 :=
 let t7 := ltQ t6 (Int.ofNat 11)
 br t7 (
 iarC 11 1 t3 (vI t6) fun t10 =>
 ldS t10 h fun t11 =>
 let t13 := eqL t11 t0
 br t13 (
 some (.ret (vB true) h, .no)) (
 let t14 := wrQ .i64 (addQ t6 (Int.ofNat 1))
 g1 t0 t3 t14 h)) (
 S8_0 D m h)
def S8_1 (D : CallD) (m : Nat) : LN → AV → Int → HP → Res2 := nrec (fun _ _ _ _ => none) (fun _ g => S8_1b D m g) m
def e8_2 (k t0 h) := kN k [(p0, (vS t0))] h
def S8_2 (D : CallD) (m : Nat) (t0 : LN) (h : HP) : Res2 :=
 let t5 := (AV.agg [(vS ([105, 110, 116] : LN)), (vS ([100, 111, 117, 98, 108, 101] : LN)), (vS ([118, 111, 105, 100] : LN)), (vS ([115, 116, 97, 116, 105, 99] : LN)), (vS ([101, 120, 116, 101, 114, 110] : LN)), (vS ([105, 102] : LN)), (vS ([101, 108, 115, 101] : LN)), (vS ([119, 104, 105, 108, 101] : LN)), (vS ([114, 101, 116, 117, 114, 110] : LN)), (vS ([98, 114, 101, 97, 107] : LN)), (vS ([99, 111, 110, 116, 105, 110, 117, 101] : LN))])
 let t3 := AV.ptr (HP.nxQ h) 0
 let h3 := HP.newQ h (.cells true [(.str []), (.str []), (.str []), (.str []), (.str []), (.str []), (.str []), (.str []), (.str []), (.str []), (.str [])])
 stsC 11 t3 t5 h3 fun h4 =>
 S8_1 D m t0 t3 (Int.ofNat 0) h4
def S8 : SFn := fun D m args h u => nou u <| popS args fun t0 args => endA args (S8_2 D m t0 h)
theorem T8_0 (hE : FX x8 D m E) : S8_0 D m = e8_0 (E c8_0 []) := by unfold S8_0; rw [hE c8_0]; kernel_rfl
theorem T8_1b (hE : FX x8 D m E) (G1) : S8_1b D m (e8_1 G1) = e8_1 (E c8_1b [.lp v8_1 G1, .blk 0, .sj v8_0 c8_0]) := by unfold S8_1b; rw [T8_0 hE, hE c8_1b]; kernel_rfl
theorem T8_1 (hE : FX x8 D m E) : S8_1 D m = e8_1 (nrec (fun _ => none) (fun _ G1 st => E c8_1b [.lp v8_1 G1, .blk 0, .sj v8_0 c8_0] st) m) :=
  nrec_emb e8_1 (fun _ _ _ _ => none) (fun g => S8_1b D m g) (fun G1 st => E c8_1b [.lp v8_1 G1, .blk 0, .sj v8_0 c8_0] st) rfl (fun g => T8_1b hE g) m
theorem T8_2 (hE : FX x8 D m E) : S8_2 D m = e8_2 (E c8_e []) := by unfold S8_2; rw [T8_1 hE, hE c8_e]; kernel_rfl
theorem X8 : XTie S8 x8 := X_of fun D m E hE args h u => by unfold S8; rw [T8_2 hE]; kernel_rfl
/- 9 -/
def c9_e : XC := (.sO [.o ⟨(some p6), .recover, none, []⟩ .v, .P p7 (.tassert 36 (.agg [(kI 0), (kI 0)]) true q6) .v, .mv p5 q7 .v, .P p8 (.ext q5 0) .v, .P p9 (.ext q5 1) .b, .al p3 (.new [(kI 0), (kI 0)]), .ss 2 q3 q8, .mv p4 q9 .b] (.sO [.mv p10 q4 .b] (.cond q10 (.s (.ops true (XL.of [.fa p11 0 q3, .ld p12 q11 tI, .fa p13 1 q3, .ld p14 q13 tI, .o ⟨none, (.e (.store q0 (.c .nils))), none, [⟨none, .cell q11, p12⟩, ⟨none, .cell q13, p14⟩]⟩ .v, .o ⟨none, (.e (.store q1 q12)), none, [⟨none, .cell q13, p14⟩]⟩ .v, .st q2 q14]))) (.s .skip))))
def x9 : XFn := ⟨[.v, .v, .v], true, [], c9_e⟩
def e9_0 (k : St → Res2) (t0 t1 t2 : AV) (h : HP) (u : AMode) : Res2 := k ⟨mkT [(p0, t0), (p1, t1), (p2, t2)], h, [], u⟩
def S9_0 (D : CallD) (m : Nat) (t0 t1 t2 : AV) (h : HP) (u : AMode) : Res2 :=
 recC u fun t6 u1 =>
 obQ (evP (.tassert 36 (.agg [(kI 0), (kI 0)]) true (.c t6)) .leaf) fun t7 =>
 extC t7 0 fun t8 =>
 extC t7 1 fun vt9 => asB vt9 fun t9 =>
 let t3 := AV.ptr (HP.nxQ h) 0
 let h2 := HP.newQ h (.cells true [(kI 0), (kI 0)])
 stsC 2 t3 t8 h2 fun h3 =>
 br t9 (
 let t11 := (AV.ptr (HP.nxQ h) (Nat.add 0 0))
 ldI t11 h3 fun t12 =>
 let t13 := (AV.ptr (HP.nxQ h) (Nat.add 0 1))
 ldI t13 h3 fun t14 =>
 stoC t0 (.nils : AV) h3 fun h4 =>
 br (againE (.store q0 (.c .nils)) [⟨none, .cell q11, p12⟩, ⟨none, .cell q13, p14⟩] (mkT [(p0, t0), (p14, (vI t14)), (p13, t13), (p12, (vI t12)), (p11, t11)]) h4) (
 stoC t1 (vI t12) h4 fun h5 =>
 br (againE (.store q1 q12) [⟨none, .cell q13, p14⟩] (mkT [(p1, t1), (p14, (vI t14)), (p13, t13)]) h5) (
 stoC t2 (vI t14) h5 fun h6 =>
 some (.ret (.tup []) h6, u1)) none) none) (
 some (.ret (.tup []) h3, u1))
def S9 : SFn := fun D m args h u => popV args fun t0 args => popV args fun t1 args => popV args fun t2 args => endA args (S9_0 D m t0 t1 t2 h u)
theorem T9_0 (hE : FX x9 D m E) : S9_0 D m = e9_0 (E c9_e []) := by unfold S9_0; rw [hE c9_e]; kernel_rfl
theorem X9 : XTie S9 x9 := X_of fun D m E hE args h u => by unfold S9; rw [T9_0 hE]; kernel_rfl
/- 10 -/
def v10_0 : List Pos := [p1]
def c10_0 : XC := (.sO [.mv p44 q1 tI, .mv p4 q44 tI] (.s .ret))
def v10_2 : List Pos := [p0, p1, p6]
def c10_2 : XC := (.s (.oX [.mv p40 q1 tI, .mv p41 q6 tI, .bn p42 .add q41 (ci 4) tI, .bn p43 .add q40 q42 tI, .mv p1 q43 tI]))
def v10_1 : List Pos := [p0, p1]
def c10_1b : XC := (.seq (.seq (.oX [.mv p7 q1 tI, .mv p8 q0 .s, .P p9 (.lens q8) tI, .bn p10 .lss q7 q9 .b]) (.cond q10 .skip (.exit 0))) (.block 1 (.sO [.mv p11 q0 .s, .mv p12 q1 tI, .P p13 (.slice .str q11 (some q12) none none) .s, .mv p5 q13 .s] (.block 2 (.sO [.mv p16 q5 .s, .P p17 (.idxs q16 (ci 0)) tC, .cl p18 12 [(.c (.str [32, 9, 10, 13])), q17] tI, .bn p19 .geq q18 (ci 0) .b, .mv p15 q19 .b] (.cond q15 (.s (.oX [.mv p20 q1 tI, .bn p21 .add q20 (ci 1) tI, .mv p1 q21 tI])) (.sO [.mv p23 q5 .s, .cl p24 13 [q23, (.c (.str [47, 47]))] .b, .mv p22 q24 .b] (.cond q22 (.s (.oX [.mv p25 q1 tI, .mv p26 q5 .s, .cl p27 14 [q26, (.c (.fn 15 [] []))] tI, .bn p28 .add q25 q27 tI, .mv p1 q28 tI])) (.sO [.mv p30 q5 .s, .cl p31 13 [q30, (.c (.str [47, 42]))] .b, .mv p29 q31 .b] (.cond q29 (.sO [.mv p32 q5 .s, .P p33 (.slice .str q32 (some (ci 2)) none none) .s, .cl p34 16 [q33, (.c (.str [42, 47]))] tI, .mv p6 q34 tI] (.sj v10_2 (.sO [.mv p35 q6 tI, .bn p36 .lss q35 (ci 0) .b] (.cond q36 (.s (.oX [.mv p37 q1 tI, .P p38 (.build [(kI 0), (kI 0)] [⟨0, 1, q37⟩, ⟨1, 1, (ci 10)⟩]) .v, .P p39 (.mkif 36 q38) .v, .o ⟨none, (.panic q39), none, []⟩ .v])) (.s .skip))) c10_2)) (.sO [.mv p14 q1 tI, .mv p4 q14 tI] (.s .ret))))))))))))
def c10_e : XC := (.sO [.mv p4 (ci 0) tI] (.sj v10_0 (.block 0 (.loop v10_1 c10_1b)) c10_0))
def x10 : XFn := ⟨[.s, tI], false, [(.tmp p4)], c10_e⟩
def e10_0 (k t1 h) := kN k [(p1, (vI t1))] h
def S10_0 (D : CallD) (m : Nat) (t1 : Int) (h : HP) : Res2 :=
 some (.ret (vI t1) h, .no)
def e10_2 (k t0 t1 t6 h) := kN k [(p0, (vS t0)), (p1, (vI t1)), (p6, (vI t6))] h
def S10_2 (D : CallD) (m : Nat) (g1 : LN → Int → HP → Res2) (t0 : LN) (t1 t6 : Int) (h : HP) : Res2 :=
 let t42 := wrQ .i64 (addQ t6 (Int.ofNat 4))
 let t43 := wrQ .i64 (addQ t1 t42)
 g1 t0 t43 h
def e10_1 (k t0 t1 h) := kN k [(p0, (vS t0)), (p1, (vI t1))] h
def S10_1b (D : CallD) (m : Nat) (g1 : LN → Int → HP → Res2) (t0 : LN) (t1 : Int) (h : HP) : Res2 :=
 let t9 := Int.ofNat (lenL t0)
 let t10 := ltQ t1 t9
 br t10 (
 slC (vS t0) (some (vI t1)) none fun vt13 => asS vt13 fun t13 =>
 ixC (vS t13) (vI (Int.ofNat 0)) fun vt17 => asI .u8 vt17 fun t17 =>
 cal D 12 [(vS ([32, 9, 10, 13] : LN)), (vC t17)] h fun t18 h4 =>
 asI .i64 t18 fun t18a =>
 let t19 := leQ (Int.ofNat 0) t18a
 br t19 (
 let t21 := wrQ .i64 (addQ t1 (Int.ofNat 1))
 g1 t0 t21 h4) (
 cal D 13 [(vS t13), (vS ([47, 47] : LN))] h4 fun t24 h5 =>
 asB t24 fun t24a =>
 br t24a (
 cal D 14 [(vS t13), ((.fn 15 [] []) : AV)] h5 fun t27 h6 =>
 asI .i64 t27 fun t27a =>
 let t28 := wrQ .i64 (addQ t1 t27a)
 g1 t0 t28 h6) (
 cal D 13 [(vS t13), (vS ([47, 42] : LN))] h5 fun t31 h7 =>
 asB t31 fun t31a =>
 br t31a (
 slC (vS t13) (some (vI (Int.ofNat 2))) none fun vt33 => asS vt33 fun t33 =>
 cal D 16 [(vS t33), (vS ([42, 47] : LN))] h7 fun t34 h8 =>
 asI .i64 t34 fun t34a =>
 let t36 := ltQ t34a (Int.ofNat 0)
 br t36 (
 let t38 := (AV.agg [(vI t1), (vI (Int.ofNat 10))])
 let t39 := (AV.iface 36 t38)
 some (.pan [(.iface 36 t38, false)] h8, .no)) (
 S10_2 D m g1 t0 t1 t34a h8)) (
 some (.ret (vI t1) h7, .no))))) (
 S10_0 D m t1 h)
def S10_1 (D : CallD) (m : Nat) : LN → Int → HP → Res2 := nrec (fun _ _ _ => none) (fun _ g => S10_1b D m g) m
def e10_3 (k t0 t1 h) := kN k [(p0, (vS t0)), (p1, (vI t1))] h
def S10_3 (D : CallD) (m : Nat) (t0 : LN) (t1 : Int) (h : HP) : Res2 :=
 S10_1 D m t0 t1 h
def S10 : SFn := fun D m args h u => nou u <| popS args fun t0 args => popI .i64 args fun t1 args => endA args (S10_3 D m t0 t1 h)
theorem T10_0 (hE : FX x10 D m E) : S10_0 D m = e10_0 (E c10_0 []) := by unfold S10_0; rw [hE c10_0]; kernel_rfl
theorem T10_2 (hE : FX x10 D m E) (G1) : S10_2 D m (e10_1 G1) = e10_2 (E c10_2 [.blk 2, .blk 1, .lp v10_1 G1, .blk 0, .sj v10_0 c10_0]) := by unfold S10_2; rw [hE c10_2]; kernel_rfl
theorem T10_1b (hE : FX x10 D m E) (G1) : S10_1b D m (e10_1 G1) = e10_1 (E c10_1b [.lp v10_1 G1, .blk 0, .sj v10_0 c10_0]) := by unfold S10_1b; rw [T10_2 hE G1, T10_0 hE, hE c10_1b]; kernel_rfl
theorem T10_1 (hE : FX x10 D m E) : S10_1 D m = e10_1 (nrec (fun _ => none) (fun _ G1 st => E c10_1b [.lp v10_1 G1, .blk 0, .sj v10_0 c10_0] st) m) :=
  nrec_emb e10_1 (fun _ _ _ => none) (fun g => S10_1b D m g) (fun G1 st => E c10_1b [.lp v10_1 G1, .blk 0, .sj v10_0 c10_0] st) rfl (fun g => T10_1b hE g) m
theorem T10_3 (hE : FX x10 D m E) : S10_3 D m = e10_3 (E c10_e []) := by unfold S10_3; rw [T10_1 hE, hE c10_e]; kernel_rfl
theorem X10 : XTie S10 x10 := X_of fun D m E hE args h u => by unfold S10; rw [T10_3 hE]; kernel_rfl
/- 11 -/
def v11_1 : List Pos := [p1, p4, p5, p6, p7]
def c11_1 : XC := (.sO [.mv p55 q6 tI, .mv p56 q5 .s, .mv p57 q7 tI, .P p58 (.slice .str q56 none (some q57) none) .s, .mv p59 q1 tI, .P p60 (.build [(kI 0), (.str []), (kI 0)] [⟨0, 1, q55⟩, ⟨1, 1, q58⟩, ⟨2, 1, q59⟩]) .v, .ss 3 q4 q60] (.s .ret))
def v11_0 : List Pos := [p1, p4, p5, p6, p7]
def c11_0 : XC := (.sj v11_1 (.sO [.mv p50 q6 tI, .bn p51 .eql q50 (ci 0) .b] (.cond q51 (.s (.oX [.mv p52 q1 tI, .P p53 (.build [(kI 0), (kI 0)] [⟨0, 1, q52⟩, ⟨1, 1, (ci 10)⟩]) .v, .P p54 (.mkif 36 q53) .v, .o ⟨none, (.panic q54), none, []⟩ .v])) (.s .skip))) c11_1)
def c11_3 : XC := (.cond q49 (.s (.oX [.mv p7 (ci 2) tI])) (.s .skip))
def l11_2 : XL := (XL.of [.mv p45 q44 .b, .ge p45 (XL.of [.G p45 true p46 (.mov q5) .s, .G p45 true p47 (.idxs q46 (ci 1)) tC, .G p45 true p48 (.bin .neq q47 (.c (.int .u8 (.ofNat 32)))) .b, .P p49 (.pick q45 q48 (cb false)) .b]) p49 .b])
def c11_e : XC := (.sO [.al p4 (.new [(kI 0), (.str []), (kI 0)])] (.sO [.mv p9 q0 .s, .mv p10 q1 tI, .P p11 (.slice .str q9 (some q10) none none) .s, .mv p5 q11 .s] (.sO [.mv p6 (ci 0) tI, .mv p7 (ci 0) tI] (.sj v11_0 (.sO [.mv p12 q5 .s, .P p13 (.idxs q12 (ci 0)) tC, .mv p8 q13 tC] (.block 0 (.sO [.mv p15 q8 tC, .cl p16 17 [q15] .b, .mv p14 q16 .b] (.cond q14 (.sO [.mv p17 q5 .s, .cl p18 14 [q17, (.c (.fn 18 [] []))] tI, .mv p7 q18 tI] (.sO [.mv p6 (ci 1) tI] (.sO [.mv p19 q5 .s, .mv p20 q7 tI, .P p21 (.slice .str q19 none (some q20) none) .s, .cl p22 20 [q21] .b] (.cond q22 (.s (.oX [.mv p6 (ci 5) tI])) (.sO [.mv p23 q7 tI, .bn p24 .gtr q23 (ci 40) .b] (.cond q24 (.s (.oX [.mv p6 (ci 0) tI])) (.s .skip))))))) (.sO [.mv p26 q8 tC, .cl p27 19 [q26] .b, .mv p25 q27 .b] (.cond q25 (.s (.oX [.mv p29 q5 .s, .cl p30 21 [q29] .v, .mv p28 q30 .v, .P p31 (.ext q28 0) tI, .P p32 (.ext q28 1) tI, .mv p6 q31 tI, .mv p7 q32 tI])) (.sO [.mv p34 q8 tC, .cl p35 12 [(.c (.str [43, 45, 42, 47, 37, 38, 124, 94, 126, 33, 60, 62, 61, 40, 41, 123, 125, 91, 93, 59, 44])), q34] tI, .bn p36 .geq q35 (ci 0) .b, .mv p33 q36 .b] (.cond q33 (.sO [.mv p6 (ci 4) tI, .mv p7 (ci 1) tI] (.opq false (XL.pre [.mv p37 q5 .s, .P p38 (.lens q37) tI, .bn p39 .gtr q38 (ci 1) .b, .mv p40 q39 .b, .sp p40, .G p40 true p41 (.mov q5) .s, .G p40 true p42 (.slice .str q41 none (some (ci 2)) none) .s, .o ⟨(some p43), (.call (.fn 22) [(.c (.str [60, 60, 32, 62, 62, 32, 60, 61, 32, 62, 61, 32, 61, 61, 32, 33, 61, 32, 38, 38, 32, 124, 124])), q42]), (some (p40, true)), []⟩ .b, .P p44 (.pick q40 q43 (cb false)) .b, .jn p40 [p1, p4, p5, p6, p7, p44]] l11_2) c11_3)) (.s .skip))))))))) c11_0))))
def x11 : XFn := ⟨[.s, tI], false, [(.cells 3 p4)], c11_e⟩
def e11_1 (k t1 t4 t5 t6 t7 h) := kN k [(p1, (vI t1)), (p4, t4), (p5, (vS t5)), (p6, (vI t6)), (p7, (vI t7))] h
def S11_1 (D : CallD) (m : Nat) (t1 : Int) (t4 : AV) (t5 : LN) (t6 t7 : Int) (h : HP) : Res2 :=
 slC (vS t5) none (some (vI t7)) fun vt58 => asS vt58 fun t58 =>
 let t60 := (AV.agg [(vI t6), (vS t58), (vI t1)])
 stsC 3 t4 t60 h fun h6 =>
 cellsC 3 t4 h6 fun t4a =>
 some (.ret t4a h6, .no)
def e11_0 (k t1 t4 t5 t6 t7 h) := kN k [(p1, (vI t1)), (p4, t4), (p5, (vS t5)), (p6, (vI t6)), (p7, (vI t7))] h
def S11_0 (D : CallD) (m : Nat) (t1 : Int) (t4 : AV) (t5 : LN) (t6 t7 : Int) (h : HP) : Res2 :=
 let t51 := eqQ t6 (Int.ofNat 0)
 br t51 (
 let t53 := (AV.agg [(vI t1), (vI (Int.ofNat 10))])
 let t54 := (AV.iface 36 t53)
 some (.pan [(.iface 36 t53, false)] h, .no)) (
 S11_1 D m t1 t4 t5 t6 t7 h)
def e11_2 (k t1 t4 t5 t6 t7 t44 h) := kN k [(p1, (vI t1)), (p4, t4), (p5, (vS t5)), (p6, (vI t6)), (p7, (vI t7)), (p44, (vB t44))] h
def S11_2 (D : CallD) (m : Nat) (t1 : Int) (t4 : AV) (t5 : LN) (t6 t7 : Int) (t44 : Bool) (h : HP) : Res2 :=
 obB (brV t44 (
 ixCV (vS t5) (vI (Int.ofNat 1)) fun vt47 => asIV .u8 vt47 fun t47 =>
 let t48 := notQ (eqQ t47 (Int.ofNat 32))
 some (vB t48)) (
 some (vB false))) fun t49 =>
 br t49 (
 S11_0 D m t1 t4 t5 t6 (Int.ofNat 2) h) (
 S11_0 D m t1 t4 t5 t6 t7 h)
def e11_4 (k t0 t1 h) := kN k [(p0, (vS t0)), (p1, (vI t1))] h
def S11_4 (D : CallD) (m : Nat) (t0 : LN) (t1 : Int) (h : HP) : Res2 :=
 let t4 := AV.ptr (HP.nxQ h) 0
 let h5 := HP.newQ h (.cells true [(kI 0), (.str []), (kI 0)])
 slC (vS t0) (some (vI t1)) none fun vt11 => asS vt11 fun t11 =>
 ixC (vS t11) (vI (Int.ofNat 0)) fun vt13 => asI .u8 vt13 fun t13 =>
 cal D 17 [(vC t13)] h5 fun t16 h7 =>
 asB t16 fun t16a =>
 br t16a (
 cal D 14 [(vS t11), ((.fn 18 [] []) : AV)] h7 fun t18 h8 =>
 asI .i64 t18 fun t18a =>
 slC (vS t11) none (some (vI t18a)) fun vt21 => asS vt21 fun t21 =>
 cal D 20 [(vS t21)] h8 fun t22 h9 =>
 asB t22 fun t22a =>
 br t22a (
 S11_0 D m t1 t4 t11 (Int.ofNat 5) t18a h9) (
 let t24 := ltQ (Int.ofNat 40) t18a
 br t24 (
 S11_0 D m t1 t4 t11 (Int.ofNat 0) t18a h9) (
 S11_0 D m t1 t4 t11 (Int.ofNat 1) t18a h9))) (
 cal D 19 [(vC t13)] h7 fun t27 h10 =>
 asB t27 fun t27a =>
 br t27a (
 cal D 21 [(vS t11)] h10 fun t30 h11 =>
 extC t30 0 fun vt31 => asI .i64 vt31 fun t31 =>
 extC t30 1 fun vt32 => asI .i64 vt32 fun t32 =>
 S11_0 D m t1 t4 t11 t31 t32 h11) (
 cal D 12 [(vS ([43, 45, 42, 47, 37, 38, 124, 94, 126, 33, 60, 62, 61, 40, 41, 123, 125, 91, 93, 59, 44] : LN)), (vC t13)] h10 fun t35 h12 =>
 asI .i64 t35 fun t35a =>
 let t36 := leQ (Int.ofNat 0) t35a
 br t36 (
 let t38 := Int.ofNat (lenL t11)
 let t39 := ltQ (Int.ofNat 1) t38
 br t39 (
 slC (vS t11) none (some (vI (Int.ofNat 2))) fun vt42 => asS vt42 fun t42 =>
 cal D 22 [(vS ([60, 60, 32, 62, 62, 32, 60, 61, 32, 62, 61, 32, 61, 61, 32, 33, 61, 32, 38, 38, 32, 124, 124] : LN)), (vS t42)] h12 fun t43 h13 =>
 asB t43 fun t43a =>
 S11_2 D m t1 t4 t11 (Int.ofNat 4) (Int.ofNat 1) t43a h13) (
 S11_2 D m t1 t4 t11 (Int.ofNat 4) (Int.ofNat 1) false h12)) (
 S11_0 D m t1 t4 t11 (Int.ofNat 0) (Int.ofNat 0) h12)))
def S11 : SFn := fun D m args h u => nou u <| popS args fun t0 args => popI .i64 args fun t1 args => endA args (S11_4 D m t0 t1 h)
theorem T11_1 (hE : FX x11 D m E) : S11_1 D m = e11_1 (E c11_1 []) := by unfold S11_1; rw [hE c11_1]; kernel_rfl
theorem T11_0 (hE : FX x11 D m E) : S11_0 D m = e11_0 (E c11_0 []) := by unfold S11_0; rw [T11_1 hE, hE c11_0]; kernel_rfl
theorem T11_2 (hE : FX x11 D m E) : S11_2 D m = e11_2 (E (.opq false l11_2 c11_3) [.blk 0, .sj v11_0 c11_0]) := by unfold S11_2; rw [T11_0 hE, hE (.opq false l11_2 c11_3)]; kernel_rfl
theorem T11_4 (hE : FX x11 D m E) : S11_4 D m = e11_4 (E c11_e []) := by unfold S11_4; rw [T11_0 hE, T11_2 hE, hE c11_e]; kernel_rfl
theorem X11 : XTie S11 x11 := X_of fun D m E hE args h u => by unfold S11; rw [T11_4 hE]; kernel_rfl
/- 12 -/
def c12_e : XC := (.sO [.mv p4 (ci 0) tI] (.sO [.mv p5 q0 .s, .mv p6 q1 tC, .cl p7 23 [q5, q6] tI, .mv p4 q7 tI] (.s .ret)))
def x12 : XFn := ⟨[.s, tC], false, [(.tmp p4)], c12_e⟩
def e12_0 (k t0 t1 h) := kN k [(p0, (vS t0)), (p1, (vC t1))] h
def S12_0 (D : CallD) (m : Nat) (t0 : LN) (t1 : Int) (h : HP) : Res2 :=
 cal D 23 [(vS t0), (vC t1)] h fun t7 h1 =>
 asI .i64 t7 fun t7a =>
 some (.ret (vI t7a) h1, .no)
def S12 : SFn := fun D m args h u => nou u <| popS args fun t0 args => popI .u8 args fun t1 args => endA args (S12_0 D m t0 t1 h)
theorem T12_0 (hE : FX x12 D m E) : S12_0 D m = e12_0 (E c12_e []) := by unfold S12_0; rw [hE c12_e]; kernel_rfl
theorem X12 : XTie S12 x12 := X_of fun D m E hE args h u => by unfold S12; rw [T12_0 hE]; kernel_rfl
/- 13 -/
def c13_e : XC := (.sO [.mv p4 (cb false) .b] (.sO [.mv p5 q0 .s, .mv p6 q1 .s, .cl p7 24 [q5, q6] .b, .mv p4 q7 .b] (.s .ret)))
def x13 : XFn := ⟨[.s, .s], false, [(.tmp p4)], c13_e⟩
def e13_0 (k t0 t1 h) := kN k [(p0, (vS t0)), (p1, (vS t1))] h
def S13_0 (D : CallD) (m : Nat) (t0 t1 : LN) (h : HP) : Res2 :=
 cal D 24 [(vS t0), (vS t1)] h fun t7 h1 =>
 asB t7 fun t7a =>
 some (.ret (vB t7a) h1, .no)
def S13 : SFn := fun D m args h u => nou u <| popS args fun t0 args => popS args fun t1 args => endA args (S13_0 D m t0 t1 h)
theorem T13_0 (hE : FX x13 D m E) : S13_0 D m = e13_0 (E c13_e []) := by unfold S13_0; rw [hE c13_e]; kernel_rfl
theorem X13 : XTie S13 x13 := X_of fun D m E hE args h u => by unfold S13; rw [T13_0 hE]; kernel_rfl
/- 14 -/
def v14_0 : List Pos := [p5]
def c14_0 : XC := (.sO [.mv p19 q5 tI, .mv p4 q19 tI] (.s .ret))
def v14_2 : List Pos := [p0, p1, p5]
def c14_2 : XC := (.block 1 (.s (.oX [.mv p17 q5 tI, .bn p18 .add q17 (ci 1) tI, .mv p5 q18 tI])))
def c14_4 : XC := (.cond q16 (.s .skip) (.s (.exit 0)))
def l14_3 : XL := (XL.of [])
def v14_1 : List Pos := [p0, p1, p5]
def c14_1b : XC := (.sj v14_2 (.opq false (XL.pre [.mv p6 q5 tI, .mv p7 q0 .s, .P p8 (.lens q7) tI, .bn p9 .lss q6 q8 .b, .mv p10 q9 .b, .sp p10, .G p10 true p11 (.mov q1) .v, .G p10 true p12 (.mov q0) .s, .G p10 true p13 (.mov q5) tI, .G p10 true p14 (.idxs q12 q13) tC, .o ⟨(some p15), (.call (.val q11) [q14]), (some (p10, true)), []⟩ .b, .P p16 (.pick q10 q15 (cb false)) .b, .jn p10 [p0, p1, p5, p16]] l14_3) c14_4) c14_2)
def c14_e : XC := (.sO [.mv p4 (ci 0) tI] (.sO [.mv p5 (ci 0) tI] (.sj v14_0 (.block 0 (.loop v14_1 c14_1b)) c14_0)))
def x14 : XFn := ⟨[.s, .v], false, [(.tmp p4)], c14_e⟩
def e14_0 (k t5 h) := kN k [(p5, (vI t5))] h
def S14_0 (D : CallD) (m : Nat) (t5 : Int) (h : HP) : Res2 :=
 some (.ret (vI t5) h, .no)
def e14_2 (k t0 t1 t5 h) := kN k [(p0, (vS t0)), (p1, t1), (p5, (vI t5))] h
def S14_2 (D : CallD) (m : Nat) (g1 : LN → AV → Int → HP → Res2) (t0 : LN) (t1 : AV) (t5 : Int) (h : HP) : Res2 :=
 let t18 := wrQ .i64 (addQ t5 (Int.ofNat 1))
 g1 t0 t1 t18 h
def e14_3 (k t0 t1 t5 t16 h) := kN k [(p0, (vS t0)), (p1, t1), (p5, (vI t5)), (p16, (vB t16))] h
def S14_3 (D : CallD) (m : Nat) (g1 : LN → AV → Int → HP → Res2) (t0 : LN) (t1 : AV) (t5 : Int) (t16 : Bool) (h : HP) : Res2 :=
 br t16 (
 S14_2 D m g1 t0 t1 t5 h) (
 S14_0 D m t5 h)
def e14_1 (k t0 t1 t5 h) := kN k [(p0, (vS t0)), (p1, t1), (p5, (vI t5))] h
def S14_1b (D : CallD) (m : Nat) (g1 : LN → AV → Int → HP → Res2) (t0 : LN) (t1 : AV) (t5 : Int) (h : HP) : Res2 :=
 let t8 := Int.ofNat (lenL t0)
 let t9 := ltQ t5 t8
 br t9 (
 ixC (vS t0) (vI t5) fun vt14 => asI .u8 vt14 fun t14 =>
 obQ (target .leaf (.val (.c t1)) [(.c (vC t14))]) fun qh6 =>
 calC D qh6.1 qh6.2 h (fun t15 h6 =>
 asB t15 fun t15a =>
 S14_3 D m g1 t0 t1 t5 t15a h6) (panN)) (
 S14_3 D m g1 t0 t1 t5 false h)
def S14_1 (D : CallD) (m : Nat) : LN → AV → Int → HP → Res2 := nrec (fun _ _ _ _ => none) (fun _ g => S14_1b D m g) m
def e14_5 (k t0 t1 h) := kN k [(p0, (vS t0)), (p1, t1)] h
def S14_5 (D : CallD) (m : Nat) (t0 : LN) (t1 : AV) (h : HP) : Res2 :=
 S14_1 D m t0 t1 (Int.ofNat 0) h
def S14 : SFn := fun D m args h u => nou u <| popS args fun t0 args => popV args fun t1 args => endA args (S14_5 D m t0 t1 h)
theorem T14_0 (hE : FX x14 D m E) : S14_0 D m = e14_0 (E c14_0 []) := by unfold S14_0; rw [hE c14_0]; kernel_rfl
theorem T14_2 (hE : FX x14 D m E) (G1) : S14_2 D m (e14_1 G1) = e14_2 (E c14_2 [.lp v14_1 G1, .blk 0, .sj v14_0 c14_0]) := by unfold S14_2; rw [hE c14_2]; kernel_rfl
theorem T14_3 (hE : FX x14 D m E) (G1) : S14_3 D m (e14_1 G1) = e14_3 (E (.opq false l14_3 c14_4) [.sj v14_2 c14_2, .lp v14_1 G1, .blk 0, .sj v14_0 c14_0]) := by unfold S14_3; rw [T14_2 hE G1, T14_0 hE, hE (.opq false l14_3 c14_4)]; kernel_rfl
theorem T14_1b (hE : FX x14 D m E) (G1) : S14_1b D m (e14_1 G1) = e14_1 (E c14_1b [.lp v14_1 G1, .blk 0, .sj v14_0 c14_0]) := by unfold S14_1b; rw [T14_3 hE G1, hE c14_1b]; kernel_rfl
theorem T14_1 (hE : FX x14 D m E) : S14_1 D m = e14_1 (nrec (fun _ => none) (fun _ G1 st => E c14_1b [.lp v14_1 G1, .blk 0, .sj v14_0 c14_0] st) m) :=
  nrec_emb e14_1 (fun _ _ _ _ => none) (fun g => S14_1b D m g) (fun G1 st => E c14_1b [.lp v14_1 G1, .blk 0, .sj v14_0 c14_0] st) rfl (fun g => T14_1b hE g) m
theorem T14_5 (hE : FX x14 D m E) : S14_5 D m = e14_5 (E c14_e []) := by unfold S14_5; rw [T14_1 hE, hE c14_e]; kernel_rfl
theorem X14 : XTie S14 x14 := X_of fun D m E hE args h u => by unfold S14; rw [T14_5 hE]; kernel_rfl
/- 17 -/
def c17_e : XC := (.sO [.mv p2 (cb false) .b] (.sO [.mv p3 q0 tC, .bn p4 .eql q3 (.c (.int .u8 (.ofNat 95))) .b, .mv p5 q4 .b, .ge p5 (XL.of [.G p5 false p6 (.mov q0) tC, .G p5 false p7 (.bin .or q6 (.c (.int .u8 (.ofNat 32)))) tC, .G p5 false p8 (.bin .geq q7 (.c (.int .u8 (.ofNat 97)))) .b, .G p5 false p9 (.mov q8) .b, .ge p9 (XL.of [.G p9 true p10 (.mov q0) tC, .G p9 true p11 (.bin .or q10 (.c (.int .u8 (.ofNat 32)))) tC, .G p9 true p12 (.bin .leq q11 (.c (.int .u8 (.ofNat 122)))) .b, .G p5 false p13 (.pick q9 q12 (cb false)) .b]) p13 .b, .P p14 (.pick q5 (cb true) q13) .b]) p14 .b, .mv p2 q14 .b] (.s .ret)))
def x17 : XFn := ⟨[tC], false, [(.tmp p2)], c17_e⟩
def e17_0 (k t0 h) := kN k [(p0, (vC t0))] h
def S17_0 (D : CallD) (m : Nat) (t0 : Int) (h : HP) : Res2 :=
 let t4 := eqQ t0 (Int.ofNat 95)
 obB (brV t4 (
 some (vB true)) (
 obIV .u8 (intBin .or .u8 t0 (Int.ofNat 32)) fun t7 =>
 let t8 := leQ (Int.ofNat 97) t7
 obBV (brV t8 (
 obIV .u8 (intBin .or .u8 t0 (Int.ofNat 32)) fun t11 =>
 let t12 := leQ t11 (Int.ofNat 122)
 some (vB t12)) (
 some (vB false))) fun t13 =>
 some (vB t13))) fun t14 =>
 some (.ret (vB t14) h, .no)
def S17 : SFn := fun D m args h u => nou u <| popI .u8 args fun t0 args => endA args (S17_0 D m t0 h)
theorem T17_0 (hE : FX x17 D m E) : S17_0 D m = e17_0 (E c17_e []) := by unfold S17_0; rw [hE c17_e]; kernel_rfl
theorem X17 : XTie S17 x17 := X_of fun D m E hE args h u => by unfold S17; rw [T17_0 hE]; kernel_rfl
/- 18 -/
def c18_1 : XC := (.s .ret)
def l18_0 : XL := (XL.of [.mv p2 q8 .b])
def c18_e : XC := (.sO [.mv p2 (cb false) .b] (.opq false (XL.pre [.mv p3 q0 tC, .cl p4 17 [q3] .b, .mv p5 q4 .b, .sp p5, .G p5 false p6 (.mov q0) tC, .o ⟨(some p7), (.call (.fn 19) [q6]), (some (p5, false)), []⟩ .b, .P p8 (.pick q5 (cb true) q7) .b, .jn p5 [p8]] l18_0) c18_1))
def x18 : XFn := ⟨[tC], false, [(.tmp p2)], c18_e⟩
def e18_0 (k t8 h) := kN k [(p8, (vB t8))] h
def S18_0 (D : CallD) (m : Nat) (t8 : Bool) (h : HP) : Res2 :=
 some (.ret (vB t8) h, .no)
def e18_2 (k t0 h) := kN k [(p0, (vC t0))] h
def S18_2 (D : CallD) (m : Nat) (t0 : Int) (h : HP) : Res2 :=
 cal D 17 [(vC t0)] h fun t4 h3 =>
 asB t4 fun t4a =>
 br t4a (
 S18_0 D m true h3) (
 cal D 19 [(vC t0)] h3 fun t7 h4 =>
 asB t7 fun t7a =>
 S18_0 D m t7a h4)
def S18 : SFn := fun D m args h u => nou u <| popI .u8 args fun t0 args => endA args (S18_2 D m t0 h)
theorem T18_0 (hE : FX x18 D m E) : S18_0 D m = e18_0 (E (.opq false l18_0 c18_1) []) := by unfold S18_0; rw [hE (.opq false l18_0 c18_1)]; kernel_rfl
theorem T18_2 (hE : FX x18 D m E) : S18_2 D m = e18_2 (E c18_e []) := by unfold S18_2; rw [T18_0 hE, hE c18_e]; kernel_rfl
theorem X18 : XTie S18 x18 := X_of fun D m E hE args h u => by unfold S18; rw [T18_2 hE]; kernel_rfl
/- 19 -/
def c19_e : XC := (.sO [.mv p2 (cb false) .b] (.sO [.mv p3 q0 tC, .bn p4 .geq q3 (.c (.int .u8 (.ofNat 48))) .b, .mv p5 q4 .b, .ge p5 (XL.of [.G p5 true p6 (.mov q0) tC, .G p5 true p7 (.bin .leq q6 (.c (.int .u8 (.ofNat 57)))) .b, .P p8 (.pick q5 q7 (cb false)) .b]) p8 .b, .mv p2 q8 .b] (.s .ret)))
def x19 : XFn := ⟨[tC], false, [(.tmp p2)], c19_e⟩
def e19_0 (k t0 h) := kN k [(p0, (vC t0))] h
def S19_0 (D : CallD) (m : Nat) (t0 : Int) (h : HP) : Res2 :=
 let t4 := leQ (Int.ofNat 48) t0
 obB (brV t4 (
 let t7 := leQ t0 (Int.ofNat 57)
 some (vB t7)) (
 some (vB false))) fun t8 =>
 some (.ret (vB t8) h, .no)
def S19 : SFn := fun D m args h u => nou u <| popI .u8 args fun t0 args => endA args (S19_0 D m t0 h)
theorem T19_0 (hE : FX x19 D m E) : S19_0 D m = e19_0 (E c19_e []) := by unfold S19_0; rw [hE c19_e]; kernel_rfl
theorem X19 : XTie S19 x19 := X_of fun D m E hE args h u => by unfold S19; rw [T19_0 hE]; kernel_rfl
/- 20 -/
def v20_0 : List Pos := []
def c20_0 : XC := (.sO [.mv p2 (cb false) .b] (.s .ret))
def v20_1 : List Pos := [p4]
def c20_1 : XC := (.cond q4 (.sO [.mv p2 (cb true) .b] (.s .ret)) (.s .skip))
def c20_e : XC := (.sO [.mv p2 (cb false) .b] (.sj v20_0 (.sO [.mv p3 q0 .s] (.block 0 (.sj v20_1 (.sO [.bn p5 .eql q3 (.c (.str [105, 110, 116])) .b, .mv p4 q5 .b] (.cond q4 (.s .skip) (.sO [.bn p6 .eql q3 (.c (.str [100, 111, 117, 98, 108, 101])) .b, .mv p4 q6 .b] (.cond q4 (.s .skip) (.sO [.bn p7 .eql q3 (.c (.str [118, 111, 105, 100])) .b, .mv p4 q7 .b] (.cond q4 (.s .skip) (.sO [.bn p8 .eql q3 (.c (.str [115, 116, 97, 116, 105, 99])) .b, .mv p4 q8 .b] (.cond q4 (.s .skip) (.sO [.bn p9 .eql q3 (.c (.str [101, 120, 116, 101, 114, 110])) .b, .mv p4 q9 .b] (.cond q4 (.s .skip) (.sO [.bn p10 .eql q3 (.c (.str [105, 102])) .b, .mv p4 q10 .b] (.cond q4 (.s .skip) (.sO [.bn p11 .eql q3 (.c (.str [101, 108, 115, 101])) .b, .mv p4 q11 .b] (.cond q4 (.s .skip) (.sO [.bn p12 .eql q3 (.c (.str [119, 104, 105, 108, 101])) .b, .mv p4 q12 .b] (.cond q4 (.s .skip) (.sO [.bn p13 .eql q3 (.c (.str [114, 101, 116, 117, 114, 110])) .b, .mv p4 q13 .b] (.cond q4 (.s .skip) (.sO [.bn p14 .eql q3 (.c (.str [98, 114, 101, 97, 107])) .b, .mv p4 q14 .b] (.cond q4 (.s .skip) (.s (.oX [.bn p15 .eql q3 (.c (.str [99, 111, 110, 116, 105, 110, 117, 101])) .b, .mv p4 q15 .b])))))))))))))))))))))) c20_1))) c20_0))
def x20 : XFn := ⟨[.s], false, [(.tmp p2)], c20_e⟩
def e20_0 (k h) := kN k [] h
def S20_0 (D : CallD) (m : Nat) (h : HP) : Res2 :=
 some (.ret (vB false) h, .no)
def e20_1 (k t4 h) := kN k [(p4, (vB t4))] h
def S20_1 (D : CallD) (m : Nat) (t4 : Bool) (h : HP) : Res2 :=
 br t4 (
 some (.ret (vB true) h, .no)) (
 S20_0 D m h)
def e20_2 (k t0 h) := kN k [(p0, (vS t0))] h
def S20_2 (D : CallD) (m : Nat) (t0 : LN) (h : HP) : Res2 :=
 let t5 := eqL t0 ([105, 110, 116] : LN)
 br t5 (
 S20_1 D m t5 h) (
 let t6 := eqL t0 ([100, 111, 117, 98, 108, 101] : LN)
 br t6 (
 S20_1 D m t6 h) (
 let t7 := eqL t0 ([118, 111, 105, 100] : LN)
 br t7 (
 S20_1 D m t7 h) (
 let t8 := eqL t0 ([115, 116, 97, 116, 105, 99] : LN)
 br t8 (
 S20_1 D m t8 h) (
 let t9 := eqL t0 ([101, 120, 116, 101, 114, 110] : LN)
 br t9 (
 S20_1 D m t9 h) (
 let t10 := eqL t0 ([105, 102] : LN)
 br t10 (
 S20_1 D m t10 h) (
 let t11 := eqL t0 ([101, 108, 115, 101] : LN)
 br t11 (
 S20_1 D m t11 h) (
 let t12 := eqL t0 ([119, 104, 105, 108, 101] : LN)
 br t12 (
 S20_1 D m t12 h) (
 let t13 := eqL t0 ([114, 101, 116, 117, 114, 110] : LN)
 br t13 (
 S20_1 D m t13 h) (
 let t14 := eqL t0 ([98, 114, 101, 97, 107] : LN)
 br t14 (
 S20_1 D m t14 h) (
 let t15 := eqL t0 ([99, 111, 110, 116, 105, 110, 117, 101] : LN)
 S20_1 D m t15 h))))))))))
def S20 : SFn := fun D m args h u => nou u <| popS args fun t0 args => endA args (S20_2 D m t0 h)
theorem T20_0 (hE : FX x20 D m E) : S20_0 D m = e20_0 (E c20_0 []) := by unfold S20_0; rw [hE c20_0]; kernel_rfl
theorem T20_1 (hE : FX x20 D m E) : S20_1 D m = e20_1 (E c20_1 [.blk 0, .sj v20_0 c20_0]) := by unfold S20_1; rw [T20_0 hE, hE c20_1]; kernel_rfl
theorem T20_2 (hE : FX x20 D m E) : S20_2 D m = e20_2 (E c20_e []) := by unfold S20_2; rw [T20_1 hE, hE c20_e]; kernel_rfl
theorem X20 : XTie S20 x20 := X_of fun D m E hE args h u => by unfold S20; rw [T20_2 hE]; kernel_rfl
/- 21 -/
def v21_1 : List Pos := [p0, p4, p5]
def c21_1 : XC := (.seq (.seq (.oX [.mv p82 q5 tI, .bn p83 .eql q82 (ci 3) .b]) (.cond q83 (.seq (.seq (.oX [.mv p85 q0 .s, .mv p86 q4 tI, .P p87 (.slice .str q85 none (some q86) none) .s, .cl p88 26 [q87] .v, .mv p84 q88 .v, .P p89 (.ext q84 0) (.i .u64), .P p90 (.ext q84 1) tI, .mv p6 q89 (.i .u64), .mv p7 q90 tI]) (.seq (.oX [.mv p91 q7 tI, .bn p92 .neq q91 (ci 0) .b]) (.cond q92 (.seq (.oX [.mv p2 (ci 0) tI, .mv p3 (ci 0) tI]) .ret) .skip))) (.seq (.oX [.mv p93 q5 tI, .mv p94 q4 tI, .mv p2 q93 tI, .mv p3 q94 tI]) .ret)) .skip)) (.seq (.seq (.oX [.mv p96 q0 .s, .mv p97 q4 tI, .P p98 (.slice .str q96 none (some q97) none) .s, .cl p99 27 [q98, (ci 10), (ci 32)] .v, .mv p95 q99 .v, .P p100 (.ext q95 0) (.i .u64), .P p101 (.ext q95 1) .v, .mv p8 q100 (.i .u64), .mv p9 q101 .v]) (.seq (.oX [.mv p102 q9 .v, .P p103 (.eqn .ifc true q102 (.c .nili)) .b, .mv p104 q103 .b, .ge p104 (XL.of [.G p104 false p105 (.mov q4) tI, .G p104 false p106 (.bin .gtr q105 (ci 10)) .b, .P p107 (.pick q104 (cb true) q106) .b]) p107 .b]) (.cond q107 (.seq (.oX [.mv p2 (ci 0) tI, .mv p3 (ci 0) tI]) .ret) .skip))) (.sO [.mv p108 q5 tI, .mv p109 q4 tI, .mv p2 q108 tI, .mv p3 q109 tI] (.s .ret))))
def c21_3 : XC := (.cond q81 (.sO [.mv p2 (ci 0) tI, .mv p3 (ci 0) tI] (.s .ret)) (.s .skip))
def l21_2 : XL := (XL.of [])
def v21_0 : List Pos := [p0, p4, p5]
def c21_0 : XC := (.sj v21_1 (.opq false (XL.pre [.mv p66 q4 tI, .mv p67 q0 .s, .P p68 (.lens q67) tI, .bn p69 .lss q66 q68 .b, .mv p70 q69 .b, .sp p70, .G p70 true p71 (.mov q0) .s, .G p70 true p72 (.mov q4) tI, .G p70 true p73 (.idxs q71 q72) tC, .o ⟨(some p74), (.call (.fn 17) [q73]), (some (p70, true)), []⟩ .b, .G p70 true p75 (.mov q74) .b, .ge p75 (XL.of [.G p75 false p76 (.mov q0) .s, .G p75 false p77 (.mov q4) tI, .G p75 false p78 (.idxs q76 q77) tC, .G p75 false p79 (.bin .eql q78 (.c (.int .u8 (.ofNat 46)))) .b, .G p70 true p80 (.pick q75 (cb true) q79) .b]) p80 .b, .P p81 (.pick q70 q80 (cb false)) .b, .jn p70 [p0, p4, p5, p81]] l21_2) c21_3) c21_1)
def v21_4 : List Pos := [p0, p4, p5]
def c21_4 : XC := (.s (.oX [.mv p60 q4 tI, .mv p61 q0 .s, .mv p62 q4 tI, .P p63 (.slice .str q61 (some q62) none none) .s, .cl p64 14 [q63, (.c (.fn 19 [] []))] tI, .bn p65 .add q60 q64 tI, .mv p4 q65 tI]))
def c21_e : XC := (.sO [.mv p2 (ci 0) tI, .mv p3 (ci 0) tI] (.sO [.mv p10 q0 .s, .cl p11 14 [q10, (.c (.fn 19 [] []))] tI, .mv p4 q11 tI] (.sO [.mv p5 (ci 2) tI] (.sj v21_0 (.sO [.mv p12 q4 tI, .mv p13 q0 .s, .P p14 (.lens q13) tI, .bn p15 .lss q12 q14 .b, .mv p16 q15 .b, .ge p16 (XL.of [.G p16 true p17 (.mov q0) .s, .G p16 true p18 (.mov q4) tI, .G p16 true p19 (.idxs q17 q18) tC, .G p16 true p20 (.bin .eql q19 (.c (.int .u8 (.ofNat 46)))) .b, .P p21 (.pick q16 q20 (cb false)) .b]) p21 .b] (.cond q21 (.sO [.mv p5 (ci 3) tI] (.sO [.mv p22 q4 tI, .mv p23 q0 .s, .mv p24 q4 tI, .bn p25 .add q24 (ci 1) tI, .P p26 (.slice .str q23 (some q25) none none) .s, .cl p27 14 [q26, (.c (.fn 19 [] []))] tI, .bn p28 .add (ci 1) q27 tI, .bn p29 .add q22 q28 tI, .mv p4 q29 tI] (.sO [.mv p30 q4 tI, .mv p31 q0 .s, .P p32 (.lens q31) tI, .bn p33 .lss q30 q32 .b, .mv p34 q33 .b, .ge p34 (XL.of [.G p34 true p35 (.mov q0) .s, .G p34 true p36 (.mov q4) tI, .G p34 true p37 (.idxs q35 q36) tC, .G p34 true p38 (.bin .eql q37 (.c (.int .u8 (.ofNat 101)))) .b, .P p39 (.pick q34 q38 (cb false)) .b]) p39 .b] (.cond q39 (.sO [.mv p40 q4 tI, .bn p41 .add q40 (ci 1) tI, .mv p4 q41 tI] (.sj v21_4 (.sO [.mv p42 q4 tI, .mv p43 q0 .s, .P p44 (.lens q43) tI, .bn p45 .lss q42 q44 .b, .mv p46 q45 .b, .ge p46 (XL.of [.G p46 true p47 (.mov q0) .s, .G p46 true p48 (.mov q4) tI, .G p46 true p49 (.idxs q47 q48) tC, .G p46 true p50 (.bin .eql q49 (.c (.int .u8 (.ofNat 43)))) .b, .G p46 true p51 (.mov q50) .b, .ge p51 (XL.of [.G p51 false p52 (.mov q0) .s, .G p51 false p53 (.mov q4) tI, .G p51 false p54 (.idxs q52 q53) tC, .G p51 false p55 (.bin .eql q54 (.c (.int .u8 (.ofNat 45)))) .b, .G p46 true p56 (.pick q51 (cb true) q55) .b]) p56 .b, .P p57 (.pick q46 q56 (cb false)) .b]) p57 .b] (.cond q57 (.s (.oX [.mv p58 q4 tI, .bn p59 .add q58 (ci 1) tI, .mv p4 q59 tI])) (.s .skip))) c21_4)) (.s .skip))))) (.s .skip))) c21_0))))
def x21 : XFn := ⟨[.s], false, [(.tmp p2), (.tmp p3)], c21_e⟩
def e21_1 (k t0 t4 t5 h) := kN k [(p0, (vS t0)), (p4, (vI t4)), (p5, (vI t5))] h
def S21_1 (D : CallD) (m : Nat) (t0 : LN) (t4 t5 : Int) (h : HP) : Res2 :=
 let t83 := eqQ t5 (Int.ofNat 3)
 br t83 (
 slC (vS t0) none (some (vI t4)) fun vt87 => asS vt87 fun t87 =>
 cal D 26 [(vS t87)] h fun t88 h7 =>
 extC t88 0 fun vt89 => asI .u64 vt89 fun t89 =>
 extC t88 1 fun vt90 => asI .i64 vt90 fun t90 =>
 let t92 := notQ (eqQ t90 (Int.ofNat 0))
 br t92 (
 some (.ret (.tup [(vI (Int.ofNat 0)), (vI (Int.ofNat 0))]) h7, .no)) (
 some (.ret (.tup [(vI t5), (vI t4)]) h7, .no))) (
 slC (vS t0) none (some (vI t4)) fun vt98 => asS vt98 fun t98 =>
 cal D 27 [(vS t98), (vI (Int.ofNat 10)), (vI (Int.ofNat 32))] h fun t99 h8 =>
 extC t99 0 fun vt100 => asI .u64 vt100 fun t100 =>
 extC t99 1 fun t101 =>
 obB (evP (.eqn .ifc true (.c t101) (.c (.nili : AV))) .leaf) fun t103 =>
 obB (brV t103 (
 some (vB true)) (
 let t106 := ltQ (Int.ofNat 10) t4
 some (vB t106))) fun t107 =>
 br t107 (
 some (.ret (.tup [(vI (Int.ofNat 0)), (vI (Int.ofNat 0))]) h8, .no)) (
 some (.ret (.tup [(vI t5), (vI t4)]) h8, .no)))
def e21_2 (k t0 t4 t5 t81 h) := kN k [(p0, (vS t0)), (p4, (vI t4)), (p5, (vI t5)), (p81, (vB t81))] h
def S21_2 (D : CallD) (m : Nat) (t0 : LN) (t4 t5 : Int) (t81 : Bool) (h : HP) : Res2 :=
 br t81 (
 some (.ret (.tup [(vI (Int.ofNat 0)), (vI (Int.ofNat 0))]) h, .no)) (
 S21_1 D m t0 t4 t5 h)
def e21_0 (k t0 t4 t5 h) := kN k [(p0, (vS t0)), (p4, (vI t4)), (p5, (vI t5))] h
def S21_0 (D : CallD) (m : Nat) (t0 : LN) (t4 t5 : Int) (h : HP) : Res2 :=
 let t68 := Int.ofNat (lenL t0)
 let t69 := ltQ t4 t68
 br t69 (
 ixC (vS t0) (vI t4) fun vt73 => asI .u8 vt73 fun t73 =>
 cal D 17 [(vC t73)] h fun t74 h9 =>
 asB t74 fun t74a =>
 obB (brV t74a (
 some (vB true)) (
 ixCV (vS t0) (vI t4) fun vt78 => asIV .u8 vt78 fun t78 =>
 let t79 := eqQ t78 (Int.ofNat 46)
 some (vB t79))) fun t80 =>
 S21_2 D m t0 t4 t5 t80 h9) (
 S21_2 D m t0 t4 t5 false h)
def e21_4 (k t0 t4 t5 h) := kN k [(p0, (vS t0)), (p4, (vI t4)), (p5, (vI t5))] h
def S21_4 (D : CallD) (m : Nat) (t0 : LN) (t4 t5 : Int) (h : HP) : Res2 :=
 slC (vS t0) (some (vI t4)) none fun vt63 => asS vt63 fun t63 =>
 cal D 14 [(vS t63), ((.fn 19 [] []) : AV)] h fun t64 h11 =>
 asI .i64 t64 fun t64a =>
 let t65 := wrQ .i64 (addQ t4 t64a)
 S21_0 D m t0 t65 t5 h11
def e21_5 (k t0 h) := kN k [(p0, (vS t0))] h
def S21_5 (D : CallD) (m : Nat) (t0 : LN) (h : HP) : Res2 :=
 cal D 14 [(vS t0), ((.fn 19 [] []) : AV)] h fun t11 h6 =>
 asI .i64 t11 fun t11a =>
 let t14 := Int.ofNat (lenL t0)
 let t15 := ltQ t11a t14
 obB (brV t15 (
 ixCV (vS t0) (vI t11a) fun vt19 => asIV .u8 vt19 fun t19 =>
 let t20 := eqQ t19 (Int.ofNat 46)
 some (vB t20)) (
 some (vB false))) fun t21 =>
 br t21 (
 let t25 := wrQ .i64 (addQ t11a (Int.ofNat 1))
 slC (vS t0) (some (vI t25)) none fun vt26 => asS vt26 fun t26 =>
 cal D 14 [(vS t26), ((.fn 19 [] []) : AV)] h6 fun t27 h10 =>
 asI .i64 t27 fun t27a =>
 let t28 := wrQ .i64 (addQ (Int.ofNat 1) t27a)
 let t29 := wrQ .i64 (addQ t11a t28)
 let t32 := Int.ofNat (lenL t0)
 let t33 := ltQ t29 t32
 obB (brV t33 (
 ixCV (vS t0) (vI t29) fun vt37 => asIV .u8 vt37 fun t37 =>
 let t38 := eqQ t37 (Int.ofNat 101)
 some (vB t38)) (
 some (vB false))) fun t39 =>
 br t39 (
 let t41 := wrQ .i64 (addQ t29 (Int.ofNat 1))
 let t44 := Int.ofNat (lenL t0)
 let t45 := ltQ t41 t44
 obB (brV t45 (
 ixCV (vS t0) (vI t41) fun vt49 => asIV .u8 vt49 fun t49 =>
 let t50 := eqQ t49 (Int.ofNat 43)
 obBV (brV t50 (
 some (vB true)) (
 ixCV (vS t0) (vI t41) fun vt54 => asIV .u8 vt54 fun t54 =>
 let t55 := eqQ t54 (Int.ofNat 45)
 some (vB t55))) fun t56 =>
 some (vB t56)) (
 some (vB false))) fun t57 =>
 br t57 (
 let t59 := wrQ .i64 (addQ t41 (Int.ofNat 1))
 S21_4 D m t0 t59 (Int.ofNat 3) h10) (
 S21_4 D m t0 t41 (Int.ofNat 3) h10)) (
 S21_0 D m t0 t29 (Int.ofNat 3) h10)) (
 S21_0 D m t0 t11a (Int.ofNat 2) h6)
def S21 : SFn := fun D m args h u => nou u <| popS args fun t0 args => endA args (S21_5 D m t0 h)
theorem T21_1 (hE : FX x21 D m E) : S21_1 D m = e21_1 (E c21_1 []) := by unfold S21_1; rw [hE c21_1]; kernel_rfl
theorem T21_2 (hE : FX x21 D m E) : S21_2 D m = e21_2 (E (.opq false l21_2 c21_3) [.sj v21_1 c21_1]) := by unfold S21_2; rw [T21_1 hE, hE (.opq false l21_2 c21_3)]; kernel_rfl
theorem T21_0 (hE : FX x21 D m E) : S21_0 D m = e21_0 (E c21_0 []) := by unfold S21_0; rw [T21_2 hE, hE c21_0]; kernel_rfl
theorem T21_4 (hE : FX x21 D m E) : S21_4 D m = e21_4 (E c21_4 [.sj v21_0 c21_0]) := by unfold S21_4; rw [T21_0 hE, hE c21_4]; kernel_rfl
theorem T21_5 (hE : FX x21 D m E) : S21_5 D m = e21_5 (E c21_e []) := by unfold S21_5; rw [T21_4 hE, T21_0 hE, hE c21_e]; kernel_rfl
theorem X21 : XTie S21 x21 := X_of fun D m E hE args h u => by unfold S21; rw [T21_5 hE]; kernel_rfl
/- 22 -/
def c22_e : XC := (.sO [.mv p4 (cb false) .b] (.sO [.mv p5 q0 .s, .mv p6 q1 .s, .cl p7 16 [q5, q6] tI, .bn p8 .geq q7 (ci 0) .b, .mv p4 q8 .b] (.s .ret)))
def x22 : XFn := ⟨[.s, .s], false, [(.tmp p4)], c22_e⟩
def e22_0 (k t0 t1 h) := kN k [(p0, (vS t0)), (p1, (vS t1))] h
def S22_0 (D : CallD) (m : Nat) (t0 t1 : LN) (h : HP) : Res2 :=
 cal D 16 [(vS t0), (vS t1)] h fun t7 h1 =>
 asI .i64 t7 fun t7a =>
 let t8 := leQ (Int.ofNat 0) t7a
 some (.ret (vB t8) h1, .no)
def S22 : SFn := fun D m args h u => nou u <| popS args fun t0 args => popS args fun t1 args => endA args (S22_0 D m t0 t1 h)
theorem T22_0 (hE : FX x22 D m E) : S22_0 D m = e22_0 (E c22_e []) := by unfold S22_0; rw [hE c22_e]; kernel_rfl
theorem X22 : XTie S22 x22 := X_of fun D m E hE args h u => by unfold S22; rw [T22_0 hE]; kernel_rfl
/- 23 -/
def c23_e : XC := (.sO [.mv p4 (ci 0) tI] (.sO [.mv p5 q0 .s, .mv p6 q1 tC, .P p7 (.xt .ixbyte [q5, q6]) tI, .mv p4 q7 tI] (.s .ret)))
def x23 : XFn := ⟨[.s, tC], false, [(.tmp p4)], c23_e⟩
def e23_0 (k t0 t1 h) := kN k [(p0, (vS t0)), (p1, (vC t1))] h
def S23_0 (D : CallD) (m : Nat) (t0 : LN) (t1 : Int) (h : HP) : Res2 :=
 obI .i64 (evP (.xt .ixbyte [(.c (vS t0)), (.c (vC t1))]) .leaf) fun t7 =>
 some (.ret (vI t7) h, .no)
def S23 : SFn := fun D m args h u => nou u <| popS args fun t0 args => popI .u8 args fun t1 args => endA args (S23_0 D m t0 t1 h)
theorem T23_0 (hE : FX x23 D m E) : S23_0 D m = e23_0 (E c23_e []) := by unfold S23_0; rw [hE c23_e]; kernel_rfl
theorem X23 : XTie S23 x23 := X_of fun D m E hE args h u => by unfold S23; rw [T23_0 hE]; kernel_rfl
/- 24 -/
def c24_e : XC := (.sO [.mv p4 (cb false) .b] (.sO [.mv p5 q0 .s, .P p6 (.lens q5) tI, .mv p7 q1 .s, .P p8 (.lens q7) tI, .bn p9 .geq q6 q8 .b, .mv p10 q9 .b, .ge p10 (XL.of [.G p10 true p11 (.mov q0) .s, .G p10 true p12 (.mov q1) .s, .G p10 true p13 (.lens q12) tI, .G p10 true p14 (.slice .str q11 none (some q13) none) .s, .G p10 true p15 (.mov q1) .s, .G p10 true p16 (.bin .eql q14 q15) .b, .P p17 (.pick q10 q16 (cb false)) .b]) p17 .b, .mv p4 q17 .b] (.s .ret)))
def x24 : XFn := ⟨[.s, .s], false, [(.tmp p4)], c24_e⟩
def e24_0 (k t0 t1 h) := kN k [(p0, (vS t0)), (p1, (vS t1))] h
def S24_0 (D : CallD) (m : Nat) (t0 t1 : LN) (h : HP) : Res2 :=
 let t6 := Int.ofNat (lenL t0)
 let t8 := Int.ofNat (lenL t1)
 let t9 := leQ t8 t6
 obB (brV t9 (
 let t13 := Int.ofNat (lenL t1)
 slCV (vS t0) none (some (vI t13)) fun vt14 => asSV vt14 fun t14 =>
 let t16 := eqL t14 t1
 some (vB t16)) (
 some (vB false))) fun t17 =>
 some (.ret (vB t17) h, .no)
def S24 : SFn := fun D m args h u => nou u <| popS args fun t0 args => popS args fun t1 args => endA args (S24_0 D m t0 t1 h)
theorem T24_0 (hE : FX x24 D m E) : S24_0 D m = e24_0 (E c24_e []) := by unfold S24_0; rw [hE c24_e]; kernel_rfl
theorem X24 : XTie S24 x24 := X_of fun D m E hE args h u => by unfold S24; rw [T24_0 hE]; kernel_rfl
/- 26 -/
def v26_0 : List Pos := [p0, p4, p5]
def c26_0 : XC := (.seq (.seq (.oX [.mv p68 q5 .b, .P p69 (.un .not q68) .b, .mv p70 q69 .b, .ge p70 (XL.of [.G p70 false p71 (.mov q4) .s, .G p70 false p72 (.bin .neq q71 (.c (.str []))) .b, .P p73 (.pick q70 (cb true) q72) .b]) p73 .b]) (.cond q73 (.seq (.oX [.mv p2 (.c (.int .u64 (.ofNat 0))) (.i .u64), .mv p3 (ci 2) tI]) .ret) .skip)) (.sO [.mv p75 q0 .s, .cl p76 34 [q75, (ci 64)] .v, .mv p74 q76 .v, .P p77 (.ext q74 0) .v, .P p78 (.ext q74 1) .v, .mv p10 q77 .v, .mv p11 q78 .v] (.sO [.mv p79 q10 .v, .cl p80 35 [q79] (.i .u64), .mv p2 q80 (.i .u64), .mv p3 (ci 0) tI] (.s .ret))))
def v26_1 : List Pos := [p0, p5, p8]
def c26_1 : XC := (.sO [.mv p60 q8 .s, .cl p61 32 [q60] .v, .mv p59 q61 .v, .P p62 (.ext q59 0) .s, .P p63 (.ext q59 1) .b, .mv p4 q62 .s, .mv p7 q63 .b] (.s (.oX [.mv p64 q5 .b, .mv p65 q64 .b, .ge p65 (XL.of [.G p65 true p66 (.mov q7) .b, .P p67 (.pick q65 q66 (cb false)) .b]) p67 .b, .mv p5 q67 .b])))
def c26_e : XC := (.sO [.mv p2 (.c (.int .u64 (.ofNat 0))) (.i .u64), .mv p3 (ci 0) tI] (.sO [.mv p13 q0 .s, .cl p14 32 [q13] .v, .mv p12 q14 .v, .P p15 (.ext q12 0) .s, .P p16 (.ext q12 1) .b, .mv p4 q15 .s, .mv p5 q16 .b] (.sO [.mv p18 q4 .s, .cl p19 33 [q18, (.c (.str [46]))] .v, .mv p17 q19 .v, .P p20 (.ext q17 0) .s, .P p21 (.ext q17 1) .b, .mv p4 q20 .s, .mv p6 q21 .b] (.sO [.mv p23 q4 .s, .cl p24 32 [q23] .v, .mv p22 q24 .v, .P p25 (.ext q22 0) .s, .P p26 (.ext q22 1) .b, .mv p4 q25 .s, .mv p7 q26 .b] (.sO [.mv p27 q5 .b, .mv p28 q27 .b, .ge p28 (XL.of [.G p28 true p29 (.mov q6) .b, .P p30 (.pick q28 q29 (cb false)) .b]) p30 .b, .mv p31 q30 .b, .ge p31 (XL.of [.G p31 true p32 (.mov q7) .b, .P p33 (.pick q31 q32 (cb false)) .b]) p33 .b, .mv p34 q33 .b, .ge p34 (XL.of [.G p34 true p35 (.mov q0) .s, .G p34 true p36 (.lens q35) tI, .G p34 true p37 (.bin .leq q36 (ci 40)) .b, .P p38 (.pick q34 q37 (cb false)) .b]) p38 .b, .mv p5 q38 .b] (.sj v26_0 (.sO [.mv p40 q4 .s, .cl p41 33 [q40, (.c (.str [101]))] .v, .mv p39 q41 .v, .P p42 (.ext q39 0) .s, .P p43 (.ext q39 1) .b, .mv p8 q42 .s, .mv p9 q43 .b] (.sO [.mv p44 q9 .b] (.cond q44 (.sj v26_1 (.sO [.mv p45 q8 .s, .bn p46 .neq q45 (.c (.str [])) .b, .mv p47 q46 .b, .ge p47 (XL.of [.G p47 true p48 (.mov q8) .s, .G p47 true p49 (.idxs q48 (ci 0)) tC, .G p47 true p50 (.bin .eql q49 (.c (.int .u8 (.ofNat 43)))) .b, .G p47 true p51 (.mov q50) .b, .ge p51 (XL.of [.G p51 false p52 (.mov q8) .s, .G p51 false p53 (.idxs q52 (ci 0)) tC, .G p51 false p54 (.bin .eql q53 (.c (.int .u8 (.ofNat 45)))) .b, .G p47 true p55 (.pick q51 (cb true) q54) .b]) p55 .b, .P p56 (.pick q47 q55 (cb false)) .b]) p56 .b] (.cond q56 (.s (.oX [.mv p57 q8 .s, .P p58 (.slice .str q57 (some (ci 1)) none none) .s, .mv p8 q58 .s])) (.s .skip))) c26_1) (.s .skip)))) c26_0))))))
def x26 : XFn := ⟨[.s], false, [(.tmp p2), (.tmp p3)], c26_e⟩
def e26_0 (k t0 t4 t5 h) := kN k [(p0, (vS t0)), (p4, (vS t4)), (p5, (vB t5))] h
def S26_0 (D : CallD) (m : Nat) (t0 t4 : LN) (t5 : Bool) (h : HP) : Res2 :=
 let t69 := !t5
 obB (brV t69 (
 some (vB true)) (
 let t72 := !(eqL t4 ([] : LN))
 some (vB t72))) fun t73 =>
 br t73 (
 some (.ret (.tup [(AV.int .u64 (Int.ofNat 0)), (vI (Int.ofNat 2))]) h, .no)) (
 cal D 34 [(vS t0), (vI (Int.ofNat 64))] h fun t76 h6 =>
 extC t76 0 fun t77 =>
 extC t76 1 fun t78 =>
 cal D 35 [t77] h6 fun t80 h7 =>
 asI .u64 t80 fun t80a =>
 some (.ret (.tup [(AV.int .u64 t80a), (vI (Int.ofNat 0))]) h7, .no))
def e26_1 (k t0 t5 t8 h) := kN k [(p0, (vS t0)), (p5, (vB t5)), (p8, (vS t8))] h
def S26_1 (D : CallD) (m : Nat) (t0 : LN) (t5 : Bool) (t8 : LN) (h : HP) : Res2 :=
 cal D 32 [(vS t8)] h fun t61 h9 =>
 extC t61 0 fun vt62 => asS vt62 fun t62 =>
 extC t61 1 fun vt63 => asB vt63 fun t63 =>
 obB (brV t5 (
 some (vB t63)) (
 some (vB false))) fun t67 =>
 S26_0 D m t0 t62 t67 h9
def e26_2 (k t0 h) := kN k [(p0, (vS t0))] h
def S26_2 (D : CallD) (m : Nat) (t0 : LN) (h : HP) : Res2 :=
 cal D 32 [(vS t0)] h fun t14 h3 =>
 extC t14 0 fun vt15 => asS vt15 fun t15 =>
 extC t14 1 fun vt16 => asB vt16 fun t16 =>
 cal D 33 [(vS t15), (vS ([46] : LN))] h3 fun t19 h4 =>
 extC t19 0 fun vt20 => asS vt20 fun t20 =>
 extC t19 1 fun vt21 => asB vt21 fun t21 =>
 cal D 32 [(vS t20)] h4 fun t24 h5 =>
 extC t24 0 fun vt25 => asS vt25 fun t25 =>
 extC t24 1 fun vt26 => asB vt26 fun t26 =>
 obB (brV t16 (
 some (vB t21)) (
 some (vB false))) fun t30 =>
 obB (brV t30 (
 some (vB t26)) (
 some (vB false))) fun t33 =>
 obB (brV t33 (
 let t36 := Int.ofNat (lenL t0)
 let t37 := leQ t36 (Int.ofNat 40)
 some (vB t37)) (
 some (vB false))) fun t38 =>
 cal D 33 [(vS t25), (vS ([101] : LN))] h5 fun t41 h8 =>
 extC t41 0 fun vt42 => asS vt42 fun t42 =>
 extC t41 1 fun vt43 => asB vt43 fun t43 =>
 br t43 (
 let t46 := !(eqL t42 ([] : LN))
 obB (brV t46 (
 ixCV (vS t42) (vI (Int.ofNat 0)) fun vt49 => asIV .u8 vt49 fun t49 =>
 let t50 := eqQ t49 (Int.ofNat 43)
 obBV (brV t50 (
 some (vB true)) (
 ixCV (vS t42) (vI (Int.ofNat 0)) fun vt53 => asIV .u8 vt53 fun t53 =>
 let t54 := eqQ t53 (Int.ofNat 45)
 some (vB t54))) fun t55 =>
 some (vB t55)) (
 some (vB false))) fun t56 =>
 br t56 (
 slC (vS t42) (some (vI (Int.ofNat 1))) none fun vt58 => asS vt58 fun t58 =>
 S26_1 D m t0 t38 t58 h8) (
 S26_1 D m t0 t38 t42 h8)) (
 S26_0 D m t0 t25 t38 h8)
def S26 : SFn := fun D m args h u => nou u <| popS args fun t0 args => endA args (S26_2 D m t0 h)
theorem T26_0 (hE : FX x26 D m E) : S26_0 D m = e26_0 (E c26_0 []) := by unfold S26_0; rw [hE c26_0]; kernel_rfl
theorem T26_1 (hE : FX x26 D m E) : S26_1 D m = e26_1 (E c26_1 [.sj v26_0 c26_0]) := by unfold S26_1; rw [T26_0 hE, hE c26_1]; kernel_rfl
theorem T26_2 (hE : FX x26 D m E) : S26_2 D m = e26_2 (E c26_e []) := by unfold S26_2; rw [T26_1 hE, T26_0 hE, hE c26_e]; kernel_rfl
theorem X26 : XTie S26 x26 := X_of fun D m E hE args h u => by unfold S26; rw [T26_2 hE]; kernel_rfl
/- 27 -/
def c27_e : XC := (.sO [.mv p6 (.c (.int .u64 (.ofNat 0))) (.i .u64), .mv p7 (.c .nili) .v] (.sO [.mv p11 q0 .s, .mv p12 q1 tI, .mv p13 q2 tI, .cl p14 36 [q11, q12, q13] .v, .mv p10 q14 .v, .P p15 (.ext q10 0) (.i .u64), .P p16 (.ext q10 1) .v, .mv p8 q15 (.i .u64), .mv p9 q16 .v] (.seq (.seq (.oX [.mv p17 q9 .v, .P p18 (.eqn .ifc true q17 (.c .nili)) .b]) (.cond q18 (.seq (.oX [.mv p19 q8 (.i .u64), .mv p20 q0 .s, .mv p21 q1 tI, .mv p22 q2 tI, .mv p23 q9 .v, .cl p24 37 [(.c (.str [80, 97, 114, 115, 101, 85, 105, 110, 116])), q20, q21, q22, q23] .v, .mv p6 q19 (.i .u64), .mv p7 q24 .v]) .ret) .skip)) (.sO [.mv p25 q8 (.i .u64), .mv p6 q25 (.i .u64), .mv p7 (.c .nili) .v] (.s .ret)))))
def x27 : XFn := ⟨[.s, tI, tI], false, [(.tmp p6), (.tmp p7)], c27_e⟩
def e27_0 (k t0 t1 t2 h) := kN k [(p0, (vS t0)), (p1, (vI t1)), (p2, (vI t2))] h
def S27_0 (D : CallD) (m : Nat) (t0 : LN) (t1 t2 : Int) (h : HP) : Res2 :=
 cal D 36 [(vS t0), (vI t1), (vI t2)] h fun t14 h1 =>
 extC t14 0 fun vt15 => asI .u64 vt15 fun t15 =>
 extC t14 1 fun t16 =>
 obB (evP (.eqn .ifc true (.c t16) (.c (.nili : AV))) .leaf) fun t18 =>
 br t18 (
 cal D 37 [(vS ([80, 97, 114, 115, 101, 85, 105, 110, 116] : LN)), (vS t0), (vI t1), (vI t2), t16] h1 fun t24 h2 =>
 some (.ret (.tup [(AV.int .u64 t15), t24]) h2, .no)) (
 some (.ret (.tup [(AV.int .u64 t15), (.nili : AV)]) h1, .no))
def S27 : SFn := fun D m args h u => nou u <| popS args fun t0 args => popI .i64 args fun t1 args => popI .i64 args fun t2 args => endA args (S27_0 D m t0 t1 t2 h)
theorem T27_0 (hE : FX x27 D m E) : S27_0 D m = e27_0 (E c27_e []) := by unfold S27_0; rw [hE c27_e]; kernel_rfl
theorem X27 : XTie S27 x27 := X_of fun D m E hE args h u => by unfold S27; rw [T27_0 hE]; kernel_rfl
/- 32 -/
def c32_e : XC := (.sO [.mv p2 (.c (.str [])) .s, .mv p3 (cb false) .b] (.sO [.mv p5 q0 .s, .cl p6 39 [q5, (.c (.str [48, 49, 50, 51, 52, 53, 54, 55, 56, 57]))] .s, .mv p4 q6 .s] (.sO [.mv p7 q4 .s, .mv p8 q4 .s, .P p9 (.lens q8) tI, .mv p10 q0 .s, .P p11 (.lens q10) tI, .bn p12 .lss q9 q11 .b, .mv p2 q7 .s, .mv p3 q12 .b] (.s .ret))))
def x32 : XFn := ⟨[.s], false, [(.tmp p2), (.tmp p3)], c32_e⟩
def e32_0 (k t0 h) := kN k [(p0, (vS t0))] h
def S32_0 (D : CallD) (m : Nat) (t0 : LN) (h : HP) : Res2 :=
 cal D 39 [(vS t0), (vS ([48, 49, 50, 51, 52, 53, 54, 55, 56, 57] : LN))] h fun t6 h1 =>
 asS t6 fun t6a =>
 let t9 := Int.ofNat (lenL t6a)
 let t11 := Int.ofNat (lenL t0)
 let t12 := ltQ t9 t11
 some (.ret (.tup [(vS t6a), (vB t12)]) h1, .no)
def S32 : SFn := fun D m args h u => nou u <| popS args fun t0 args => endA args (S32_0 D m t0 h)
theorem T32_0 (hE : FX x32 D m E) : S32_0 D m = e32_0 (E c32_e []) := by unfold S32_0; rw [hE c32_e]; kernel_rfl
theorem X32 : XTie S32 x32 := X_of fun D m E hE args h u => by unfold S32; rw [T32_0 hE]; kernel_rfl
/- 33 -/
def c33_e : XC := (.sO [.mv p4 (.c (.str [])) .s, .mv p5 (cb false) .b] (.sO [.mv p6 q0 .s, .mv p7 q1 .s, .cl p8 40 [q6, q7] .v, .P p9 (.ext q8 0) .s, .P p10 (.ext q8 1) .b, .mv p4 q9 .s, .mv p5 q10 .b] (.s .ret)))
def x33 : XFn := ⟨[.s, .s], false, [(.tmp p4), (.tmp p5)], c33_e⟩
def e33_0 (k t0 t1 h) := kN k [(p0, (vS t0)), (p1, (vS t1))] h
def S33_0 (D : CallD) (m : Nat) (t0 t1 : LN) (h : HP) : Res2 :=
 cal D 40 [(vS t0), (vS t1)] h fun t8 h1 =>
 extC t8 0 fun vt9 => asS vt9 fun t9 =>
 extC t8 1 fun vt10 => asB vt10 fun t10 =>
 some (.ret (.tup [(vS t9), (vB t10)]) h1, .no)
def S33 : SFn := fun D m args h u => nou u <| popS args fun t0 args => popS args fun t1 args => endA args (S33_0 D m t0 t1 h)
theorem T33_0 (hE : FX x33 D m E) : S33_0 D m = e33_0 (E c33_e []) := by unfold S33_0; rw [hE c33_e]; kernel_rfl
theorem X33 : XTie S33 x33 := X_of fun D m E hE args h u => by unfold S33; rw [T33_0 hE]; kernel_rfl
/- 34 -/
def c34_e : XC := (.sO [.mv p4 (.c (.flt .f64 0)) .v, .mv p5 (.c .nili) .v] (.sO [.mv p9 q0 .s, .mv p10 q1 tI, .cl p11 41 [q9, q10] .v, .mv p8 q11 .v, .P p12 (.ext q8 0) .v, .P p13 (.ext q8 1) .v, .mv p6 q12 .v, .mv p7 q13 .v] (.seq (.seq (.oX [.mv p14 q7 .v, .P p15 (.eqn .ifc true q14 (.c .nili)) .b]) (.cond q15 (.seq (.oX [.mv p16 q6 .v, .mv p17 q0 .s, .mv p18 q1 tI, .mv p19 q7 .v, .cl p20 37 [(.c (.str [80, 97, 114, 115, 101, 70, 108, 111, 97, 116])), q17, (ci 0), q18, q19] .v, .mv p4 q16 .v, .mv p5 q20 .v]) .ret) .skip)) (.sO [.mv p21 q6 .v, .mv p4 q21 .v, .mv p5 (.c .nili) .v] (.s .ret)))))
def x34 : XFn := ⟨[.s, tI], false, [(.tmp p4), (.tmp p5)], c34_e⟩
def e34_0 (k t0 t1 h) := kN k [(p0, (vS t0)), (p1, (vI t1))] h
def S34_0 (D : CallD) (m : Nat) (t0 : LN) (t1 : Int) (h : HP) : Res2 :=
 cal D 41 [(vS t0), (vI t1)] h fun t11 h1 =>
 extC t11 0 fun t12 =>
 extC t11 1 fun t13 =>
 obB (evP (.eqn .ifc true (.c t13) (.c (.nili : AV))) .leaf) fun t15 =>
 br t15 (
 cal D 37 [(vS ([80, 97, 114, 115, 101, 70, 108, 111, 97, 116] : LN)), (vS t0), (vI (Int.ofNat 0)), (vI t1), t13] h1 fun t20 h2 =>
 some (.ret (.tup [t12, t20]) h2, .no)) (
 some (.ret (.tup [t12, (.nili : AV)]) h1, .no))
def S34 : SFn := fun D m args h u => nou u <| popS args fun t0 args => popI .i64 args fun t1 args => endA args (S34_0 D m t0 t1 h)
theorem T34_0 (hE : FX x34 D m E) : S34_0 D m = e34_0 (E c34_e []) := by unfold S34_0; rw [hE c34_e]; kernel_rfl
theorem X34 : XTie S34 x34 := X_of fun D m E hE args h u => by unfold S34; rw [T34_0 hE]; kernel_rfl
/- 35 -/
def c35_e : XC := (.sO [.mv p2 (.c (.int .u64 (.ofNat 0))) (.i .u64)] (.seq (.seq (.oX [.mv p3 q0 .v, .cl p4 42 [q3] .b]) (.cond q4 (.seq (.oX [.mv p2 (.c (.int .u64 (.ofNat 9221120237041090560))) (.i .u64)]) .ret) .skip)) (.sO [.mv p5 q0 .v, .P p6 (.xt .fbits [q5]) (.i .u64), .mv p2 q6 (.i .u64)] (.s .ret))))
def x35 : XFn := ⟨[.v], false, [(.tmp p2)], c35_e⟩
def e35_0 (k t0 h) := kN k [(p0, t0)] h
def S35_0 (D : CallD) (m : Nat) (t0 : AV) (h : HP) : Res2 :=
 cal D 42 [t0] h fun t4 h1 =>
 asB t4 fun t4a =>
 br t4a (
 some (.ret (AV.int .u64 (Int.ofNat 9221120237041090560)) h1, .no)) (
 obI .u64 (evP (.xt .fbits [(.c t0)]) .leaf) fun t6 =>
 some (.ret (AV.int .u64 t6) h1, .no))
def S35 : SFn := fun D m args h u => nou u <| popV args fun t0 args => endA args (S35_0 D m t0 h)
theorem T35_0 (hE : FX x35 D m E) : S35_0 D m = e35_0 (E c35_e []) := by unfold S35_0; rw [hE c35_e]; kernel_rfl
theorem X35 : XTie S35 x35 := X_of fun D m E hE args h u => by unfold S35; rw [T35_0 hE]; kernel_rfl
/- 39 -/
def c39_e : XC := (.sO [.mv p4 (.c (.str [])) .s] (.seq (.seq (.oX [.mv p7 q0 .s, .bn p8 .eql q7 (.c (.str [])) .b, .mv p9 q8 .b, .ge p9 (XL.of [.G p9 false p10 (.mov q1) .s, .G p9 false p11 (.bin .eql q10 (.c (.str []))) .b, .P p12 (.pick q9 (cb true) q11) .b]) p12 .b]) (.cond q12 (.seq (.oX [.mv p13 q0 .s, .mv p4 q13 .s]) .ret) .skip)) (.seq (.seq (.oX [.mv p14 q1 .s, .P p15 (.lens q14) tI, .bn p16 .eql q15 (ci 1) .b, .mv p17 q16 .b, .ge p17 (XL.of [.G p17 true p18 (.mov q1) .s, .G p17 true p19 (.idxs q18 (ci 0)) tC, .G p17 true p20 (.bin .lss q19 (.c (.int .u8 (.ofNat 128)))) .b, .P p21 (.pick q17 q20 (cb false)) .b]) p21 .b]) (.cond q21 (.seq (.oX [.mv p22 q0 .s, .mv p23 q1 .s, .P p24 (.idxs q23 (ci 0)) tC, .cl p25 50 [q22, q24] .s, .mv p4 q25 .s]) .ret) .skip)) (.seq (.seq (.oX [.mv p27 q1 .s, .cl p28 51 [q27] .v, .mv p26 q28 .v, .P p29 (.ext q26 0) .v, .P p30 (.ext q26 1) .b, .al p5 (.new [(.bool false), (.bool false), (.bool false), (.bool false), (.bool false), (.bool false), (.bool false), (.bool false), (.bool false), (.bool false), (.bool false), (.bool false), (.bool false), (.bool false), (.bool false), (.bool false), (.bool false), (.bool false), (.bool false), (.bool false), (.bool false), (.bool false), (.bool false), (.bool false), (.bool false), (.bool false), (.bool false), (.bool false), (.bool false), (.bool false), (.bool false), (.bool false), (.bool false), (.bool false), (.bool false), (.bool false), (.bool false), (.bool false), (.bool false), (.bool false), (.bool false), (.bool false), (.bool false), (.bool false), (.bool false), (.bool false), (.bool false), (.bool false), (.bool false), (.bool false), (.bool false), (.bool false), (.bool false), (.bool false), (.bool false), (.bool false), (.bool false), (.bool false), (.bool false), (.bool false), (.bool false), (.bool false), (.bool false), (.bool false), (.bool false), (.bool false), (.bool false), (.bool false), (.bool false), (.bool false), (.bool false), (.bool false), (.bool false), (.bool false), (.bool false), (.bool false), (.bool false), (.bool false), (.bool false), (.bool false), (.bool false), (.bool false), (.bool false), (.bool false), (.bool false), (.bool false), (.bool false), (.bool false), (.bool false), (.bool false), (.bool false), (.bool false), (.bool false), (.bool false), (.bool false), (.bool false), (.bool false), (.bool false), (.bool false), (.bool false), (.bool false), (.bool false), (.bool false), (.bool false), (.bool false), (.bool false), (.bool false), (.bool false), (.bool false), (.bool false), (.bool false), (.bool false), (.bool false), (.bool false), (.bool false), (.bool false), (.bool false), (.bool false), (.bool false), (.bool false), (.bool false), (.bool false), (.bool false), (.bool false), (.bool false), (.bool false), (.bool false), (.bool false), (.bool false), (.bool false), (.bool false), (.bool false), (.bool false), (.bool false), (.bool false), (.bool false), (.bool false), (.bool false), (.bool false), (.bool false), (.bool false), (.bool false), (.bool false), (.bool false), (.bool false), (.bool false), (.bool false), (.bool false), (.bool false), (.bool false), (.bool false), (.bool false), (.bool false), (.bool false), (.bool false), (.bool false), (.bool false), (.bool false), (.bool false), (.bool false), (.bool false), (.bool false), (.bool false), (.bool false), (.bool false), (.bool false), (.bool false), (.bool false), (.bool false), (.bool false), (.bool false), (.bool false), (.bool false), (.bool false), (.bool false), (.bool false), (.bool false), (.bool false), (.bool false), (.bool false), (.bool false), (.bool false), (.bool false), (.bool false), (.bool false), (.bool false), (.bool false), (.bool false), (.bool false), (.bool false), (.bool false), (.bool false), (.bool false), (.bool false), (.bool false), (.bool false), (.bool false), (.bool false), (.bool false), (.bool false), (.bool false), (.bool false), (.bool false), (.bool false), (.bool false), (.bool false), (.bool false), (.bool false), (.bool false), (.bool false), (.bool false), (.bool false), (.bool false), (.bool false), (.bool false), (.bool false), (.bool false), (.bool false), (.bool false), (.bool false), (.bool false), (.bool false), (.bool false), (.bool false), (.bool false), (.bool false), (.bool false), (.bool false), (.bool false), (.bool false), (.bool false), (.bool false), (.bool false), (.bool false), (.bool false), (.bool false), (.bool false), (.bool false), (.bool false), (.bool false), (.bool false), (.bool false), (.bool false), (.bool false), (.bool false), (.bool false), (.bool false), (.bool false), (.bool false), (.bool false), (.bool false), (.bool false), (.bool false), (.bool false), (.bool false), (.bool false)]), .ss 256 q5 q29, .mv p6 q30 .b]) (.seq (.oX [.mv p31 q6 .b]) (.cond q31 (.seq (.oX [.mv p32 q0 .s, .cl p33 52 [q32, q5] .s, .mv p4 q33 .s]) .ret) .skip))) (.sO [.mv p34 q0 .s, .mv p35 q1 .s, .cl p36 53 [q34, q35] .s, .mv p4 q36 .s] (.s .ret))))))
def x39 : XFn := ⟨[.s, .s], false, [(.tmp p4)], c39_e⟩
def e39_0 (k t0 t1 h) := kN k [(p0, (vS t0)), (p1, (vS t1))] h
def S39_0 (D : CallD) (m : Nat) (t0 t1 : LN) (h : HP) : Res2 :=
 let t8 := eqL t0 ([] : LN)
 obB (brV t8 (
 some (vB true)) (
 let t11 := eqL t1 ([] : LN)
 some (vB t11))) fun t12 =>
 br t12 (
 some (.ret (vS t0) h, .no)) (
 let t15 := Int.ofNat (lenL t1)
 let t16 := eqQ t15 (Int.ofNat 1)
 obB (brV t16 (
 ixCV (vS t1) (vI (Int.ofNat 0)) fun vt19 => asIV .u8 vt19 fun t19 =>
 let t20 := ltQ t19 (Int.ofNat 128)
 some (vB t20)) (
 some (vB false))) fun t21 =>
 br t21 (
 ixC (vS t1) (vI (Int.ofNat 0)) fun vt24 => asI .u8 vt24 fun t24 =>
 cal D 50 [(vS t0), (vC t24)] h fun t25 h1 =>
 asS t25 fun t25a =>
 some (.ret (vS t25a) h1, .no)) (
 cal D 51 [(vS t1)] h fun t28 h2 =>
 extC t28 0 fun t29 =>
 extC t28 1 fun vt30 => asB vt30 fun t30 =>
 let t5 := AV.ptr (HP.nxQ h2) 0
 let h3 := HP.newQ h2 (.cells true [(.bool false), (.bool false), (.bool false), (.bool false), (.bool false), (.bool false), (.bool false), (.bool false), (.bool false), (.bool false), (.bool false), (.bool false), (.bool false), (.bool false), (.bool false), (.bool false), (.bool false), (.bool false), (.bool false), (.bool false), (.bool false), (.bool false), (.bool false), (.bool false), (.bool false), (.bool false), (.bool false), (.bool false), (.bool false), (.bool false), (.bool false), (.bool false), (.bool false), (.bool false), (.bool false), (.bool false), (.bool false), (.bool false), (.bool false), (.bool false), (.bool false), (.bool false), (.bool false), (.bool false), (.bool false), (.bool false), (.bool false), (.bool false), (.bool false), (.bool false), (.bool false), (.bool false), (.bool false), (.bool false), (.bool false), (.bool false), (.bool false), (.bool false), (.bool false), (.bool false), (.bool false), (.bool false), (.bool false), (.bool false), (.bool false), (.bool false), (.bool false), (.bool false), (.bool false), (.bool false), (.bool false), (.bool false), (.bool false), (.bool false), (.bool false), (.bool false), (.bool false), (.bool false), (.bool false), (.bool false), (.bool false), (.bool false), (.bool false), (.bool false), (.bool false), (.bool false), (.bool false), (.bool false), (.bool false), (.bool false), (.bool false), (.bool false), (.bool false), (.bool false), (.bool false), (.bool false), (.bool false), (.bool false), (.bool false), (.bool false), (.bool false), (.bool false), (.bool false), (.bool false), (.bool false), (.bool false), (.bool false), (.bool false), (.bool false), (.bool false), (.bool false), (.bool false), (.bool false), (.bool false), (.bool false), (.bool false), (.bool false), (.bool false), (.bool false), (.bool false), (.bool false), (.bool false), (.bool false), (.bool false), (.bool false), (.bool false), (.bool false), (.bool false), (.bool false), (.bool false), (.bool false), (.bool false), (.bool false), (.bool false), (.bool false), (.bool false), (.bool false), (.bool false), (.bool false), (.bool false), (.bool false), (.bool false), (.bool false), (.bool false), (.bool false), (.bool false), (.bool false), (.bool false), (.bool false), (.bool false), (.bool false), (.bool false), (.bool false), (.bool false), (.bool false), (.bool false), (.bool false), (.bool false), (.bool false), (.bool false), (.bool false), (.bool false), (.bool false), (.bool false), (.bool false), (.bool false), (.bool false), (.bool false), (.bool false), (.bool false), (.bool false), (.bool false), (.bool false), (.bool false), (.bool false), (.bool false), (.bool false), (.bool false), (.bool false), (.bool false), (.bool false), (.bool false), (.bool false), (.bool false), (.bool false), (.bool false), (.bool false), (.bool false), (.bool false), (.bool false), (.bool false), (.bool false), (.bool false), (.bool false), (.bool false), (.bool false), (.bool false), (.bool false), (.bool false), (.bool false), (.bool false), (.bool false), (.bool false), (.bool false), (.bool false), (.bool false), (.bool false), (.bool false), (.bool false), (.bool false), (.bool false), (.bool false), (.bool false), (.bool false), (.bool false), (.bool false), (.bool false), (.bool false), (.bool false), (.bool false), (.bool false), (.bool false), (.bool false), (.bool false), (.bool false), (.bool false), (.bool false), (.bool false), (.bool false), (.bool false), (.bool false), (.bool false), (.bool false), (.bool false), (.bool false), (.bool false), (.bool false), (.bool false), (.bool false), (.bool false), (.bool false), (.bool false), (.bool false), (.bool false), (.bool false), (.bool false), (.bool false), (.bool false), (.bool false), (.bool false), (.bool false), (.bool false), (.bool false), (.bool false), (.bool false), (.bool false)])
 stsC 256 t5 t29 h3 fun h4 =>
 br t30 (
 cal D 52 [(vS t0), t5] h4 fun t33 h5 =>
 asS t33 fun t33a =>
 some (.ret (vS t33a) h5, .no)) (
 cal D 53 [(vS t0), (vS t1)] h4 fun t36 h6 =>
 asS t36 fun t36a =>
 some (.ret (vS t36a) h6, .no))))
def S39 : SFn := fun D m args h u => nou u <| popS args fun t0 args => popS args fun t1 args => endA args (S39_0 D m t0 t1 h)
theorem T39_0 (hE : FX x39 D m E) : S39_0 D m = e39_0 (E c39_e []) := by unfold S39_0; rw [hE c39_e]; kernel_rfl
theorem X39 : XTie S39 x39 := X_of fun D m E hE args h u => by unfold S39; rw [T39_0 hE]; kernel_rfl
/- 40 -/
def c40_e : XC := (.sO [.mv p4 (.c (.str [])) .s, .mv p5 (cb false) .b] (.seq (.seq (.oX [.mv p6 q0 .s, .mv p7 q1 .s, .cl p8 24 [q6, q7] .b, .P p9 (.un .not q8) .b]) (.cond q9 (.seq (.oX [.mv p10 q0 .s, .mv p4 q10 .s, .mv p5 (cb false) .b]) .ret) .skip)) (.sO [.mv p11 q0 .s, .mv p12 q1 .s, .P p13 (.lens q12) tI, .P p14 (.slice .str q11 (some q13) none none) .s, .mv p4 q14 .s, .mv p5 (cb true) .b] (.s .ret))))
def x40 : XFn := ⟨[.s, .s], false, [(.tmp p4), (.tmp p5)], c40_e⟩
def e40_0 (k t0 t1 h) := kN k [(p0, (vS t0)), (p1, (vS t1))] h
def S40_0 (D : CallD) (m : Nat) (t0 t1 : LN) (h : HP) : Res2 :=
 cal D 24 [(vS t0), (vS t1)] h fun t8 h1 =>
 asB t8 fun t8a =>
 let t9 := !t8a
 br t9 (
 some (.ret (.tup [(vS t0), (vB false)]) h1, .no)) (
 let t13 := Int.ofNat (lenL t1)
 slC (vS t0) (some (vI t13)) none fun vt14 => asS vt14 fun t14 =>
 some (.ret (.tup [(vS t14), (vB true)]) h1, .no))
def S40 : SFn := fun D m args h u => nou u <| popS args fun t0 args => popS args fun t1 args => endA args (S40_0 D m t0 t1 h)
theorem T40_0 (hE : FX x40 D m E) : S40_0 D m = e40_0 (E c40_e []) := by unfold S40_0; rw [hE c40_e]; kernel_rfl
theorem X40 : XTie S40 x40 := X_of fun D m E hE args h u => by unfold S40; rw [T40_0 hE]; kernel_rfl
/- 41 -/
def c41_e : XC := (.sO [.mv p4 (.c (.flt .f64 0)) .v, .mv p5 (.c .nili) .v] (.sO [.mv p10 q0 .s, .mv p11 q1 tI, .cl p12 54 [q10, q11] .v, .mv p9 q12 .v, .P p13 (.ext q9 0) .v, .P p14 (.ext q9 1) tI, .P p15 (.ext q9 2) .v, .mv p6 q13 .v, .mv p7 q14 tI, .mv p8 q15 .v] (.seq (.seq (.oX [.mv p16 q7 tI, .mv p17 q0 .s, .P p18 (.lens q17) tI, .bn p19 .neq q16 q18 .b]) (.cond q19 (.seq (.oX [.P p20 (.mkif 69 (ci 2)) .v, .mv p4 (.c (.flt .f64 0)) .v, .mv p5 q20 .v]) .ret) .skip)) (.sO [.mv p21 q6 .v, .mv p22 q8 .v, .mv p4 q21 .v, .mv p5 q22 .v] (.s .ret)))))
def x41 : XFn := ⟨[.s, tI], false, [(.tmp p4), (.tmp p5)], c41_e⟩
def e41_0 (k t0 t1 h) := kN k [(p0, (vS t0)), (p1, (vI t1))] h
def S41_0 (D : CallD) (m : Nat) (t0 : LN) (t1 : Int) (h : HP) : Res2 :=
 cal D 54 [(vS t0), (vI t1)] h fun t12 h1 =>
 extC t12 0 fun t13 =>
 extC t12 1 fun vt14 => asI .i64 vt14 fun t14 =>
 extC t12 2 fun t15 =>
 let t18 := Int.ofNat (lenL t0)
 let t19 := notQ (eqQ t14 t18)
 br t19 (
 let t20 := (AV.iface 69 (vI (Int.ofNat 2)))
 some (.ret (.tup [((.flt .f64 0) : AV), t20]) h1, .no)) (
 some (.ret (.tup [t13, t15]) h1, .no))
def S41 : SFn := fun D m args h u => nou u <| popS args fun t0 args => popI .i64 args fun t1 args => endA args (S41_0 D m t0 t1 h)
theorem T41_0 (hE : FX x41 D m E) : S41_0 D m = e41_0 (E c41_e []) := by unfold S41_0; rw [hE c41_e]; kernel_rfl
theorem X41 : XTie S41 x41 := X_of fun D m E hE args h u => by unfold S41; rw [T41_0 hE]; kernel_rfl
/- 42 -/
def c42_e : XC := (.sO [.mv p2 (cb false) .b] (.sO [.mv p3 q0 .v, .mv p4 q0 .v, .bn p5 .neq q3 q4 .b, .mv p2 q5 .b] (.s .ret)))
def x42 : XFn := ⟨[.v], false, [(.tmp p2)], c42_e⟩
def e42_0 (k t0 h) := kN k [(p0, t0)] h
def S42_0 (D : CallD) (m : Nat) (t0 : AV) (h : HP) : Res2 :=
 binC .neq t0 t0 fun vt5 => asB vt5 fun t5 =>
 some (.ret (vB t5) h, .no)
def S42 : SFn := fun D m args h u => nou u <| popV args fun t0 args => endA args (S42_0 D m t0 h)
theorem T42_0 (hE : FX x42 D m E) : S42_0 D m = e42_0 (E c42_e []) := by unfold S42_0; rw [hE c42_e]; kernel_rfl
theorem X42 : XTie S42 x42 := X_of fun D m E hE args h u => by unfold S42; rw [T42_0 hE]; kernel_rfl
/- 44 -/
def c44_e : XC := (.sO [.mv p2 (.c (.int .u8 (.ofNat 0))) tC] (.sO [.mv p3 q0 tC, .bn p4 .or q3 (.c (.int .u8 (.ofNat 32))) tC, .mv p2 q4 tC] (.s .ret)))
def x44 : XFn := ⟨[tC], false, [(.tmp p2)], c44_e⟩
def e44_0 (k t0 h) := kN k [(p0, (vC t0))] h
def S44_0 (D : CallD) (m : Nat) (t0 : Int) (h : HP) : Res2 :=
 obI .u8 (intBin .or .u8 t0 (Int.ofNat 32)) fun t4 =>
 some (.ret (vC t4) h, .no)
def S44 : SFn := fun D m args h u => nou u <| popI .u8 args fun t0 args => endA args (S44_0 D m t0 h)
theorem T44_0 (hE : FX x44 D m E) : S44_0 D m = e44_0 (E c44_e []) := by unfold S44_0; rw [hE c44_e]; kernel_rfl
theorem X44 : XTie S44 x44 := X_of fun D m E hE args h u => by unfold S44; rw [T44_0 hE]; kernel_rfl
/- 50 -/
def v50_0 : List Pos := [p0]
def c50_0 : XC := (.sO [.mv p16 q0 .s, .mv p4 q16 .s] (.s .ret))
def v50_1 : List Pos := [p0, p1]
def c50_1b : XC := (.seq (.seq (.oX [.mv p5 q0 .s, .P p6 (.lens q5) tI, .bn p7 .gtr q6 (ci 0) .b, .mv p8 q7 .b, .ge p8 (XL.of [.G p8 true p9 (.mov q0) .s, .G p8 true p10 (.idxs q9 (ci 0)) tC, .G p8 true p11 (.mov q1) tC, .G p8 true p12 (.bin .eql q10 q11) .b, .P p13 (.pick q8 q12 (cb false)) .b]) p13 .b]) (.cond q13 .skip (.exit 0))) (.block 1 (.s (.oX [.mv p14 q0 .s, .P p15 (.slice .str q14 (some (ci 1)) none none) .s, .mv p0 q15 .s]))))
def c50_e : XC := (.sO [.mv p4 (.c (.str [])) .s] (.sj v50_0 (.block 0 (.loop v50_1 c50_1b)) c50_0))
def x50 : XFn := ⟨[.s, tC], false, [(.tmp p4)], c50_e⟩
def e50_0 (k t0 h) := kN k [(p0, (vS t0))] h
def S50_0 (D : CallD) (m : Nat) (t0 : LN) (h : HP) : Res2 :=
 some (.ret (vS t0) h, .no)
def e50_1 (k t0 t1 h) := kN k [(p0, (vS t0)), (p1, (vC t1))] h
def S50_1b (D : CallD) (m : Nat) (g1 : LN → Int → HP → Res2) (t0 : LN) (t1 : Int) (h : HP) : Res2 :=
 let t6 := Int.ofNat (lenL t0)
 let t7 := ltQ (Int.ofNat 0) t6
 obB (brV t7 (
 ixCV (vS t0) (vI (Int.ofNat 0)) fun vt10 => asIV .u8 vt10 fun t10 =>
 let t12 := eqQ t10 t1
 some (vB t12)) (
 some (vB false))) fun t13 =>
 br t13 (
 slC (vS t0) (some (vI (Int.ofNat 1))) none fun vt15 => asS vt15 fun t15 =>
 g1 t15 t1 h) (
 S50_0 D m t0 h)
def S50_1 (D : CallD) (m : Nat) : LN → Int → HP → Res2 := nrec (fun _ _ _ => none) (fun _ g => S50_1b D m g) m
def e50_2 (k t0 t1 h) := kN k [(p0, (vS t0)), (p1, (vC t1))] h
def S50_2 (D : CallD) (m : Nat) (t0 : LN) (t1 : Int) (h : HP) : Res2 :=
 S50_1 D m t0 t1 h
def S50 : SFn := fun D m args h u => nou u <| popS args fun t0 args => popI .u8 args fun t1 args => endA args (S50_2 D m t0 t1 h)
theorem T50_0 (hE : FX x50 D m E) : S50_0 D m = e50_0 (E c50_0 []) := by unfold S50_0; rw [hE c50_0]; kernel_rfl
theorem T50_1b (hE : FX x50 D m E) (G1) : S50_1b D m (e50_1 G1) = e50_1 (E c50_1b [.lp v50_1 G1, .blk 0, .sj v50_0 c50_0]) := by unfold S50_1b; rw [T50_0 hE, hE c50_1b]; kernel_rfl
theorem T50_1 (hE : FX x50 D m E) : S50_1 D m = e50_1 (nrec (fun _ => none) (fun _ G1 st => E c50_1b [.lp v50_1 G1, .blk 0, .sj v50_0 c50_0] st) m) :=
  nrec_emb e50_1 (fun _ _ _ => none) (fun g => S50_1b D m g) (fun G1 st => E c50_1b [.lp v50_1 G1, .blk 0, .sj v50_0 c50_0] st) rfl (fun g => T50_1b hE g) m
theorem T50_2 (hE : FX x50 D m E) : S50_2 D m = e50_2 (E c50_e []) := by unfold S50_2; rw [T50_1 hE, hE c50_e]; kernel_rfl
theorem X50 : XTie S50 x50 := X_of fun D m E hE args h u => by unfold S50; rw [T50_2 hE]; kernel_rfl
/- 51 -/
def v51_0 : List Pos := [p2]
def c51_0 : XC := (.sO [.L p20 (.cells 256 q2) .v, .ss 256 q2 q20, .mv p3 (cb true) .b] (.s .ret))
def v51_1 : List Pos := [p0, p2, p4]
def c51_1b : XC := (.seq (.seq (.oX [.mv p6 q4 tI, .mv p7 q0 .s, .P p8 (.lens q7) tI, .bn p9 .lss q6 q8 .b]) (.cond q9 .skip (.exit 0))) (.seq (.block 1 (.seq (.oX [.mv p12 q0 .s, .mv p13 q4 tI, .P p14 (.idxs q12 q13) tC, .mv p5 q14 tC]) (.seq (.seq (.oX [.mv p15 q5 tC, .bn p16 .geq q15 (.c (.int .u8 (.ofNat 128))) .b]) (.cond q16 (.seq (.oX [.L p17 (.cells 256 q2) .v, .ss 256 q2 q17, .mv p3 (cb false) .b]) .ret) .skip)) (.oX [.mv p18 q5 tC, .P p19 (.iaddr (.arr 256 1) q2 q18) .v, .st q19 (cb true)])))) (.s (.oX [.mv p10 q4 tI, .bn p11 .add q10 (ci 1) tI, .mv p4 q11 tI]))))
def c51_e : XC := (.sO [.al p2 (.new [(.bool false), (.bool false), (.bool false), (.bool false), (.bool false), (.bool false), (.bool false), (.bool false), (.bool false), (.bool false), (.bool false), (.bool false), (.bool false), (.bool false), (.bool false), (.bool false), (.bool false), (.bool false), (.bool false), (.bool false), (.bool false), (.bool false), (.bool false), (.bool false), (.bool false), (.bool false), (.bool false), (.bool false), (.bool false), (.bool false), (.bool false), (.bool false), (.bool false), (.bool false), (.bool false), (.bool false), (.bool false), (.bool false), (.bool false), (.bool false), (.bool false), (.bool false), (.bool false), (.bool false), (.bool false), (.bool false), (.bool false), (.bool false), (.bool false), (.bool false), (.bool false), (.bool false), (.bool false), (.bool false), (.bool false), (.bool false), (.bool false), (.bool false), (.bool false), (.bool false), (.bool false), (.bool false), (.bool false), (.bool false), (.bool false), (.bool false), (.bool false), (.bool false), (.bool false), (.bool false), (.bool false), (.bool false), (.bool false), (.bool false), (.bool false), (.bool false), (.bool false), (.bool false), (.bool false), (.bool false), (.bool false), (.bool false), (.bool false), (.bool false), (.bool false), (.bool false), (.bool false), (.bool false), (.bool false), (.bool false), (.bool false), (.bool false), (.bool false), (.bool false), (.bool false), (.bool false), (.bool false), (.bool false), (.bool false), (.bool false), (.bool false), (.bool false), (.bool false), (.bool false), (.bool false), (.bool false), (.bool false), (.bool false), (.bool false), (.bool false), (.bool false), (.bool false), (.bool false), (.bool false), (.bool false), (.bool false), (.bool false), (.bool false), (.bool false), (.bool false), (.bool false), (.bool false), (.bool false), (.bool false), (.bool false), (.bool false), (.bool false), (.bool false), (.bool false), (.bool false), (.bool false), (.bool false), (.bool false), (.bool false), (.bool false), (.bool false), (.bool false), (.bool false), (.bool false), (.bool false), (.bool false), (.bool false), (.bool false), (.bool false), (.bool false), (.bool false), (.bool false), (.bool false), (.bool false), (.bool false), (.bool false), (.bool false), (.bool false), (.bool false), (.bool false), (.bool false), (.bool false), (.bool false), (.bool false), (.bool false), (.bool false), (.bool false), (.bool false), (.bool false), (.bool false), (.bool false), (.bool false), (.bool false), (.bool false), (.bool false), (.bool false), (.bool false), (.bool false), (.bool false), (.bool false), (.bool false), (.bool false), (.bool false), (.bool false), (.bool false), (.bool false), (.bool false), (.bool false), (.bool false), (.bool false), (.bool false), (.bool false), (.bool false), (.bool false), (.bool false), (.bool false), (.bool false), (.bool false), (.bool false), (.bool false), (.bool false), (.bool false), (.bool false), (.bool false), (.bool false), (.bool false), (.bool false), (.bool false), (.bool false), (.bool false), (.bool false), (.bool false), (.bool false), (.bool false), (.bool false), (.bool false), (.bool false), (.bool false), (.bool false), (.bool false), (.bool false), (.bool false), (.bool false), (.bool false), (.bool false), (.bool false), (.bool false), (.bool false), (.bool false), (.bool false), (.bool false), (.bool false), (.bool false), (.bool false), (.bool false), (.bool false), (.bool false), (.bool false), (.bool false), (.bool false), (.bool false), (.bool false), (.bool false), (.bool false), (.bool false), (.bool false), (.bool false), (.bool false), (.bool false), (.bool false), (.bool false), (.bool false), (.bool false), (.bool false), (.bool false), (.bool false), (.bool false), (.bool false), (.bool false), (.bool false), (.bool false)]), .mv p3 (cb false) .b] (.sj v51_0 (.sO [.mv p4 (ci 0) tI] (.block 0 (.loop v51_1 c51_1b))) c51_0))
def x51 : XFn := ⟨[.s], false, [(.cells 256 p2), (.tmp p3)], c51_e⟩
def e51_0 (k t2 h) := kN k [(p2, t2)] h
def S51_0 (D : CallD) (m : Nat) (t2 : AV) (h : HP) : Res2 :=
 cellsC 256 t2 h fun t20 =>
 stsC 256 t2 t20 h fun h4 =>
 cellsC 256 t2 h4 fun t2a =>
 some (.ret (.tup [t2a, (vB true)]) h4, .no)
def e51_1 (k t0 t2 t4 h) := kN k [(p0, (vS t0)), (p2, t2), (p4, (vI t4))] h
def S51_1b (D : CallD) (m : Nat) (g1 : LN → AV → Int → HP → Res2) (t0 : LN) (t2 : AV) (t4 : Int) (h : HP) : Res2 :=
 let t8 := Int.ofNat (lenL t0)
 let t9 := ltQ t4 t8
 br t9 (
 ixC (vS t0) (vI t4) fun vt14 => asI .u8 vt14 fun t14 =>
 let t16 := leQ (Int.ofNat 128) t14
 br t16 (
 cellsC 256 t2 h fun t17 =>
 stsC 256 t2 t17 h fun h5 =>
 cellsC 256 t2 h5 fun t2a =>
 some (.ret (.tup [t2a, (vB false)]) h5, .no)) (
 iarC 256 1 t2 (vC t14) fun t19 =>
 stoC t19 (vB true) h fun h6 =>
 let t11 := wrQ .i64 (addQ t4 (Int.ofNat 1))
 g1 t0 t2 t11 h6)) (
 S51_0 D m t2 h)
def S51_1 (D : CallD) (m : Nat) : LN → AV → Int → HP → Res2 := nrec (fun _ _ _ _ => none) (fun _ g => S51_1b D m g) m
def e51_2 (k t0 h) := kN k [(p0, (vS t0))] h
def S51_2 (D : CallD) (m : Nat) (t0 : LN) (h : HP) : Res2 :=
 let t2 := AV.ptr (HP.nxQ h) 0
 let h3 := HP.newQ h (.cells true [(.bool false), (.bool false), (.bool false), (.bool false), (.bool false), (.bool false), (.bool false), (.bool false), (.bool false), (.bool false), (.bool false), (.bool false), (.bool false), (.bool false), (.bool false), (.bool false), (.bool false), (.bool false), (.bool false), (.bool false), (.bool false), (.bool false), (.bool false), (.bool false), (.bool false), (.bool false), (.bool false), (.bool false), (.bool false), (.bool false), (.bool false), (.bool false), (.bool false), (.bool false), (.bool false), (.bool false), (.bool false), (.bool false), (.bool false), (.bool false), (.bool false), (.bool false), (.bool false), (.bool false), (.bool false), (.bool false), (.bool false), (.bool false), (.bool false), (.bool false), (.bool false), (.bool false), (.bool false), (.bool false), (.bool false), (.bool false), (.bool false), (.bool false), (.bool false), (.bool false), (.bool false), (.bool false), (.bool false), (.bool false), (.bool false), (.bool false), (.bool false), (.bool false), (.bool false), (.bool false), (.bool false), (.bool false), (.bool false), (.bool false), (.bool false), (.bool false), (.bool false), (.bool false), (.bool false), (.bool false), (.bool false), (.bool false), (.bool false), (.bool false), (.bool false), (.bool false), (.bool false), (.bool false), (.bool false), (.bool false), (.bool false), (.bool false), (.bool false), (.bool false), (.bool false), (.bool false), (.bool false), (.bool false), (.bool false), (.bool false), (.bool false), (.bool false), (.bool false), (.bool false), (.bool false), (.bool false), (.bool false), (.bool false), (.bool false), (.bool false), (.bool false), (.bool false), (.bool false), (.bool false), (.bool false), (.bool false), (.bool false), (.bool false), (.bool false), (.bool false), (.bool false), (.bool false), (.bool false), (.bool false), (.bool false), (.bool false), (.bool false), (.bool false), (.bool false), (.bool false), (.bool false), (.bool false), (.bool false), (.bool false), (.bool false), (.bool false), (.bool false), (.bool false), (.bool false), (.bool false), (.bool false), (.bool false), (.bool false), (.bool false), (.bool false), (.bool false), (.bool false), (.bool false), (.bool false), (.bool false), (.bool false), (.bool false), (.bool false), (.bool false), (.bool false), (.bool false), (.bool false), (.bool false), (.bool false), (.bool false), (.bool false), (.bool false), (.bool false), (.bool false), (.bool false), (.bool false), (.bool false), (.bool false), (.bool false), (.bool false), (.bool false), (.bool false), (.bool false), (.bool false), (.bool false), (.bool false), (.bool false), (.bool false), (.bool false), (.bool false), (.bool false), (.bool false), (.bool false), (.bool false), (.bool false), (.bool false), (.bool false), (.bool false), (.bool false), (.bool false), (.bool false), (.bool false), (.bool false), (.bool false), (.bool false), (.bool false), (.bool false), (.bool false), (.bool false), (.bool false), (.bool false), (.bool false), (.bool false), (.bool false), (.bool false), (.bool false), (.bool false), (.bool false), (.bool false), (.bool false), (.bool false), (.bool false), (.bool false), (.bool false), (.bool false), (.bool false), (.bool false), (.bool false), (.bool false), (.bool false), (.bool false), (.bool false), (.bool false), (.bool false), (.bool false), (.bool false), (.bool false), (.bool false), (.bool false), (.bool false), (.bool false), (.bool false), (.bool false), (.bool false), (.bool false), (.bool false), (.bool false), (.bool false), (.bool false), (.bool false), (.bool false), (.bool false), (.bool false), (.bool false), (.bool false), (.bool false), (.bool false), (.bool false), (.bool false), (.bool false), (.bool false), (.bool false), (.bool false), (.bool false), (.bool false), (.bool false)])
 S51_1 D m t0 t2 (Int.ofNat 0) h3
def S51 : SFn := fun D m args h u => nou u <| popS args fun t0 args => endA args (S51_2 D m t0 h)
theorem T51_0 (hE : FX x51 D m E) : S51_0 D m = e51_0 (E c51_0 []) := by unfold S51_0; rw [hE c51_0]; kernel_rfl
theorem T51_1b (hE : FX x51 D m E) (G1) : S51_1b D m (e51_1 G1) = e51_1 (E c51_1b [.lp v51_1 G1, .blk 0, .sj v51_0 c51_0]) := by unfold S51_1b; rw [T51_0 hE, hE c51_1b]; kernel_rfl
theorem T51_1 (hE : FX x51 D m E) : S51_1 D m = e51_1 (nrec (fun _ => none) (fun _ G1 st => E c51_1b [.lp v51_1 G1, .blk 0, .sj v51_0 c51_0] st) m) :=
  nrec_emb e51_1 (fun _ _ _ _ => none) (fun g => S51_1b D m g) (fun G1 st => E c51_1b [.lp v51_1 G1, .blk 0, .sj v51_0 c51_0] st) rfl (fun g => T51_1b hE g) m
theorem T51_2 (hE : FX x51 D m E) : S51_2 D m = e51_2 (E c51_e []) := by unfold S51_2; rw [T51_1 hE, hE c51_e]; kernel_rfl
theorem X51 : XTie S51 x51 := X_of fun D m E hE args h u => by unfold S51; rw [T51_2 hE]; kernel_rfl
/- 52 -/
def v52_0 : List Pos := [p0]
def c52_0 : XC := (.sO [.mv p15 q0 .s, .mv p4 q15 .s] (.s .ret))
def v52_1 : List Pos := [p0, p1]
def c52_1b : XC := (.seq (.seq (.oX [.mv p5 q0 .s, .P p6 (.lens q5) tI, .bn p7 .gtr q6 (ci 0) .b]) (.cond q7 .skip (.exit 0))) (.block 1 (.seq (.seq (.oX [.mv p8 q1 .v, .mv p9 q0 .s, .P p10 (.idxs q9 (ci 0)) tC, .cl p11 58 [q8, q10] .b, .P p12 (.un .not q11) .b]) (.cond q12 (.exit 0) .skip)) (.s (.oX [.mv p13 q0 .s, .P p14 (.slice .str q13 (some (ci 1)) none none) .s, .mv p0 q14 .s])))))
def c52_e : XC := (.sO [.mv p4 (.c (.str [])) .s] (.sj v52_0 (.block 0 (.loop v52_1 c52_1b)) c52_0))
def x52 : XFn := ⟨[.s, .v], false, [(.tmp p4)], c52_e⟩
def e52_0 (k t0 h) := kN k [(p0, (vS t0))] h
def S52_0 (D : CallD) (m : Nat) (t0 : LN) (h : HP) : Res2 :=
 some (.ret (vS t0) h, .no)
def e52_1 (k t0 t1 h) := kN k [(p0, (vS t0)), (p1, t1)] h
def S52_1b (D : CallD) (m : Nat) (g1 : LN → AV → HP → Res2) (t0 : LN) (t1 : AV) (h : HP) : Res2 :=
 let t6 := Int.ofNat (lenL t0)
 let t7 := ltQ (Int.ofNat 0) t6
 br t7 (
 ixC (vS t0) (vI (Int.ofNat 0)) fun vt10 => asI .u8 vt10 fun t10 =>
 cal D 58 [t1, (vC t10)] h fun t11 h3 =>
 asB t11 fun t11a =>
 let t12 := !t11a
 br t12 (
 S52_0 D m t0 h3) (
 slC (vS t0) (some (vI (Int.ofNat 1))) none fun vt14 => asS vt14 fun t14 =>
 g1 t14 t1 h3)) (
 S52_0 D m t0 h)
def S52_1 (D : CallD) (m : Nat) : LN → AV → HP → Res2 := nrec (fun _ _ _ => none) (fun _ g => S52_1b D m g) m
def e52_2 (k t0 t1 h) := kN k [(p0, (vS t0)), (p1, t1)] h
def S52_2 (D : CallD) (m : Nat) (t0 : LN) (t1 : AV) (h : HP) : Res2 :=
 S52_1 D m t0 t1 h
def S52 : SFn := fun D m args h u => nou u <| popS args fun t0 args => popV args fun t1 args => endA args (S52_2 D m t0 t1 h)
theorem T52_0 (hE : FX x52 D m E) : S52_0 D m = e52_0 (E c52_0 []) := by unfold S52_0; rw [hE c52_0]; kernel_rfl
theorem T52_1b (hE : FX x52 D m E) (G1) : S52_1b D m (e52_1 G1) = e52_1 (E c52_1b [.lp v52_1 G1, .blk 0, .sj v52_0 c52_0]) := by unfold S52_1b; rw [T52_0 hE, hE c52_1b]; kernel_rfl
theorem T52_1 (hE : FX x52 D m E) : S52_1 D m = e52_1 (nrec (fun _ => none) (fun _ G1 st => E c52_1b [.lp v52_1 G1, .blk 0, .sj v52_0 c52_0] st) m) :=
  nrec_emb e52_1 (fun _ _ _ => none) (fun g => S52_1b D m g) (fun G1 st => E c52_1b [.lp v52_1 G1, .blk 0, .sj v52_0 c52_0] st) rfl (fun g => T52_1b hE g) m
theorem T52_2 (hE : FX x52 D m E) : S52_2 D m = e52_2 (E c52_e []) := by unfold S52_2; rw [T52_1 hE, hE c52_e]; kernel_rfl
theorem X52 : XTie S52 x52 := X_of fun D m E hE args h u => by unfold S52; rw [T52_2 hE]; kernel_rfl
/- 54 -/
def c54_e : XC := (.sO [.mv p4 (.c (.flt .f64 0)) .v, .mv p5 (ci 0) tI, .mv p6 (.c .nili) .v] (.seq (.seq (.oX [.mv p10 q1 tI, .bn p11 .eql q10 (ci 32) .b]) (.cond q11 (.seq (.oX [.mv p13 q0 .s, .cl p14 61 [q13] .v, .mv p12 q14 .v, .P p15 (.ext q12 0) .v, .P p16 (.ext q12 1) tI, .P p17 (.ext q12 2) .v, .mv p7 q15 .v, .mv p8 q16 tI, .mv p9 q17 .v]) (.seq (.oX [.mv p18 q7 .v, .o ⟨(some p19), .bad, none, []⟩ .v, .mv p20 q8 tI, .mv p21 q9 .v, .mv p4 q19 .v, .mv p5 q20 tI, .mv p6 q21 .v]) .ret)) .skip)) (.sO [.mv p22 q0 .s, .cl p23 62 [q22] .v, .P p24 (.ext q23 0) .v, .P p25 (.ext q23 1) tI, .P p26 (.ext q23 2) .v, .mv p4 q24 .v, .mv p5 q25 tI, .mv p6 q26 .v] (.s .ret))))
def x54 : XFn := ⟨[.s, tI], false, [(.tmp p4), (.tmp p5), (.tmp p6)], c54_e⟩
def e54_0 (k t0 t1 h) := kN k [(p0, (vS t0)), (p1, (vI t1))] h
def S54_0 (D : CallD) (m : Nat) (t0 : LN) (t1 : Int) (h : HP) : Res2 :=
 let t11 := eqQ t1 (Int.ofNat 32)
 br t11 (
 cal D 61 [(vS t0)] h fun t14 h1 =>
 extC t14 0 fun t15 =>
 extC t14 1 fun vt16 => asI .i64 vt16 fun t16 =>
 extC t14 2 fun t17 =>
 none) (
 cal D 62 [(vS t0)] h fun t23 h2 =>
 extC t23 0 fun t24 =>
 extC t23 1 fun vt25 => asI .i64 vt25 fun t25 =>
 extC t23 2 fun t26 =>
 some (.ret (.tup [t24, (vI t25), t26]) h2, .no))
def S54 : SFn := fun D m args h u => nou u <| popS args fun t0 args => popI .i64 args fun t1 args => endA args (S54_0 D m t0 t1 h)
theorem T54_0 (hE : FX x54 D m E) : S54_0 D m = e54_0 (E c54_e []) := by unfold S54_0; rw [hE c54_e]; kernel_rfl
theorem X54 : XTie S54 x54 := X_of fun D m E hE args h u => by unfold S54; rw [T54_0 hE]; kernel_rfl
/- 58 -/
def c58_e : XC := (.sO [.mv p4 (cb false) .b] (.sO [.mv p5 q0 .v, .mv p6 q1 tC, .P p7 (.nilck q5) .v, .P p8 (.iaddr (.arr 256 1) q7 q6) .v, .ld p9 q8 .b, .mv p4 q9 .b] (.s .ret)))
def x58 : XFn := ⟨[.v, tC], false, [(.tmp p4)], c58_e⟩
def e58_0 (k t0 t1 h) := kN k [(p0, t0), (p1, (vC t1))] h
def S58_0 (D : CallD) (m : Nat) (t0 : AV) (t1 : Int) (h : HP) : Res2 :=
 nilckC t0 fun t7 =>
 iarC 256 1 t7 (vC t1) fun t8 =>
 ldB t8 h fun t9 =>
 some (.ret (vB t9) h, .no)
def S58 : SFn := fun D m args h u => nou u <| popV args fun t0 args => popI .u8 args fun t1 args => endA args (S58_0 D m t0 t1 h)
theorem T58_0 (hE : FX x58 D m E) : S58_0 D m = e58_0 (E c58_e []) := by unfold S58_0; rw [hE c58_e]; kernel_rfl
theorem X58 : XTie S58 x58 := X_of fun D m E hE args h u => by unfold S58; rw [T58_0 hE]; kernel_rfl
/- 62 -/
def v62_1 : List Pos := [p2, p3, p4]
def c62_1 : XC := (.sO [.mv p140 q2 .v, .mv p141 q3 tI, .mv p142 q4 .v, .mv p2 q140 .v, .mv p3 q141 tI, .mv p4 q142 .v] (.s .ret))
def v62_0 : List Pos := [p0, p3, p4]
def c62_0 : XC := (.sO [.al p23 (.new [(.int .u8 (.ofNat 0)), (.int .u8 (.ofNat 0)), (.int .u8 (.ofNat 0)), (.int .u8 (.ofNat 0)), (.int .u8 (.ofNat 0)), (.int .u8 (.ofNat 0)), (.int .u8 (.ofNat 0)), (.int .u8 (.ofNat 0)), (.int .u8 (.ofNat 0)), (.int .u8 (.ofNat 0)), (.int .u8 (.ofNat 0)), (.int .u8 (.ofNat 0)), (.int .u8 (.ofNat 0)), (.int .u8 (.ofNat 0)), (.int .u8 (.ofNat 0)), (.int .u8 (.ofNat 0)), (.int .u8 (.ofNat 0)), (.int .u8 (.ofNat 0)), (.int .u8 (.ofNat 0)), (.int .u8 (.ofNat 0)), (.int .u8 (.ofNat 0)), (.int .u8 (.ofNat 0)), (.int .u8 (.ofNat 0)), (.int .u8 (.ofNat 0)), (.int .u8 (.ofNat 0)), (.int .u8 (.ofNat 0)), (.int .u8 (.ofNat 0)), (.int .u8 (.ofNat 0)), (.int .u8 (.ofNat 0)), (.int .u8 (.ofNat 0)), (.int .u8 (.ofNat 0)), (.int .u8 (.ofNat 0)), (.int .u8 (.ofNat 0)), (.int .u8 (.ofNat 0)), (.int .u8 (.ofNat 0)), (.int .u8 (.ofNat 0)), (.int .u8 (.ofNat 0)), (.int .u8 (.ofNat 0)), (.int .u8 (.ofNat 0)), (.int .u8 (.ofNat 0)), (.int .u8 (.ofNat 0)), (.int .u8 (.ofNat 0)), (.int .u8 (.ofNat 0)), (.int .u8 (.ofNat 0)), (.int .u8 (.ofNat 0)), (.int .u8 (.ofNat 0)), (.int .u8 (.ofNat 0)), (.int .u8 (.ofNat 0)), (.int .u8 (.ofNat 0)), (.int .u8 (.ofNat 0)), (.int .u8 (.ofNat 0)), (.int .u8 (.ofNat 0)), (.int .u8 (.ofNat 0)), (.int .u8 (.ofNat 0)), (.int .u8 (.ofNat 0)), (.int .u8 (.ofNat 0)), (.int .u8 (.ofNat 0)), (.int .u8 (.ofNat 0)), (.int .u8 (.ofNat 0)), (.int .u8 (.ofNat 0)), (.int .u8 (.ofNat 0)), (.int .u8 (.ofNat 0)), (.int .u8 (.ofNat 0)), (.int .u8 (.ofNat 0)), (.int .u8 (.ofNat 0)), (.int .u8 (.ofNat 0)), (.int .u8 (.ofNat 0)), (.int .u8 (.ofNat 0)), (.int .u8 (.ofNat 0)), (.int .u8 (.ofNat 0)), (.int .u8 (.ofNat 0)), (.int .u8 (.ofNat 0)), (.int .u8 (.ofNat 0)), (.int .u8 (.ofNat 0)), (.int .u8 (.ofNat 0)), (.int .u8 (.ofNat 0)), (.int .u8 (.ofNat 0)), (.int .u8 (.ofNat 0)), (.int .u8 (.ofNat 0)), (.int .u8 (.ofNat 0)), (.int .u8 (.ofNat 0)), (.int .u8 (.ofNat 0)), (.int .u8 (.ofNat 0)), (.int .u8 (.ofNat 0)), (.int .u8 (.ofNat 0)), (.int .u8 (.ofNat 0)), (.int .u8 (.ofNat 0)), (.int .u8 (.ofNat 0)), (.int .u8 (.ofNat 0)), (.int .u8 (.ofNat 0)), (.int .u8 (.ofNat 0)), (.int .u8 (.ofNat 0)), (.int .u8 (.ofNat 0)), (.int .u8 (.ofNat 0)), (.int .u8 (.ofNat 0)), (.int .u8 (.ofNat 0)), (.int .u8 (.ofNat 0)), (.int .u8 (.ofNat 0)), (.int .u8 (.ofNat 0)), (.int .u8 (.ofNat 0)), (.int .u8 (.ofNat 0)), (.int .u8 (.ofNat 0)), (.int .u8 (.ofNat 0)), (.int .u8 (.ofNat 0)), (.int .u8 (.ofNat 0)), (.int .u8 (.ofNat 0)), (.int .u8 (.ofNat 0)), (.int .u8 (.ofNat 0)), (.int .u8 (.ofNat 0)), (.int .u8 (.ofNat 0)), (.int .u8 (.ofNat 0)), (.int .u8 (.ofNat 0)), (.int .u8 (.ofNat 0)), (.int .u8 (.ofNat 0)), (.int .u8 (.ofNat 0)), (.int .u8 (.ofNat 0)), (.int .u8 (.ofNat 0)), (.int .u8 (.ofNat 0)), (.int .u8 (.ofNat 0)), (.int .u8 (.ofNat 0)), (.int .u8 (.ofNat 0)), (.int .u8 (.ofNat 0)), (.int .u8 (.ofNat 0)), (.int .u8 (.ofNat 0)), (.int .u8 (.ofNat 0)), (.int .u8 (.ofNat 0)), (.int .u8 (.ofNat 0)), (.int .u8 (.ofNat 0)), (.int .u8 (.ofNat 0)), (.int .u8 (.ofNat 0)), (.int .u8 (.ofNat 0)), (.int .u8 (.ofNat 0)), (.int .u8 (.ofNat 0)), (.int .u8 (.ofNat 0)), (.int .u8 (.ofNat 0)), (.int .u8 (.ofNat 0)), (.int .u8 (.ofNat 0)), (.int .u8 (.ofNat 0)), (.int .u8 (.ofNat 0)), (.int .u8 (.ofNat 0)), (.int .u8 (.ofNat 0)), (.int .u8 (.ofNat 0)), (.int .u8 (.ofNat 0)), (.int .u8 (.ofNat 0)), (.int .u8 (.ofNat 0)), (.int .u8 (.ofNat 0)), (.int .u8 (.ofNat 0)), (.int .u8 (.ofNat 0)), (.int .u8 (.ofNat 0)), (.int .u8 (.ofNat 0)), (.int .u8 (.ofNat 0)), (.int .u8 (.ofNat 0)), (.int .u8 (.ofNat 0)), (.int .u8 (.ofNat 0)), (.int .u8 (.ofNat 0)), (.int .u8 (.ofNat 0)), (.int .u8 (.ofNat 0)), (.int .u8 (.ofNat 0)), (.int .u8 (.ofNat 0)), (.int .u8 (.ofNat 0)), (.int .u8 (.ofNat 0)), (.int .u8 (.ofNat 0)), (.int .u8 (.ofNat 0)), (.int .u8 (.ofNat 0)), (.int .u8 (.ofNat 0)), (.int .u8 (.ofNat 0)), (.int .u8 (.ofNat 0)), (.int .u8 (.ofNat 0)), (.int .u8 (.ofNat 0)), (.int .u8 (.ofNat 0)), (.int .u8 (.ofNat 0)), (.int .u8 (.ofNat 0)), (.int .u8 (.ofNat 0)), (.int .u8 (.ofNat 0)), (.int .u8 (.ofNat 0)), (.int .u8 (.ofNat 0)), (.int .u8 (.ofNat 0)), (.int .u8 (.ofNat 0)), (.int .u8 (.ofNat 0)), (.int .u8 (.ofNat 0)), (.int .u8 (.ofNat 0)), (.int .u8 (.ofNat 0)), (.int .u8 (.ofNat 0)), (.int .u8 (.ofNat 0)), (.int .u8 (.ofNat 0)), (.int .u8 (.ofNat 0)), (.int .u8 (.ofNat 0)), (.int .u8 (.ofNat 0)), (.int .u8 (.ofNat 0)), (.int .u8 (.ofNat 0)), (.int .u8 (.ofNat 0)), (.int .u8 (.ofNat 0)), (.int .u8 (.ofNat 0)), (.int .u8 (.ofNat 0)), (.int .u8 (.ofNat 0)), (.int .u8 (.ofNat 0)), (.int .u8 (.ofNat 0)), (.int .u8 (.ofNat 0)), (.int .u8 (.ofNat 0)), (.int .u8 (.ofNat 0)), (.int .u8 (.ofNat 0)), (.int .u8 (.ofNat 0)), (.int .u8 (.ofNat 0)), (.int .u8 (.ofNat 0)), (.int .u8 (.ofNat 0)), (.int .u8 (.ofNat 0)), (.int .u8 (.ofNat 0)), (.int .u8 (.ofNat 0)), (.int .u8 (.ofNat 0)), (.int .u8 (.ofNat 0)), (.int .u8 (.ofNat 0)), (.int .u8 (.ofNat 0)), (.int .u8 (.ofNat 0)), (.int .u8 (.ofNat 0)), (.int .u8 (.ofNat 0)), (.int .u8 (.ofNat 0)), (.int .u8 (.ofNat 0)), (.int .u8 (.ofNat 0)), (.int .u8 (.ofNat 0)), (.int .u8 (.ofNat 0)), (.int .u8 (.ofNat 0)), (.int .u8 (.ofNat 0)), (.int .u8 (.ofNat 0)), (.int .u8 (.ofNat 0)), (.int .u8 (.ofNat 0)), (.int .u8 (.ofNat 0)), (.int .u8 (.ofNat 0)), (.int .u8 (.ofNat 0)), (.int .u8 (.ofNat 0)), (.int .u8 (.ofNat 0)), (.int .u8 (.ofNat 0)), (.int .u8 (.ofNat 0)), (.int .u8 (.ofNat 0)), (.int .u8 (.ofNat 0)), (.int .u8 (.ofNat 0)), (.int .u8 (.ofNat 0)), (.int .u8 (.ofNat 0)), (.int .u8 (.ofNat 0)), (.int .u8 (.ofNat 0)), (.int .u8 (.ofNat 0)), (.int .u8 (.ofNat 0)), (.int .u8 (.ofNat 0)), (.int .u8 (.ofNat 0)), (.int .u8 (.ofNat 0)), (.int .u8 (.ofNat 0)), (.int .u8 (.ofNat 0)), (.int .u8 (.ofNat 0)), (.int .u8 (.ofNat 0)), (.int .u8 (.ofNat 0)), (.int .u8 (.ofNat 0)), (.int .u8 (.ofNat 0)), (.int .u8 (.ofNat 0)), (.int .u8 (.ofNat 0)), (.int .u8 (.ofNat 0)), (.int .u8 (.ofNat 0)), (.int .u8 (.ofNat 0)), (.int .u8 (.ofNat 0)), (.int .u8 (.ofNat 0)), (.int .u8 (.ofNat 0)), (.int .u8 (.ofNat 0)), (.int .u8 (.ofNat 0)), (.int .u8 (.ofNat 0)), (.int .u8 (.ofNat 0)), (.int .u8 (.ofNat 0)), (.int .u8 (.ofNat 0)), (.int .u8 (.ofNat 0)), (.int .u8 (.ofNat 0)), (.int .u8 (.ofNat 0)), (.int .u8 (.ofNat 0)), (.int .u8 (.ofNat 0)), (.int .u8 (.ofNat 0)), (.int .u8 (.ofNat 0)), (.int .u8 (.ofNat 0)), (.int .u8 (.ofNat 0)), (.int .u8 (.ofNat 0)), (.int .u8 (.ofNat 0)), (.int .u8 (.ofNat 0)), (.int .u8 (.ofNat 0)), (.int .u8 (.ofNat 0)), (.int .u8 (.ofNat 0)), (.int .u8 (.ofNat 0)), (.int .u8 (.ofNat 0)), (.int .u8 (.ofNat 0)), (.int .u8 (.ofNat 0)), (.int .u8 (.ofNat 0)), (.int .u8 (.ofNat 0)), (.int .u8 (.ofNat 0)), (.int .u8 (.ofNat 0)), (.int .u8 (.ofNat 0)), (.int .u8 (.ofNat 0)), (.int .u8 (.ofNat 0)), (.int .u8 (.ofNat 0)), (.int .u8 (.ofNat 0)), (.int .u8 (.ofNat 0)), (.int .u8 (.ofNat 0)), (.int .u8 (.ofNat 0)), (.int .u8 (.ofNat 0)), (.int .u8 (.ofNat 0)), (.int .u8 (.ofNat 0)), (.int .u8 (.ofNat 0)), (.int .u8 (.ofNat 0)), (.int .u8 (.ofNat 0)), (.int .u8 (.ofNat 0)), (.int .u8 (.ofNat 0)), (.int .u8 (.ofNat 0)), (.int .u8 (.ofNat 0)), (.int .u8 (.ofNat 0)), (.int .u8 (.ofNat 0)), (.int .u8 (.ofNat 0)), (.int .u8 (.ofNat 0)), (.int .u8 (.ofNat 0)), (.int .u8 (.ofNat 0)), (.int .u8 (.ofNat 0)), (.int .u8 (.ofNat 0)), (.int .u8 (.ofNat 0)), (.int .u8 (.ofNat 0)), (.int .u8 (.ofNat 0)), (.int .u8 (.ofNat 0)), (.int .u8 (.ofNat 0)), (.int .u8 (.ofNat 0)), (.int .u8 (.ofNat 0)), (.int .u8 (.ofNat 0)), (.int .u8 (.ofNat 0)), (.int .u8 (.ofNat 0)), (.int .u8 (.ofNat 0)), (.int .u8 (.ofNat 0)), (.int .u8 (.ofNat 0)), (.int .u8 (.ofNat 0)), (.int .u8 (.ofNat 0)), (.int .u8 (.ofNat 0)), (.int .u8 (.ofNat 0)), (.int .u8 (.ofNat 0)), (.int .u8 (.ofNat 0)), (.int .u8 (.ofNat 0)), (.int .u8 (.ofNat 0)), (.int .u8 (.ofNat 0)), (.int .u8 (.ofNat 0)), (.int .u8 (.ofNat 0)), (.int .u8 (.ofNat 0)), (.int .u8 (.ofNat 0)), (.int .u8 (.ofNat 0)), (.int .u8 (.ofNat 0)), (.int .u8 (.ofNat 0)), (.int .u8 (.ofNat 0)), (.int .u8 (.ofNat 0)), (.int .u8 (.ofNat 0)), (.int .u8 (.ofNat 0)), (.int .u8 (.ofNat 0)), (.int .u8 (.ofNat 0)), (.int .u8 (.ofNat 0)), (.int .u8 (.ofNat 0)), (.int .u8 (.ofNat 0)), (.int .u8 (.ofNat 0)), (.int .u8 (.ofNat 0)), (.int .u8 (.ofNat 0)), (.int .u8 (.ofNat 0)), (.int .u8 (.ofNat 0)), (.int .u8 (.ofNat 0)), (.int .u8 (.ofNat 0)), (.int .u8 (.ofNat 0)), (.int .u8 (.ofNat 0)), (.int .u8 (.ofNat 0)), (.int .u8 (.ofNat 0)), (.int .u8 (.ofNat 0)), (.int .u8 (.ofNat 0)), (.int .u8 (.ofNat 0)), (.int .u8 (.ofNat 0)), (.int .u8 (.ofNat 0)), (.int .u8 (.ofNat 0)), (.int .u8 (.ofNat 0)), (.int .u8 (.ofNat 0)), (.int .u8 (.ofNat 0)), (.int .u8 (.ofNat 0)), (.int .u8 (.ofNat 0)), (.int .u8 (.ofNat 0)), (.int .u8 (.ofNat 0)), (.int .u8 (.ofNat 0)), (.int .u8 (.ofNat 0)), (.int .u8 (.ofNat 0)), (.int .u8 (.ofNat 0)), (.int .u8 (.ofNat 0)), (.int .u8 (.ofNat 0)), (.int .u8 (.ofNat 0)), (.int .u8 (.ofNat 0)), (.int .u8 (.ofNat 0)), (.int .u8 (.ofNat 0)), (.int .u8 (.ofNat 0)), (.int .u8 (.ofNat 0)), (.int .u8 (.ofNat 0)), (.int .u8 (.ofNat 0)), (.int .u8 (.ofNat 0)), (.int .u8 (.ofNat 0)), (.int .u8 (.ofNat 0)), (.int .u8 (.ofNat 0)), (.int .u8 (.ofNat 0)), (.int .u8 (.ofNat 0)), (.int .u8 (.ofNat 0)), (.int .u8 (.ofNat 0)), (.int .u8 (.ofNat 0)), (.int .u8 (.ofNat 0)), (.int .u8 (.ofNat 0)), (.int .u8 (.ofNat 0)), (.int .u8 (.ofNat 0)), (.int .u8 (.ofNat 0)), (.int .u8 (.ofNat 0)), (.int .u8 (.ofNat 0)), (.int .u8 (.ofNat 0)), (.int .u8 (.ofNat 0)), (.int .u8 (.ofNat 0)), (.int .u8 (.ofNat 0)), (.int .u8 (.ofNat 0)), (.int .u8 (.ofNat 0)), (.int .u8 (.ofNat 0)), (.int .u8 (.ofNat 0)), (.int .u8 (.ofNat 0)), (.int .u8 (.ofNat 0)), (.int .u8 (.ofNat 0)), (.int .u8 (.ofNat 0)), (.int .u8 (.ofNat 0)), (.int .u8 (.ofNat 0)), (.int .u8 (.ofNat 0)), (.int .u8 (.ofNat 0)), (.int .u8 (.ofNat 0)), (.int .u8 (.ofNat 0)), (.int .u8 (.ofNat 0)), (.int .u8 (.ofNat 0)), (.int .u8 (.ofNat 0)), (.int .u8 (.ofNat 0)), (.int .u8 (.ofNat 0)), (.int .u8 (.ofNat 0)), (.int .u8 (.ofNat 0)), (.int .u8 (.ofNat 0)), (.int .u8 (.ofNat 0)), (.int .u8 (.ofNat 0)), (.int .u8 (.ofNat 0)), (.int .u8 (.ofNat 0)), (.int .u8 (.ofNat 0)), (.int .u8 (.ofNat 0)), (.int .u8 (.ofNat 0)), (.int .u8 (.ofNat 0)), (.int .u8 (.ofNat 0)), (.int .u8 (.ofNat 0)), (.int .u8 (.ofNat 0)), (.int .u8 (.ofNat 0)), (.int .u8 (.ofNat 0)), (.int .u8 (.ofNat 0)), (.int .u8 (.ofNat 0)), (.int .u8 (.ofNat 0)), (.int .u8 (.ofNat 0)), (.int .u8 (.ofNat 0)), (.int .u8 (.ofNat 0)), (.int .u8 (.ofNat 0)), (.int .u8 (.ofNat 0)), (.int .u8 (.ofNat 0)), (.int .u8 (.ofNat 0)), (.int .u8 (.ofNat 0)), (.int .u8 (.ofNat 0)), (.int .u8 (.ofNat 0)), (.int .u8 (.ofNat 0)), (.int .u8 (.ofNat 0)), (.int .u8 (.ofNat 0)), (.int .u8 (.ofNat 0)), (.int .u8 (.ofNat 0)), (.int .u8 (.ofNat 0)), (.int .u8 (.ofNat 0)), (.int .u8 (.ofNat 0)), (.int .u8 (.ofNat 0)), (.int .u8 (.ofNat 0)), (.int .u8 (.ofNat 0)), (.int .u8 (.ofNat 0)), (.int .u8 (.ofNat 0)), (.int .u8 (.ofNat 0)), (.int .u8 (.ofNat 0)), (.int .u8 (.ofNat 0)), (.int .u8 (.ofNat 0)), (.int .u8 (.ofNat 0)), (.int .u8 (.ofNat 0)), (.int .u8 (.ofNat 0)), (.int .u8 (.ofNat 0)), (.int .u8 (.ofNat 0)), (.int .u8 (.ofNat 0)), (.int .u8 (.ofNat 0)), (.int .u8 (.ofNat 0)), (.int .u8 (.ofNat 0)), (.int .u8 (.ofNat 0)), (.int .u8 (.ofNat 0)), (.int .u8 (.ofNat 0)), (.int .u8 (.ofNat 0)), (.int .u8 (.ofNat 0)), (.int .u8 (.ofNat 0)), (.int .u8 (.ofNat 0)), (.int .u8 (.ofNat 0)), (.int .u8 (.ofNat 0)), (.int .u8 (.ofNat 0)), (.int .u8 (.ofNat 0)), (.int .u8 (.ofNat 0)), (.int .u8 (.ofNat 0)), (.int .u8 (.ofNat 0)), (.int .u8 (.ofNat 0)), (.int .u8 (.ofNat 0)), (.int .u8 (.ofNat 0)), (.int .u8 (.ofNat 0)), (.int .u8 (.ofNat 0)), (.int .u8 (.ofNat 0)), (.int .u8 (.ofNat 0)), (.int .u8 (.ofNat 0)), (.int .u8 (.ofNat 0)), (.int .u8 (.ofNat 0)), (.int .u8 (.ofNat 0)), (.int .u8 (.ofNat 0)), (.int .u8 (.ofNat 0)), (.int .u8 (.ofNat 0)), (.int .u8 (.ofNat 0)), (.int .u8 (.ofNat 0)), (.int .u8 (.ofNat 0)), (.int .u8 (.ofNat 0)), (.int .u8 (.ofNat 0)), (.int .u8 (.ofNat 0)), (.int .u8 (.ofNat 0)), (.int .u8 (.ofNat 0)), (.int .u8 (.ofNat 0)), (.int .u8 (.ofNat 0)), (.int .u8 (.ofNat 0)), (.int .u8 (.ofNat 0)), (.int .u8 (.ofNat 0)), (.int .u8 (.ofNat 0)), (.int .u8 (.ofNat 0)), (.int .u8 (.ofNat 0)), (.int .u8 (.ofNat 0)), (.int .u8 (.ofNat 0)), (.int .u8 (.ofNat 0)), (.int .u8 (.ofNat 0)), (.int .u8 (.ofNat 0)), (.int .u8 (.ofNat 0)), (.int .u8 (.ofNat 0)), (.int .u8 (.ofNat 0)), (.int .u8 (.ofNat 0)), (.int .u8 (.ofNat 0)), (.int .u8 (.ofNat 0)), (.int .u8 (.ofNat 0)), (.int .u8 (.ofNat 0)), (.int .u8 (.ofNat 0)), (.int .u8 (.ofNat 0)), (.int .u8 (.ofNat 0)), (.int .u8 (.ofNat 0)), (.int .u8 (.ofNat 0)), (.int .u8 (.ofNat 0)), (.int .u8 (.ofNat 0)), (.int .u8 (.ofNat 0)), (.int .u8 (.ofNat 0)), (.int .u8 (.ofNat 0)), (.int .u8 (.ofNat 0)), (.int .u8 (.ofNat 0)), (.int .u8 (.ofNat 0)), (.int .u8 (.ofNat 0)), (.int .u8 (.ofNat 0)), (.int .u8 (.ofNat 0)), (.int .u8 (.ofNat 0)), (.int .u8 (.ofNat 0)), (.int .u8 (.ofNat 0)), (.int .u8 (.ofNat 0)), (.int .u8 (.ofNat 0)), (.int .u8 (.ofNat 0)), (.int .u8 (.ofNat 0)), (.int .u8 (.ofNat 0)), (.int .u8 (.ofNat 0)), (.int .u8 (.ofNat 0)), (.int .u8 (.ofNat 0)), (.int .u8 (.ofNat 0)), (.int .u8 (.ofNat 0)), (.int .u8 (.ofNat 0)), (.int .u8 (.ofNat 0)), (.int .u8 (.ofNat 0)), (.int .u8 (.ofNat 0)), (.int .u8 (.ofNat 0)), (.int .u8 (.ofNat 0)), (.int .u8 (.ofNat 0)), (.int .u8 (.ofNat 0)), (.int .u8 (.ofNat 0)), (.int .u8 (.ofNat 0)), (.int .u8 (.ofNat 0)), (.int .u8 (.ofNat 0)), (.int .u8 (.ofNat 0)), (.int .u8 (.ofNat 0)), (.int .u8 (.ofNat 0)), (.int .u8 (.ofNat 0)), (.int .u8 (.ofNat 0)), (.int .u8 (.ofNat 0)), (.int .u8 (.ofNat 0)), (.int .u8 (.ofNat 0)), (.int .u8 (.ofNat 0)), (.int .u8 (.ofNat 0)), (.int .u8 (.ofNat 0)), (.int .u8 (.ofNat 0)), (.int .u8 (.ofNat 0)), (.int .u8 (.ofNat 0)), (.int .u8 (.ofNat 0)), (.int .u8 (.ofNat 0)), (.int .u8 (.ofNat 0)), (.int .u8 (.ofNat 0)), (.int .u8 (.ofNat 0)), (.int .u8 (.ofNat 0)), (.int .u8 (.ofNat 0)), (.int .u8 (.ofNat 0)), (.int .u8 (.ofNat 0)), (.int .u8 (.ofNat 0)), (.int .u8 (.ofNat 0)), (.int .u8 (.ofNat 0)), (.int .u8 (.ofNat 0)), (.int .u8 (.ofNat 0)), (.int .u8 (.ofNat 0)), (.int .u8 (.ofNat 0)), (.int .u8 (.ofNat 0)), (.int .u8 (.ofNat 0)), (.int .u8 (.ofNat 0)), (.int .u8 (.ofNat 0)), (.int .u8 (.ofNat 0)), (.int .u8 (.ofNat 0)), (.int .u8 (.ofNat 0)), (.int .u8 (.ofNat 0)), (.int .u8 (.ofNat 0)), (.int .u8 (.ofNat 0)), (.int .u8 (.ofNat 0)), (.int .u8 (.ofNat 0)), (.int .u8 (.ofNat 0)), (.int .u8 (.ofNat 0)), (.int .u8 (.ofNat 0)), (.int .u8 (.ofNat 0)), (.int .u8 (.ofNat 0)), (.int .u8 (.ofNat 0)), (.int .u8 (.ofNat 0)), (.int .u8 (.ofNat 0)), (.int .u8 (.ofNat 0)), (.int .u8 (.ofNat 0)), (.int .u8 (.ofNat 0)), (.int .u8 (.ofNat 0)), (.int .u8 (.ofNat 0)), (.int .u8 (.ofNat 0)), (.int .u8 (.ofNat 0)), (.int .u8 (.ofNat 0)), (.int .u8 (.ofNat 0)), (.int .u8 (.ofNat 0)), (.int .u8 (.ofNat 0)), (.int .u8 (.ofNat 0)), (.int .u8 (.ofNat 0)), (.int .u8 (.ofNat 0)), (.int .u8 (.ofNat 0)), (.int .u8 (.ofNat 0)), (.int .u8 (.ofNat 0)), (.int .u8 (.ofNat 0)), (.int .u8 (.ofNat 0)), (.int .u8 (.ofNat 0)), (.int .u8 (.ofNat 0)), (.int .u8 (.ofNat 0)), (.int .u8 (.ofNat 0)), (.int .u8 (.ofNat 0)), (.int .u8 (.ofNat 0)), (.int .u8 (.ofNat 0)), (.int .u8 (.ofNat 0)), (.int .u8 (.ofNat 0)), (.int .u8 (.ofNat 0)), (.int .u8 (.ofNat 0)), (.int .u8 (.ofNat 0)), (.int .u8 (.ofNat 0)), (.int .u8 (.ofNat 0)), (.int .u8 (.ofNat 0)), (.int .u8 (.ofNat 0)), (.int .u8 (.ofNat 0)), (.int .u8 (.ofNat 0)), (.int .u8 (.ofNat 0)), (.int .u8 (.ofNat 0)), (.int .u8 (.ofNat 0)), (.int .u8 (.ofNat 0)), (.int .u8 (.ofNat 0)), (.int .u8 (.ofNat 0)), (.int .u8 (.ofNat 0)), (.int .u8 (.ofNat 0)), (.int .u8 (.ofNat 0)), (.int .u8 (.ofNat 0)), (.int .u8 (.ofNat 0)), (.int .u8 (.ofNat 0)), (.int .u8 (.ofNat 0)), (.int .u8 (.ofNat 0)), (.int .u8 (.ofNat 0)), (.int .u8 (.ofNat 0)), (.int .u8 (.ofNat 0)), (.int .u8 (.ofNat 0)), (.int .u8 (.ofNat 0)), (.int .u8 (.ofNat 0)), (.int .u8 (.ofNat 0)), (.int .u8 (.ofNat 0)), (.int .u8 (.ofNat 0)), (.int .u8 (.ofNat 0)), (.int .u8 (.ofNat 0)), (.int .u8 (.ofNat 0)), (.int .u8 (.ofNat 0)), (.int .u8 (.ofNat 0)), (.int .u8 (.ofNat 0)), (.int .u8 (.ofNat 0)), (.int .u8 (.ofNat 0)), (.int .u8 (.ofNat 0)), (.int .u8 (.ofNat 0)), (.int .u8 (.ofNat 0)), (.int .u8 (.ofNat 0)), (.int .u8 (.ofNat 0)), (.int .u8 (.ofNat 0)), (.int .u8 (.ofNat 0)), (.int .u8 (.ofNat 0)), (.int .u8 (.ofNat 0)), (.int .u8 (.ofNat 0)), (.int .u8 (.ofNat 0)), (.int .u8 (.ofNat 0)), (.int .u8 (.ofNat 0)), (.int .u8 (.ofNat 0)), (.int .u8 (.ofNat 0)), (.int .u8 (.ofNat 0)), (.int .u8 (.ofNat 0)), (.int .u8 (.ofNat 0)), (.int .u8 (.ofNat 0)), (.int .u8 (.ofNat 0)), (.int .u8 (.ofNat 0)), (.int .u8 (.ofNat 0)), (.int .u8 (.ofNat 0)), (.int .u8 (.ofNat 0)), (.int .u8 (.ofNat 0)), (.int .u8 (.ofNat 0)), (.int .u8 (.ofNat 0)), (.int .u8 (.ofNat 0)), (.int .u8 (.ofNat 0)), (.int .u8 (.ofNat 0)), (.int .u8 (.ofNat 0)), (.int .u8 (.ofNat 0)), (.int .u8 (.ofNat 0)), (.int .u8 (.ofNat 0)), (.int .u8 (.ofNat 0)), (.int .u8 (.ofNat 0)), (.int .u8 (.ofNat 0)), (.int .u8 (.ofNat 0)), (.int .u8 (.ofNat 0)), (.int .u8 (.ofNat 0)), (.int .u8 (.ofNat 0)), (.int .u8 (.ofNat 0)), (.int .u8 (.ofNat 0)), (.int .u8 (.ofNat 0)), (.int .u8 (.ofNat 0)), (.int .u8 (.ofNat 0)), (.int .u8 (.ofNat 0)), (.int .u8 (.ofNat 0)), (.int .u8 (.ofNat 0)), (.int .u8 (.ofNat 0)), (.int .u8 (.ofNat 0)), (.int .u8 (.ofNat 0)), (.int .u8 (.ofNat 0)), (.int .u8 (.ofNat 0)), (.int .u8 (.ofNat 0)), (.int .u8 (.ofNat 0)), (.int .u8 (.ofNat 0)), (.int .u8 (.ofNat 0)), (.int .u8 (.ofNat 0)), (.int .u8 (.ofNat 0)), (.int .u8 (.ofNat 0)), (.int .u8 (.ofNat 0)), (.int .u8 (.ofNat 0)), (.int .u8 (.ofNat 0)), (.int .u8 (.ofNat 0)), (.int .u8 (.ofNat 0)), (.int .u8 (.ofNat 0)), (.int .u8 (.ofNat 0)), (.int .u8 (.ofNat 0)), (.int .u8 (.ofNat 0)), (.int .u8 (.ofNat 0)), (.int .u8 (.ofNat 0)), (.int .u8 (.ofNat 0)), (.int .u8 (.ofNat 0)), (.int .u8 (.ofNat 0)), (.int .u8 (.ofNat 0)), (.int .u8 (.ofNat 0)), (.int .u8 (.ofNat 0)), (.int .u8 (.ofNat 0)), (.int .u8 (.ofNat 0)), (.int .u8 (.ofNat 0)), (.int .u8 (.ofNat 0)), (.int .u8 (.ofNat 0)), (.int .u8 (.ofNat 0)), (.int .u8 (.ofNat 0)), (.int .u8 (.ofNat 0)), (.int .u8 (.ofNat 0)), (.int .u8 (.ofNat 0)), (.int .u8 (.ofNat 0)), (.int .u8 (.ofNat 0)), (.int .u8 (.ofNat 0)), (.int .u8 (.ofNat 0)), (.int .u8 (.ofNat 0)), (.int .u8 (.ofNat 0)), (.int .u8 (.ofNat 0)), (.int .u8 (.ofNat 0)), (.int .u8 (.ofNat 0)), (.int .u8 (.ofNat 0)), (.int .u8 (.ofNat 0)), (.int .u8 (.ofNat 0)), (kI 0), (kI 0), (.bool false), (.bool false)])] (.seq (.seq (.oX [.mv p125 q0 .s, .mv p126 q3 tI, .P p127 (.slice .str q125 none (some q126) none) .s, .cl p128 73 [q23, q127] .b, .P p129 (.un .not q128) .b]) (.cond q129 (.seq (.oX [.mv p130 q3 tI, .P p131 (.mkif 69 (ci 2)) .v, .mv p2 (.c (.flt .f64 0)) .v, .mv p3 q130 tI, .mv p4 q131 .v]) .ret) .skip)) (.sO [.cl p133 74 [q23, (.c (.ptr p6 0))] .v, .mv p132 q133 .v, .P p134 (.ext q132 0) (.i .u64), .P p135 (.ext q132 1) .b, .mv p24 q134 (.i .u64), .mv p25 q135 .b] (.sO [.mv p136 q24 (.i .u64), .P p137 (.xt .ffrom [q136]) .v, .mv p2 q137 .v] (.sj v62_1 (.sO [.mv p138 q25 .b] (.cond q138 (.s (.oX [.P p139 (.mkif 69 (ci 1)) .v, .mv p4 q139 .v])) (.s .skip))) c62_1)))))
def v62_2 : List Pos := [p0, p3, p4, p8, p9, p11, p16]
def c62_2 : XC := (.sO [.mv p100 q8 (.i .u64), .mv p101 q9 tI, .mv p102 q16 (.i .u64), .cl p103 78 [q100, q101, q102] .v, .mv p99 q103 .v, .P p104 (.ext q99 0) .v, .P p105 (.ext q99 1) .v, .mv p19 q104 .v, .mv p20 q105 .v] (.seq (.seq (.oX [.mv p106 q11 .b, .P p107 (.un .not q106) .b]) (.cond q107 (.seq (.oX [.mv p108 q19 .v, .mv p109 q3 tI, .mv p110 q20 .v, .mv p2 q108 .v, .mv p3 q109 tI, .mv p4 q110 .v]) .ret) .skip)) (.sO [.mv p112 q8 (.i .u64), .bn p113 .add q112 (.c (.int .u64 (.ofNat 1))) (.i .u64), .mv p114 q9 tI, .mv p115 q16 (.i .u64), .cl p116 78 [q113, q114, q115] .v, .mv p111 q116 .v, .P p117 (.ext q111 0) .v, .P p118 (.ext q111 1) .v, .mv p21 q117 .v, .mv p22 q118 .v] (.sO [.mv p119 q19 .v, .mv p120 q21 .v, .bn p121 .eql q119 q120 .b] (.cond q121 (.sO [.mv p122 q19 .v, .mv p123 q3 tI, .mv p124 q20 .v, .mv p2 q122 .v, .mv p3 q123 tI, .mv p4 q124 .v] (.s .ret)) (.s .skip))))))
def c62_e : XC := (.sO [.mv p2 (.c (.flt .f64 0)) .v, .mv p3 (ci 0) tI, .mv p4 (.c .nili) .v] (.seq (.seq (.oX [.mv p27 q0 .s, .cl p28 66 [q27] .v, .mv p26 q28 .v, .P p29 (.ext q26 0) .v, .P p30 (.ext q26 1) tI, .P p31 (.ext q26 2) .b, .mv p5 q29 .v, .mv p6 q30 tI, .mv p7 q31 .b]) (.seq (.oX [.mv p32 q7 .b]) (.cond q32 (.seq (.oX [.mv p33 q5 .v, .mv p34 q6 tI, .mv p2 q33 .v, .mv p3 q34 tI, .mv p4 (.c .nili) .v]) .ret) .skip))) (.sO [.mv p36 q0 .s, .cl p37 67 [q36] .v, .mv p35 q37 .v, .P p38 (.ext q35 0) (.i .u64), .P p39 (.ext q35 1) tI, .P p40 (.ext q35 2) .b, .P p41 (.ext q35 3) .b, .P p42 (.ext q35 4) .b, .P p43 (.ext q35 5) tI, .P p44 (.ext q35 6) .b, .mv p8 q38 (.i .u64), .mv p9 q39 tI, .mv p10 q40 .b, .mv p11 q41 .b, .mv p12 q42 .b, .mv p3 q43 tI, .mv p13 q44 .b] (.seq (.seq (.oX [.mv p45 q13 .b, .P p46 (.un .not q45) .b]) (.cond q46 (.seq (.oX [.mv p47 q3 tI, .P p48 (.mkif 69 (ci 2)) .v, .mv p2 (.c (.flt .f64 0)) .v, .mv p3 q47 tI, .mv p4 q48 .v]) .ret) .skip)) (.seq (.seq (.oX [.mv p49 q12 .b]) (.cond q49 (.seq (.oX [.mv p51 q0 .s, .mv p52 q3 tI, .P p53 (.slice .str q51 none (some q52) none) .s, .mv p54 q8 (.i .u64), .mv p55 q9 tI, .mv p56 q10 .b, .mv p57 q11 .b, .cl p58 68 [q53, (.c (.ptr p6 0)), q54, q55, q56, q57] .v, .mv p50 q58 .v, .P p59 (.ext q50 0) .v, .P p60 (.ext q50 1) .v, .mv p14 q59 .v, .mv p15 q60 .v]) (.seq (.oX [.mv p61 q14 .v, .mv p62 q3 tI, .mv p63 q15 .v, .mv p2 q61 .v, .mv p3 q62 tI, .mv p4 q63 .v]) .ret)) .skip)) (.sj v62_0 (.sO [.ld p64 (.c (.ptr p5 0)) .b] (.cond q64 (.sO [.mv p65 q10 .b, .cl p66 75 [q65] (.i .u64), .bn p67 .shl q66 (.c (.int .u64 (.ofNat 63))) (.i .u64), .mv p16 q67 (.i .u64)] (.seq (.seq (.oX [.mv p68 q8 (.i .u64), .bn p69 .eql q68 (.c (.int .u64 (.ofNat 0))) .b]) (.cond q69 (.seq (.oX [.mv p70 q16 (.i .u64), .bn p71 .or q70 (.c (.int .u64 (.ofNat 0))) (.i .u64), .P p72 (.xt .ffrom [q71]) .v, .mv p73 q3 tI, .mv p2 q72 .v, .mv p3 q73 tI, .mv p4 (.c .nili) .v]) .ret) .skip)) (.seq (.seq (.oX [.mv p74 q9 tI, .bn p75 .gtr q74 (ci 310) .b]) (.cond q75 (.seq (.oX [.mv p76 q16 (.i .u64), .bn p77 .or q76 (.c (.int .u64 (.ofNat 9218868437227405312))) (.i .u64), .P p78 (.xt .ffrom [q77]) .v, .mv p79 q3 tI, .P p80 (.mkif 69 (ci 1)) .v, .mv p2 q78 .v, .mv p3 q79 tI, .mv p4 q80 .v]) .ret) .skip)) (.seq (.seq (.oX [.mv p81 q9 tI, .bn p82 .lss q81 (.c (.int .i64 (.negSucc 344))) .b]) (.cond q82 (.seq (.oX [.mv p83 q16 (.i .u64), .bn p84 .or q83 (.c (.int .u64 (.ofNat 0))) (.i .u64), .P p85 (.xt .ffrom [q84]) .v, .mv p86 q3 tI, .mv p2 q85 .v, .mv p3 q86 tI, .mv p4 (.c .nili) .v]) .ret) .skip)) (.sj v62_2 (.sO [.mv p87 q11 .b, .P p88 (.un .not q87) .b] (.cond q88 (.sO [.mv p90 q8 (.i .u64), .mv p91 q9 tI, .mv p92 q10 .b, .cl p93 77 [q90, q91, q92] .v, .mv p89 q93 .v, .P p94 (.ext q89 0) .v, .P p95 (.ext q89 1) .b, .mv p17 q94 .v, .mv p18 q95 .b] (.sO [.mv p96 q18 .b] (.cond q96 (.sO [.mv p97 q17 .v, .mv p98 q3 tI, .mv p2 q97 .v, .mv p3 q98 tI, .mv p4 (.c .nili) .v] (.s .ret)) (.s .skip)))) (.s .skip))) c62_2))))) (.s .skip))) c62_0))))))
def x62 : XFn := ⟨[.s], false, [(.tmp p2), (.tmp p3), (.tmp p4)], c62_e⟩
def e62_1 (k t2 t3 t4 h) := kN k [(p2, t2), (p3, (vI t3)), (p4, t4)] h
def S62_1 (D : CallD) (m : Nat) (t2 : AV) (t3 : Int) (t4 : AV) (h : HP) : Res2 :=
 some (.ret (.tup [t2, (vI t3), t4]) h, .no)
def e62_0 (k t0 t3 t4 h) := kN k [(p0, (vS t0)), (p3, (vI t3)), (p4, t4)] h
def S62_0 (D : CallD) (m : Nat) (t0 : LN) (t3 : Int) (t4 : AV) (h : HP) : Res2 :=
 let t23 := AV.ptr (HP.nxQ h) 0
 let h7 := HP.newQ h (.cells true [(.int .u8 (.ofNat 0)), (.int .u8 (.ofNat 0)), (.int .u8 (.ofNat 0)), (.int .u8 (.ofNat 0)), (.int .u8 (.ofNat 0)), (.int .u8 (.ofNat 0)), (.int .u8 (.ofNat 0)), (.int .u8 (.ofNat 0)), (.int .u8 (.ofNat 0)), (.int .u8 (.ofNat 0)), (.int .u8 (.ofNat 0)), (.int .u8 (.ofNat 0)), (.int .u8 (.ofNat 0)), (.int .u8 (.ofNat 0)), (.int .u8 (.ofNat 0)), (.int .u8 (.ofNat 0)), (.int .u8 (.ofNat 0)), (.int .u8 (.ofNat 0)), (.int .u8 (.ofNat 0)), (.int .u8 (.ofNat 0)), (.int .u8 (.ofNat 0)), (.int .u8 (.ofNat 0)), (.int .u8 (.ofNat 0)), (.int .u8 (.ofNat 0)), (.int .u8 (.ofNat 0)), (.int .u8 (.ofNat 0)), (.int .u8 (.ofNat 0)), (.int .u8 (.ofNat 0)), (.int .u8 (.ofNat 0)), (.int .u8 (.ofNat 0)), (.int .u8 (.ofNat 0)), (.int .u8 (.ofNat 0)), (.int .u8 (.ofNat 0)), (.int .u8 (.ofNat 0)), (.int .u8 (.ofNat 0)), (.int .u8 (.ofNat 0)), (.int .u8 (.ofNat 0)), (.int .u8 (.ofNat 0)), (.int .u8 (.ofNat 0)), (.int .u8 (.ofNat 0)), (.int .u8 (.ofNat 0)), (.int .u8 (.ofNat 0)), (.int .u8 (.ofNat 0)), (.int .u8 (.ofNat 0)), (.int .u8 (.ofNat 0)), (.int .u8 (.ofNat 0)), (.int .u8 (.ofNat 0)), (.int .u8 (.ofNat 0)), (.int .u8 (.ofNat 0)), (.int .u8 (.ofNat 0)), (.int .u8 (.ofNat 0)), (.int .u8 (.ofNat 0)), (.int .u8 (.ofNat 0)), (.int .u8 (.ofNat 0)), (.int .u8 (.ofNat 0)), (.int .u8 (.ofNat 0)), (.int .u8 (.ofNat 0)), (.int .u8 (.ofNat 0)), (.int .u8 (.ofNat 0)), (.int .u8 (.ofNat 0)), (.int .u8 (.ofNat 0)), (.int .u8 (.ofNat 0)), (.int .u8 (.ofNat 0)), (.int .u8 (.ofNat 0)), (.int .u8 (.ofNat 0)), (.int .u8 (.ofNat 0)), (.int .u8 (.ofNat 0)), (.int .u8 (.ofNat 0)), (.int .u8 (.ofNat 0)), (.int .u8 (.ofNat 0)), (.int .u8 (.ofNat 0)), (.int .u8 (.ofNat 0)), (.int .u8 (.ofNat 0)), (.int .u8 (.ofNat 0)), (.int .u8 (.ofNat 0)), (.int .u8 (.ofNat 0)), (.int .u8 (.ofNat 0)), (.int .u8 (.ofNat 0)), (.int .u8 (.ofNat 0)), (.int .u8 (.ofNat 0)), (.int .u8 (.ofNat 0)), (.int .u8 (.ofNat 0)), (.int .u8 (.ofNat 0)), (.int .u8 (.ofNat 0)), (.int .u8 (.ofNat 0)), (.int .u8 (.ofNat 0)), (.int .u8 (.ofNat 0)), (.int .u8 (.ofNat 0)), (.int .u8 (.ofNat 0)), (.int .u8 (.ofNat 0)), (.int .u8 (.ofNat 0)), (.int .u8 (.ofNat 0)), (.int .u8 (.ofNat 0)), (.int .u8 (.ofNat 0)), (.int .u8 (.ofNat 0)), (.int .u8 (.ofNat 0)), (.int .u8 (.ofNat 0)), (.int .u8 (.ofNat 0)), (.int .u8 (.ofNat 0)), (.int .u8 (.ofNat 0)), (.int .u8 (.ofNat 0)), (.int .u8 (.ofNat 0)), (.int .u8 (.ofNat 0)), (.int .u8 (.ofNat 0)), (.int .u8 (.ofNat 0)), (.int .u8 (.ofNat 0)), (.int .u8 (.ofNat 0)), (.int .u8 (.ofNat 0)), (.int .u8 (.ofNat 0)), (.int .u8 (.ofNat 0)), (.int .u8 (.ofNat 0)), (.int .u8 (.ofNat 0)), (.int .u8 (.ofNat 0)), (.int .u8 (.ofNat 0)), (.int .u8 (.ofNat 0)), (.int .u8 (.ofNat 0)), (.int .u8 (.ofNat 0)), (.int .u8 (.ofNat 0)), (.int .u8 (.ofNat 0)), (.int .u8 (.ofNat 0)), (.int .u8 (.ofNat 0)), (.int .u8 (.ofNat 0)), (.int .u8 (.ofNat 0)), (.int .u8 (.ofNat 0)), (.int .u8 (.ofNat 0)), (.int .u8 (.ofNat 0)), (.int .u8 (.ofNat 0)), (.int .u8 (.ofNat 0)), (.int .u8 (.ofNat 0)), (.int .u8 (.ofNat 0)), (.int .u8 (.ofNat 0)), (.int .u8 (.ofNat 0)), (.int .u8 (.ofNat 0)), (.int .u8 (.ofNat 0)), (.int .u8 (.ofNat 0)), (.int .u8 (.ofNat 0)), (.int .u8 (.ofNat 0)), (.int .u8 (.ofNat 0)), (.int .u8 (.ofNat 0)), (.int .u8 (.ofNat 0)), (.int .u8 (.ofNat 0)), (.int .u8 (.ofNat 0)), (.int .u8 (.ofNat 0)), (.int .u8 (.ofNat 0)), (.int .u8 (.ofNat 0)), (.int .u8 (.ofNat 0)), (.int .u8 (.ofNat 0)), (.int .u8 (.ofNat 0)), (.int .u8 (.ofNat 0)), (.int .u8 (.ofNat 0)), (.int .u8 (.ofNat 0)), (.int .u8 (.ofNat 0)), (.int .u8 (.ofNat 0)), (.int .u8 (.ofNat 0)), (.int .u8 (.ofNat 0)), (.int .u8 (.ofNat 0)), (.int .u8 (.ofNat 0)), (.int .u8 (.ofNat 0)), (.int .u8 (.ofNat 0)), (.int .u8 (.ofNat 0)), (.int .u8 (.ofNat 0)), (.int .u8 (.ofNat 0)), (.int .u8 (.ofNat 0)), (.int .u8 (.ofNat 0)), (.int .u8 (.ofNat 0)), (.int .u8 (.ofNat 0)), (.int .u8 (.ofNat 0)), (.int .u8 (.ofNat 0)), (.int .u8 (.ofNat 0)), (.int .u8 (.ofNat 0)), (.int .u8 (.ofNat 0)), (.int .u8 (.ofNat 0)), (.int .u8 (.ofNat 0)), (.int .u8 (.ofNat 0)), (.int .u8 (.ofNat 0)), (.int .u8 (.ofNat 0)), (.int .u8 (.ofNat 0)), (.int .u8 (.ofNat 0)), (.int .u8 (.ofNat 0)), (.int .u8 (.ofNat 0)), (.int .u8 (.ofNat 0)), (.int .u8 (.ofNat 0)), (.int .u8 (.ofNat 0)), (.int .u8 (.ofNat 0)), (.int .u8 (.ofNat 0)), (.int .u8 (.ofNat 0)), (.int .u8 (.ofNat 0)), (.int .u8 (.ofNat 0)), (.int .u8 (.ofNat 0)), (.int .u8 (.ofNat 0)), (.int .u8 (.ofNat 0)), (.int .u8 (.ofNat 0)), (.int .u8 (.ofNat 0)), (.int .u8 (.ofNat 0)), (.int .u8 (.ofNat 0)), (.int .u8 (.ofNat 0)), (.int .u8 (.ofNat 0)), (.int .u8 (.ofNat 0)), (.int .u8 (.ofNat 0)), (.int .u8 (.ofNat 0)), (.int .u8 (.ofNat 0)), (.int .u8 (.ofNat 0)), (.int .u8 (.ofNat 0)), (.int .u8 (.ofNat 0)), (.int .u8 (.ofNat 0)), (.int .u8 (.ofNat 0)), (.int .u8 (.ofNat 0)), (.int .u8 (.ofNat 0)), (.int .u8 (.ofNat 0)), (.int .u8 (.ofNat 0)), (.int .u8 (.ofNat 0)), (.int .u8 (.ofNat 0)), (.int .u8 (.ofNat 0)), (.int .u8 (.ofNat 0)), (.int .u8 (.ofNat 0)), (.int .u8 (.ofNat 0)), (.int .u8 (.ofNat 0)), (.int .u8 (.ofNat 0)), (.int .u8 (.ofNat 0)), (.int .u8 (.ofNat 0)), (.int .u8 (.ofNat 0)), (.int .u8 (.ofNat 0)), (.int .u8 (.ofNat 0)), (.int .u8 (.ofNat 0)), (.int .u8 (.ofNat 0)), (.int .u8 (.ofNat 0)), (.int .u8 (.ofNat 0)), (.int .u8 (.ofNat 0)), (.int .u8 (.ofNat 0)), (.int .u8 (.ofNat 0)), (.int .u8 (.ofNat 0)), (.int .u8 (.ofNat 0)), (.int .u8 (.ofNat 0)), (.int .u8 (.ofNat 0)), (.int .u8 (.ofNat 0)), (.int .u8 (.ofNat 0)), (.int .u8 (.ofNat 0)), (.int .u8 (.ofNat 0)), (.int .u8 (.ofNat 0)), (.int .u8 (.ofNat 0)), (.int .u8 (.ofNat 0)), (.int .u8 (.ofNat 0)), (.int .u8 (.ofNat 0)), (.int .u8 (.ofNat 0)), (.int .u8 (.ofNat 0)), (.int .u8 (.ofNat 0)), (.int .u8 (.ofNat 0)), (.int .u8 (.ofNat 0)), (.int .u8 (.ofNat 0)), (.int .u8 (.ofNat 0)), (.int .u8 (.ofNat 0)), (.int .u8 (.ofNat 0)), (.int .u8 (.ofNat 0)), (.int .u8 (.ofNat 0)), (.int .u8 (.ofNat 0)), (.int .u8 (.ofNat 0)), (.int .u8 (.ofNat 0)), (.int .u8 (.ofNat 0)), (.int .u8 (.ofNat 0)), (.int .u8 (.ofNat 0)), (.int .u8 (.ofNat 0)), (.int .u8 (.ofNat 0)), (.int .u8 (.ofNat 0)), (.int .u8 (.ofNat 0)), (.int .u8 (.ofNat 0)), (.int .u8 (.ofNat 0)), (.int .u8 (.ofNat 0)), (.int .u8 (.ofNat 0)), (.int .u8 (.ofNat 0)), (.int .u8 (.ofNat 0)), (.int .u8 (.ofNat 0)), (.int .u8 (.ofNat 0)), (.int .u8 (.ofNat 0)), (.int .u8 (.ofNat 0)), (.int .u8 (.ofNat 0)), (.int .u8 (.ofNat 0)), (.int .u8 (.ofNat 0)), (.int .u8 (.ofNat 0)), (.int .u8 (.ofNat 0)), (.int .u8 (.ofNat 0)), (.int .u8 (.ofNat 0)), (.int .u8 (.ofNat 0)), (.int .u8 (.ofNat 0)), (.int .u8 (.ofNat 0)), (.int .u8 (.ofNat 0)), (.int .u8 (.ofNat 0)), (.int .u8 (.ofNat 0)), (.int .u8 (.ofNat 0)), (.int .u8 (.ofNat 0)), (.int .u8 (.ofNat 0)), (.int .u8 (.ofNat 0)), (.int .u8 (.ofNat 0)), (.int .u8 (.ofNat 0)), (.int .u8 (.ofNat 0)), (.int .u8 (.ofNat 0)), (.int .u8 (.ofNat 0)), (.int .u8 (.ofNat 0)), (.int .u8 (.ofNat 0)), (.int .u8 (.ofNat 0)), (.int .u8 (.ofNat 0)), (.int .u8 (.ofNat 0)), (.int .u8 (.ofNat 0)), (.int .u8 (.ofNat 0)), (.int .u8 (.ofNat 0)), (.int .u8 (.ofNat 0)), (.int .u8 (.ofNat 0)), (.int .u8 (.ofNat 0)), (.int .u8 (.ofNat 0)), (.int .u8 (.ofNat 0)), (.int .u8 (.ofNat 0)), (.int .u8 (.ofNat 0)), (.int .u8 (.ofNat 0)), (.int .u8 (.ofNat 0)), (.int .u8 (.ofNat 0)), (.int .u8 (.ofNat 0)), (.int .u8 (.ofNat 0)), (.int .u8 (.ofNat 0)), (.int .u8 (.ofNat 0)), (.int .u8 (.ofNat 0)), (.int .u8 (.ofNat 0)), (.int .u8 (.ofNat 0)), (.int .u8 (.ofNat 0)), (.int .u8 (.ofNat 0)), (.int .u8 (.ofNat 0)), (.int .u8 (.ofNat 0)), (.int .u8 (.ofNat 0)), (.int .u8 (.ofNat 0)), (.int .u8 (.ofNat 0)), (.int .u8 (.ofNat 0)), (.int .u8 (.ofNat 0)), (.int .u8 (.ofNat 0)), (.int .u8 (.ofNat 0)), (.int .u8 (.ofNat 0)), (.int .u8 (.ofNat 0)), (.int .u8 (.ofNat 0)), (.int .u8 (.ofNat 0)), (.int .u8 (.ofNat 0)), (.int .u8 (.ofNat 0)), (.int .u8 (.ofNat 0)), (.int .u8 (.ofNat 0)), (.int .u8 (.ofNat 0)), (.int .u8 (.ofNat 0)), (.int .u8 (.ofNat 0)), (.int .u8 (.ofNat 0)), (.int .u8 (.ofNat 0)), (.int .u8 (.ofNat 0)), (.int .u8 (.ofNat 0)), (.int .u8 (.ofNat 0)), (.int .u8 (.ofNat 0)), (.int .u8 (.ofNat 0)), (.int .u8 (.ofNat 0)), (.int .u8 (.ofNat 0)), (.int .u8 (.ofNat 0)), (.int .u8 (.ofNat 0)), (.int .u8 (.ofNat 0)), (.int .u8 (.ofNat 0)), (.int .u8 (.ofNat 0)), (.int .u8 (.ofNat 0)), (.int .u8 (.ofNat 0)), (.int .u8 (.ofNat 0)), (.int .u8 (.ofNat 0)), (.int .u8 (.ofNat 0)), (.int .u8 (.ofNat 0)), (.int .u8 (.ofNat 0)), (.int .u8 (.ofNat 0)), (.int .u8 (.ofNat 0)), (.int .u8 (.ofNat 0)), (.int .u8 (.ofNat 0)), (.int .u8 (.ofNat 0)), (.int .u8 (.ofNat 0)), (.int .u8 (.ofNat 0)), (.int .u8 (.ofNat 0)), (.int .u8 (.ofNat 0)), (.int .u8 (.ofNat 0)), (.int .u8 (.ofNat 0)), (.int .u8 (.ofNat 0)), (.int .u8 (.ofNat 0)), (.int .u8 (.ofNat 0)), (.int .u8 (.ofNat 0)), (.int .u8 (.ofNat 0)), (.int .u8 (.ofNat 0)), (.int .u8 (.ofNat 0)), (.int .u8 (.ofNat 0)), (.int .u8 (.ofNat 0)), (.int .u8 (.ofNat 0)), (.int .u8 (.ofNat 0)), (.int .u8 (.ofNat 0)), (.int .u8 (.ofNat 0)), (.int .u8 (.ofNat 0)), (.int .u8 (.ofNat 0)), (.int .u8 (.ofNat 0)), (.int .u8 (.ofNat 0)), (.int .u8 (.ofNat 0)), (.int .u8 (.ofNat 0)), (.int .u8 (.ofNat 0)), (.int .u8 (.ofNat 0)), (.int .u8 (.ofNat 0)), (.int .u8 (.ofNat 0)), (.int .u8 (.ofNat 0)), (.int .u8 (.ofNat 0)), (.int .u8 (.ofNat 0)), (.int .u8 (.ofNat 0)), (.int .u8 (.ofNat 0)), (.int .u8 (.ofNat 0)), (.int .u8 (.ofNat 0)), (.int .u8 (.ofNat 0)), (.int .u8 (.ofNat 0)), (.int .u8 (.ofNat 0)), (.int .u8 (.ofNat 0)), (.int .u8 (.ofNat 0)), (.int .u8 (.ofNat 0)), (.int .u8 (.ofNat 0)), (.int .u8 (.ofNat 0)), (.int .u8 (.ofNat 0)), (.int .u8 (.ofNat 0)), (.int .u8 (.ofNat 0)), (.int .u8 (.ofNat 0)), (.int .u8 (.ofNat 0)), (.int .u8 (.ofNat 0)), (.int .u8 (.ofNat 0)), (.int .u8 (.ofNat 0)), (.int .u8 (.ofNat 0)), (.int .u8 (.ofNat 0)), (.int .u8 (.ofNat 0)), (.int .u8 (.ofNat 0)), (.int .u8 (.ofNat 0)), (.int .u8 (.ofNat 0)), (.int .u8 (.ofNat 0)), (.int .u8 (.ofNat 0)), (.int .u8 (.ofNat 0)), (.int .u8 (.ofNat 0)), (.int .u8 (.ofNat 0)), (.int .u8 (.ofNat 0)), (.int .u8 (.ofNat 0)), (.int .u8 (.ofNat 0)), (.int .u8 (.ofNat 0)), (.int .u8 (.ofNat 0)), (.int .u8 (.ofNat 0)), (.int .u8 (.ofNat 0)), (.int .u8 (.ofNat 0)), (.int .u8 (.ofNat 0)), (.int .u8 (.ofNat 0)), (.int .u8 (.ofNat 0)), (.int .u8 (.ofNat 0)), (.int .u8 (.ofNat 0)), (.int .u8 (.ofNat 0)), (.int .u8 (.ofNat 0)), (.int .u8 (.ofNat 0)), (.int .u8 (.ofNat 0)), (.int .u8 (.ofNat 0)), (.int .u8 (.ofNat 0)), (.int .u8 (.ofNat 0)), (.int .u8 (.ofNat 0)), (.int .u8 (.ofNat 0)), (.int .u8 (.ofNat 0)), (.int .u8 (.ofNat 0)), (.int .u8 (.ofNat 0)), (.int .u8 (.ofNat 0)), (.int .u8 (.ofNat 0)), (.int .u8 (.ofNat 0)), (.int .u8 (.ofNat 0)), (.int .u8 (.ofNat 0)), (.int .u8 (.ofNat 0)), (.int .u8 (.ofNat 0)), (.int .u8 (.ofNat 0)), (.int .u8 (.ofNat 0)), (.int .u8 (.ofNat 0)), (.int .u8 (.ofNat 0)), (.int .u8 (.ofNat 0)), (.int .u8 (.ofNat 0)), (.int .u8 (.ofNat 0)), (.int .u8 (.ofNat 0)), (.int .u8 (.ofNat 0)), (.int .u8 (.ofNat 0)), (.int .u8 (.ofNat 0)), (.int .u8 (.ofNat 0)), (.int .u8 (.ofNat 0)), (.int .u8 (.ofNat 0)), (.int .u8 (.ofNat 0)), (.int .u8 (.ofNat 0)), (.int .u8 (.ofNat 0)), (.int .u8 (.ofNat 0)), (.int .u8 (.ofNat 0)), (.int .u8 (.ofNat 0)), (.int .u8 (.ofNat 0)), (.int .u8 (.ofNat 0)), (.int .u8 (.ofNat 0)), (.int .u8 (.ofNat 0)), (.int .u8 (.ofNat 0)), (.int .u8 (.ofNat 0)), (.int .u8 (.ofNat 0)), (.int .u8 (.ofNat 0)), (.int .u8 (.ofNat 0)), (.int .u8 (.ofNat 0)), (.int .u8 (.ofNat 0)), (.int .u8 (.ofNat 0)), (.int .u8 (.ofNat 0)), (.int .u8 (.ofNat 0)), (.int .u8 (.ofNat 0)), (.int .u8 (.ofNat 0)), (.int .u8 (.ofNat 0)), (.int .u8 (.ofNat 0)), (.int .u8 (.ofNat 0)), (.int .u8 (.ofNat 0)), (.int .u8 (.ofNat 0)), (.int .u8 (.ofNat 0)), (.int .u8 (.ofNat 0)), (.int .u8 (.ofNat 0)), (.int .u8 (.ofNat 0)), (.int .u8 (.ofNat 0)), (.int .u8 (.ofNat 0)), (.int .u8 (.ofNat 0)), (.int .u8 (.ofNat 0)), (.int .u8 (.ofNat 0)), (.int .u8 (.ofNat 0)), (.int .u8 (.ofNat 0)), (.int .u8 (.ofNat 0)), (.int .u8 (.ofNat 0)), (.int .u8 (.ofNat 0)), (.int .u8 (.ofNat 0)), (.int .u8 (.ofNat 0)), (.int .u8 (.ofNat 0)), (.int .u8 (.ofNat 0)), (.int .u8 (.ofNat 0)), (.int .u8 (.ofNat 0)), (.int .u8 (.ofNat 0)), (.int .u8 (.ofNat 0)), (.int .u8 (.ofNat 0)), (.int .u8 (.ofNat 0)), (.int .u8 (.ofNat 0)), (.int .u8 (.ofNat 0)), (.int .u8 (.ofNat 0)), (.int .u8 (.ofNat 0)), (.int .u8 (.ofNat 0)), (.int .u8 (.ofNat 0)), (.int .u8 (.ofNat 0)), (.int .u8 (.ofNat 0)), (.int .u8 (.ofNat 0)), (.int .u8 (.ofNat 0)), (.int .u8 (.ofNat 0)), (.int .u8 (.ofNat 0)), (.int .u8 (.ofNat 0)), (.int .u8 (.ofNat 0)), (.int .u8 (.ofNat 0)), (.int .u8 (.ofNat 0)), (.int .u8 (.ofNat 0)), (.int .u8 (.ofNat 0)), (.int .u8 (.ofNat 0)), (.int .u8 (.ofNat 0)), (.int .u8 (.ofNat 0)), (.int .u8 (.ofNat 0)), (.int .u8 (.ofNat 0)), (.int .u8 (.ofNat 0)), (.int .u8 (.ofNat 0)), (.int .u8 (.ofNat 0)), (.int .u8 (.ofNat 0)), (.int .u8 (.ofNat 0)), (.int .u8 (.ofNat 0)), (.int .u8 (.ofNat 0)), (.int .u8 (.ofNat 0)), (.int .u8 (.ofNat 0)), (.int .u8 (.ofNat 0)), (.int .u8 (.ofNat 0)), (.int .u8 (.ofNat 0)), (.int .u8 (.ofNat 0)), (.int .u8 (.ofNat 0)), (.int .u8 (.ofNat 0)), (.int .u8 (.ofNat 0)), (.int .u8 (.ofNat 0)), (.int .u8 (.ofNat 0)), (.int .u8 (.ofNat 0)), (.int .u8 (.ofNat 0)), (.int .u8 (.ofNat 0)), (.int .u8 (.ofNat 0)), (.int .u8 (.ofNat 0)), (.int .u8 (.ofNat 0)), (.int .u8 (.ofNat 0)), (.int .u8 (.ofNat 0)), (.int .u8 (.ofNat 0)), (.int .u8 (.ofNat 0)), (.int .u8 (.ofNat 0)), (.int .u8 (.ofNat 0)), (.int .u8 (.ofNat 0)), (.int .u8 (.ofNat 0)), (.int .u8 (.ofNat 0)), (.int .u8 (.ofNat 0)), (.int .u8 (.ofNat 0)), (.int .u8 (.ofNat 0)), (.int .u8 (.ofNat 0)), (.int .u8 (.ofNat 0)), (.int .u8 (.ofNat 0)), (.int .u8 (.ofNat 0)), (.int .u8 (.ofNat 0)), (.int .u8 (.ofNat 0)), (.int .u8 (.ofNat 0)), (.int .u8 (.ofNat 0)), (.int .u8 (.ofNat 0)), (.int .u8 (.ofNat 0)), (.int .u8 (.ofNat 0)), (.int .u8 (.ofNat 0)), (.int .u8 (.ofNat 0)), (.int .u8 (.ofNat 0)), (.int .u8 (.ofNat 0)), (.int .u8 (.ofNat 0)), (.int .u8 (.ofNat 0)), (.int .u8 (.ofNat 0)), (.int .u8 (.ofNat 0)), (.int .u8 (.ofNat 0)), (.int .u8 (.ofNat 0)), (.int .u8 (.ofNat 0)), (.int .u8 (.ofNat 0)), (.int .u8 (.ofNat 0)), (.int .u8 (.ofNat 0)), (.int .u8 (.ofNat 0)), (.int .u8 (.ofNat 0)), (.int .u8 (.ofNat 0)), (.int .u8 (.ofNat 0)), (.int .u8 (.ofNat 0)), (.int .u8 (.ofNat 0)), (.int .u8 (.ofNat 0)), (.int .u8 (.ofNat 0)), (.int .u8 (.ofNat 0)), (.int .u8 (.ofNat 0)), (.int .u8 (.ofNat 0)), (.int .u8 (.ofNat 0)), (.int .u8 (.ofNat 0)), (.int .u8 (.ofNat 0)), (.int .u8 (.ofNat 0)), (.int .u8 (.ofNat 0)), (.int .u8 (.ofNat 0)), (.int .u8 (.ofNat 0)), (.int .u8 (.ofNat 0)), (.int .u8 (.ofNat 0)), (.int .u8 (.ofNat 0)), (.int .u8 (.ofNat 0)), (.int .u8 (.ofNat 0)), (.int .u8 (.ofNat 0)), (.int .u8 (.ofNat 0)), (.int .u8 (.ofNat 0)), (.int .u8 (.ofNat 0)), (.int .u8 (.ofNat 0)), (.int .u8 (.ofNat 0)), (.int .u8 (.ofNat 0)), (.int .u8 (.ofNat 0)), (.int .u8 (.ofNat 0)), (.int .u8 (.ofNat 0)), (.int .u8 (.ofNat 0)), (.int .u8 (.ofNat 0)), (.int .u8 (.ofNat 0)), (.int .u8 (.ofNat 0)), (.int .u8 (.ofNat 0)), (.int .u8 (.ofNat 0)), (.int .u8 (.ofNat 0)), (.int .u8 (.ofNat 0)), (.int .u8 (.ofNat 0)), (.int .u8 (.ofNat 0)), (.int .u8 (.ofNat 0)), (.int .u8 (.ofNat 0)), (.int .u8 (.ofNat 0)), (.int .u8 (.ofNat 0)), (.int .u8 (.ofNat 0)), (.int .u8 (.ofNat 0)), (.int .u8 (.ofNat 0)), (.int .u8 (.ofNat 0)), (.int .u8 (.ofNat 0)), (.int .u8 (.ofNat 0)), (.int .u8 (.ofNat 0)), (.int .u8 (.ofNat 0)), (.int .u8 (.ofNat 0)), (.int .u8 (.ofNat 0)), (.int .u8 (.ofNat 0)), (.int .u8 (.ofNat 0)), (.int .u8 (.ofNat 0)), (.int .u8 (.ofNat 0)), (.int .u8 (.ofNat 0)), (.int .u8 (.ofNat 0)), (.int .u8 (.ofNat 0)), (.int .u8 (.ofNat 0)), (.int .u8 (.ofNat 0)), (.int .u8 (.ofNat 0)), (.int .u8 (.ofNat 0)), (.int .u8 (.ofNat 0)), (.int .u8 (.ofNat 0)), (.int .u8 (.ofNat 0)), (.int .u8 (.ofNat 0)), (.int .u8 (.ofNat 0)), (.int .u8 (.ofNat 0)), (.int .u8 (.ofNat 0)), (.int .u8 (.ofNat 0)), (.int .u8 (.ofNat 0)), (.int .u8 (.ofNat 0)), (.int .u8 (.ofNat 0)), (.int .u8 (.ofNat 0)), (.int .u8 (.ofNat 0)), (.int .u8 (.ofNat 0)), (.int .u8 (.ofNat 0)), (.int .u8 (.ofNat 0)), (.int .u8 (.ofNat 0)), (.int .u8 (.ofNat 0)), (.int .u8 (.ofNat 0)), (.int .u8 (.ofNat 0)), (.int .u8 (.ofNat 0)), (.int .u8 (.ofNat 0)), (.int .u8 (.ofNat 0)), (.int .u8 (.ofNat 0)), (.int .u8 (.ofNat 0)), (.int .u8 (.ofNat 0)), (.int .u8 (.ofNat 0)), (.int .u8 (.ofNat 0)), (.int .u8 (.ofNat 0)), (.int .u8 (.ofNat 0)), (.int .u8 (.ofNat 0)), (.int .u8 (.ofNat 0)), (.int .u8 (.ofNat 0)), (.int .u8 (.ofNat 0)), (.int .u8 (.ofNat 0)), (.int .u8 (.ofNat 0)), (.int .u8 (.ofNat 0)), (.int .u8 (.ofNat 0)), (.int .u8 (.ofNat 0)), (.int .u8 (.ofNat 0)), (.int .u8 (.ofNat 0)), (.int .u8 (.ofNat 0)), (.int .u8 (.ofNat 0)), (.int .u8 (.ofNat 0)), (.int .u8 (.ofNat 0)), (.int .u8 (.ofNat 0)), (.int .u8 (.ofNat 0)), (.int .u8 (.ofNat 0)), (.int .u8 (.ofNat 0)), (.int .u8 (.ofNat 0)), (.int .u8 (.ofNat 0)), (.int .u8 (.ofNat 0)), (.int .u8 (.ofNat 0)), (.int .u8 (.ofNat 0)), (.int .u8 (.ofNat 0)), (.int .u8 (.ofNat 0)), (.int .u8 (.ofNat 0)), (.int .u8 (.ofNat 0)), (.int .u8 (.ofNat 0)), (.int .u8 (.ofNat 0)), (.int .u8 (.ofNat 0)), (.int .u8 (.ofNat 0)), (.int .u8 (.ofNat 0)), (.int .u8 (.ofNat 0)), (.int .u8 (.ofNat 0)), (.int .u8 (.ofNat 0)), (.int .u8 (.ofNat 0)), (.int .u8 (.ofNat 0)), (.int .u8 (.ofNat 0)), (.int .u8 (.ofNat 0)), (.int .u8 (.ofNat 0)), (.int .u8 (.ofNat 0)), (.int .u8 (.ofNat 0)), (.int .u8 (.ofNat 0)), (.int .u8 (.ofNat 0)), (.int .u8 (.ofNat 0)), (.int .u8 (.ofNat 0)), (.int .u8 (.ofNat 0)), (.int .u8 (.ofNat 0)), (.int .u8 (.ofNat 0)), (.int .u8 (.ofNat 0)), (.int .u8 (.ofNat 0)), (.int .u8 (.ofNat 0)), (.int .u8 (.ofNat 0)), (.int .u8 (.ofNat 0)), (.int .u8 (.ofNat 0)), (.int .u8 (.ofNat 0)), (.int .u8 (.ofNat 0)), (.int .u8 (.ofNat 0)), (.int .u8 (.ofNat 0)), (.int .u8 (.ofNat 0)), (.int .u8 (.ofNat 0)), (.int .u8 (.ofNat 0)), (.int .u8 (.ofNat 0)), (.int .u8 (.ofNat 0)), (.int .u8 (.ofNat 0)), (.int .u8 (.ofNat 0)), (.int .u8 (.ofNat 0)), (.int .u8 (.ofNat 0)), (.int .u8 (.ofNat 0)), (.int .u8 (.ofNat 0)), (.int .u8 (.ofNat 0)), (.int .u8 (.ofNat 0)), (.int .u8 (.ofNat 0)), (.int .u8 (.ofNat 0)), (.int .u8 (.ofNat 0)), (.int .u8 (.ofNat 0)), (.int .u8 (.ofNat 0)), (.int .u8 (.ofNat 0)), (.int .u8 (.ofNat 0)), (.int .u8 (.ofNat 0)), (.int .u8 (.ofNat 0)), (.int .u8 (.ofNat 0)), (.int .u8 (.ofNat 0)), (.int .u8 (.ofNat 0)), (.int .u8 (.ofNat 0)), (.int .u8 (.ofNat 0)), (.int .u8 (.ofNat 0)), (.int .u8 (.ofNat 0)), (kI 0), (kI 0), (.bool false), (.bool false)])
 slC (vS t0) none (some (vI t3)) fun vt127 => asS vt127 fun t127 =>
 cal D 73 [t23, (vS t127)] h7 fun t128 h8 =>
 asB t128 fun t128a =>
 let t129 := !t128a
 br t129 (
 let t131 := (AV.iface 69 (vI (Int.ofNat 2)))
 some (.ret (.tup [((.flt .f64 0) : AV), (vI t3), t131]) h8, .no)) (
 cal D 74 [t23, ((.ptr p6 0) : AV)] h8 fun t133 h9 =>
 extC t133 0 fun vt134 => asI .u64 vt134 fun t134 =>
 extC t133 1 fun vt135 => asB vt135 fun t135 =>
 obQ (evP (.xt .ffrom [(.c (AV.int .u64 t134))]) .leaf) fun t137 =>
 br t135 (
 let t139 := (AV.iface 69 (vI (Int.ofNat 1)))
 S62_1 D m t137 t3 t139 h9) (
 S62_1 D m t137 t3 t4 h9))
def e62_2 (k t0 t3 t4 t8 t9 t11 t16 h) := kN k [(p0, (vS t0)), (p3, (vI t3)), (p4, t4), (p8, (AV.int .u64 t8)), (p9, (vI t9)), (p11, (vB t11)), (p16, (AV.int .u64 t16))] h
def S62_2 (D : CallD) (m : Nat) (t0 : LN) (t3 : Int) (t4 : AV) (t8 t9 : Int) (t11 : Bool) (t16 : Int) (h : HP) : Res2 :=
 cal D 78 [(AV.int .u64 t8), (vI t9), (AV.int .u64 t16)] h fun t103 h11 =>
 extC t103 0 fun t104 =>
 extC t103 1 fun t105 =>
 let t107 := !t11
 br t107 (
 some (.ret (.tup [t104, (vI t3), t105]) h11, .no)) (
 let t113 := wrQ .u64 (addQ t8 (Int.ofNat 1))
 cal D 78 [(AV.int .u64 t113), (vI t9), (AV.int .u64 t16)] h11 fun t116 h12 =>
 extC t116 0 fun t117 =>
 extC t116 1 fun t118 =>
 binC .eql t104 t117 fun vt121 => asB vt121 fun t121 =>
 br t121 (
 some (.ret (.tup [t104, (vI t3), t105]) h12, .no)) (
 S62_0 D m t0 t3 t4 h12))
def e62_3 (k t0 h) := kN k [(p0, (vS t0))] h
def S62_3 (D : CallD) (m : Nat) (t0 : LN) (h : HP) : Res2 :=
 cal D 66 [(vS t0)] h fun t28 h4 =>
 extC t28 0 fun t29 =>
 extC t28 1 fun vt30 => asI .i64 vt30 fun t30 =>
 extC t28 2 fun vt31 => asB vt31 fun t31 =>
 br t31 (
 some (.ret (.tup [t29, (vI t30), (.nili : AV)]) h4, .no)) (
 cal D 67 [(vS t0)] h4 fun t37 h5 =>
 extC t37 0 fun vt38 => asI .u64 vt38 fun t38 =>
 extC t37 1 fun vt39 => asI .i64 vt39 fun t39 =>
 extC t37 2 fun vt40 => asB vt40 fun t40 =>
 extC t37 3 fun vt41 => asB vt41 fun t41 =>
 extC t37 4 fun vt42 => asB vt42 fun t42 =>
 extC t37 5 fun vt43 => asI .i64 vt43 fun t43 =>
 extC t37 6 fun vt44 => asB vt44 fun t44 =>
 let t46 := !t44
 br t46 (
 let t48 := (AV.iface 69 (vI (Int.ofNat 2)))
 some (.ret (.tup [((.flt .f64 0) : AV), (vI t43), t48]) h5, .no)) (
 br t42 (
 slC (vS t0) none (some (vI t43)) fun vt53 => asS vt53 fun t53 =>
 cal D 68 [(vS t53), ((.ptr p6 0) : AV), (AV.int .u64 t38), (vI t39), (vB t40), (vB t41)] h5 fun t58 h6 =>
 extC t58 0 fun t59 =>
 extC t58 1 fun t60 =>
 some (.ret (.tup [t59, (vI t43), t60]) h6, .no)) (
 ldB ((.ptr p5 0) : AV) h5 fun t64 =>
 br t64 (
 cal D 75 [(vB t40)] h5 fun t66 h10 =>
 asI .u64 t66 fun t66a =>
 let t67 := shlF .u64 t66a 63
 let t69 := eqQ t38 (Int.ofNat 0)
 br t69 (
 obI .u64 (intBin .or .u64 t67 (Int.ofNat 0)) fun t71 =>
 obQ (evP (.xt .ffrom [(.c (AV.int .u64 t71))]) .leaf) fun t72 =>
 some (.ret (.tup [t72, (vI t43), (.nili : AV)]) h10, .no)) (
 let t75 := ltQ (Int.ofNat 310) t39
 br t75 (
 obI .u64 (intBin .or .u64 t67 (Int.ofNat 9218868437227405312)) fun t77 =>
 obQ (evP (.xt .ffrom [(.c (AV.int .u64 t77))]) .leaf) fun t78 =>
 let t80 := (AV.iface 69 (vI (Int.ofNat 1)))
 some (.ret (.tup [t78, (vI t43), t80]) h10, .no)) (
 let t82 := ltQ t39 (Int.negSucc 344)
 br t82 (
 obI .u64 (intBin .or .u64 t67 (Int.ofNat 0)) fun t84 =>
 obQ (evP (.xt .ffrom [(.c (AV.int .u64 t84))]) .leaf) fun t85 =>
 some (.ret (.tup [t85, (vI t43), (.nili : AV)]) h10, .no)) (
 let t88 := !t41
 br t88 (
 cal D 77 [(AV.int .u64 t38), (vI t39), (vB t40)] h10 fun t93 h13 =>
 extC t93 0 fun t94 =>
 extC t93 1 fun vt95 => asB vt95 fun t95 =>
 br t95 (
 some (.ret (.tup [t94, (vI t43), (.nili : AV)]) h13, .no)) (
 S62_2 D m t0 t43 (.nili : AV) t38 t39 t41 t67 h13)) (
 S62_2 D m t0 t43 (.nili : AV) t38 t39 t41 t67 h10))))) (
 S62_0 D m t0 t43 (.nili : AV) h5))))
def S62 : SFn := fun D m args h u => nou u <| popS args fun t0 args => endA args (S62_3 D m t0 h)
theorem T62_1 (hE : FX x62 D m E) : S62_1 D m = e62_1 (E c62_1 []) := by unfold S62_1; rw [hE c62_1]; kernel_rfl
theorem T62_0 (hE : FX x62 D m E) : S62_0 D m = e62_0 (E c62_0 []) := by unfold S62_0; rw [T62_1 hE, hE c62_0]; kernel_rfl
theorem T62_2 (hE : FX x62 D m E) : S62_2 D m = e62_2 (E c62_2 [.sj v62_0 c62_0]) := by unfold S62_2; rw [T62_0 hE, hE c62_2]; kernel_rfl
theorem T62_3 (hE : FX x62 D m E) : S62_3 D m = e62_3 (E c62_e []) := by unfold S62_3; rw [T62_2 hE, T62_0 hE, hE c62_e]; kernel_rfl
theorem X62 : XTie S62 x62 := X_of fun D m E hE args h u => by unfold S62; rw [T62_3 hE]; kernel_rfl
/- 66 -/
def v66_0 : List Pos := []
def c66_0 : XC := (.sO [.mv p2 (.c (.flt .f64 0)) .v, .mv p3 (ci 0) tI, .mv p4 (cb false) .b] (.s .ret))
def v66_1 : List Pos := [p0]
def c66_1 : XC := (.seq (.seq (.oX [.mv p46 q0 .s, .cl p47 81 [q46, (.c (.str [110, 97, 110]))] tI, .bn p48 .eql q47 (ci 3) .b]) (.cond q48 (.seq (.oX [.cl p49 83 [] .v, .mv p2 q49 .v, .mv p3 (ci 3) tI, .mv p4 (cb true) .b]) .ret) .skip)) (.s (.exit 0)))
def v66_3 : List Pos := []
def c66_3 : XC := (.s (.exit 0))
def v66_4 : List Pos := [p5, p6, p7]
def c66_4 : XC := (.sO [.mv p35 q7 tI, .bn p36 .eql q35 (ci 3) .b, .mv p37 q36 .b, .ge p37 (XL.of [.G p37 false p38 (.mov q7) tI, .G p37 false p39 (.bin .eql q38 (ci 8)) .b, .P p40 (.pick q37 (cb true) q39) .b]) p40 .b] (.cond q40 (.sO [.mv p41 q5 tI, .cl p42 82 [q41] .v, .mv p43 q6 tI, .mv p44 q7 tI, .bn p45 .add q43 q44 tI, .mv p2 q42 .v, .mv p3 q45 tI, .mv p4 (cb true) .b] (.s .ret)) (.s .skip)))
def v66_2 : List Pos := [p0, p5, p6]
def c66_2 : XC := (.sj v66_3 (.sO [.mv p27 q0 .s, .cl p28 81 [q27, (.c (.str [105, 110, 102, 105, 110, 105, 116, 121]))] tI, .mv p7 q28 tI] (.sj v66_4 (.sO [.mv p29 q7 tI, .bn p30 .lss (ci 3) q29 .b, .mv p31 q30 .b, .ge p31 (XL.of [.G p31 true p32 (.mov q7) tI, .G p31 true p33 (.bin .lss q32 (ci 8)) .b, .P p34 (.pick q31 q33 (cb false)) .b]) p34 .b] (.cond q34 (.s (.oX [.mv p7 (ci 3) tI])) (.s .skip))) c66_4)) c66_3)
def v66_6 : List Pos := [p0, p5]
def c66_6 : XC := (.sO [.mv p6 (ci 1) tI] (.s (.oX [.mv p25 q0 .s, .P p26 (.slice .str q25 (some (ci 1)) none none) .s, .mv p0 q26 .s])))
def v66_5 : List Pos := [p0, p5]
def c66_5 : XC := (.sj v66_6 (.sO [.mv p22 q0 .s, .P p23 (.idxs q22 (ci 0)) tC, .bn p24 .eql q23 (.c (.int .u8 (.ofNat 45))) .b] (.cond q24 (.s (.oX [.mv p5 (.c (.int .i64 (.negSucc 0))) tI])) (.s .skip))) c66_6)
def v66_7 : List Pos := []
def c66_7 : XC := (.s (.exit 0))
def v66_10 : List Pos := [p0, p19]
def c66_10 : XC := (.cond q19 (.s (.exit 3)) (.s .skip))
def v66_9 : List Pos := [p0, p12]
def c66_9 : XC := (.sj v66_10 (.sO [.bn p20 .eql q12 (.c (.int .u8 (.ofNat 110))) .b, .mv p19 q20 .b] (.cond q19 (.s .skip) (.s (.oX [.bn p21 .eql q12 (.c (.int .u8 (.ofNat 78))) .b, .mv p19 q21 .b])))) c66_10)
def v66_11 : List Pos := [p0, p5, p6, p12, p16]
def c66_11 : XC := (.cond q16 (.s (.exit 2)) (.s .skip))
def v66_8 : List Pos := [p0, p5, p6, p12]
def c66_8 : XC := (.sj v66_9 (.sj v66_11 (.sO [.bn p17 .eql q12 (.c (.int .u8 (.ofNat 105))) .b, .mv p16 q17 .b] (.cond q16 (.s .skip) (.s (.oX [.bn p18 .eql q12 (.c (.int .u8 (.ofNat 73))) .b, .mv p16 q18 .b])))) c66_11) c66_9)
def v66_12 : List Pos := [p0, p5, p6, p12, p13]
def c66_12 : XC := (.cond q13 (.s (.exit 1)) (.s .skip))
def c66_e : XC := (.sO [.mv p2 (.c (.flt .f64 0)) .v, .mv p3 (ci 0) tI, .mv p4 (cb false) .b] (.seq (.seq (.oX [.mv p8 q0 .s, .P p9 (.lens q8) tI, .bn p10 .eql q9 (ci 0) .b]) (.cond q10 (.seq (.oX [.mv p2 (.c (.flt .f64 0)) .v, .mv p3 (ci 0) tI, .mv p4 (cb false) .b]) .ret) .skip)) (.sO [.mv p5 (ci 1) tI] (.sO [.mv p6 (ci 0) tI] (.sj v66_0 (.sO [.mv p11 q0 .s, .P p12 (.idxs q11 (ci 0)) tC] (.block 0 (.sj v66_1 (.block 3 (.sj v66_2 (.block 2 (.sj v66_5 (.block 1 (.sj v66_7 (.sj v66_8 (.sj v66_12 (.sO [.bn p14 .eql q12 (.c (.int .u8 (.ofNat 43))) .b, .mv p13 q14 .b] (.cond q13 (.s .skip) (.s (.oX [.bn p15 .eql q12 (.c (.int .u8 (.ofNat 45))) .b, .mv p13 q15 .b])))) c66_12) c66_8) c66_7)) c66_5)) c66_2)) c66_1))) c66_0)))))
def x66 : XFn := ⟨[.s], false, [(.tmp p2), (.tmp p3), (.tmp p4)], c66_e⟩
def e66_0 (k h) := kN k [] h
def S66_0 (D : CallD) (m : Nat) (h : HP) : Res2 :=
 some (.ret (.tup [((.flt .f64 0) : AV), (vI (Int.ofNat 0)), (vB false)]) h, .no)
def e66_1 (k t0 h) := kN k [(p0, (vS t0))] h
def S66_1 (D : CallD) (m : Nat) (t0 : LN) (h : HP) : Res2 :=
 cal D 81 [(vS t0), (vS ([110, 97, 110] : LN))] h fun t47 h14 =>
 asI .i64 t47 fun t47a =>
 let t48 := eqQ t47a (Int.ofNat 3)
 br t48 (
 cal D 83 [] h14 fun t49 h15 =>
 some (.ret (.tup [t49, (vI (Int.ofNat 3)), (vB true)]) h15, .no)) (
 S66_0 D m h14)
def e66_3 (k h) := kN k [] h
def S66_3 (D : CallD) (m : Nat) (h : HP) : Res2 :=
 S66_0 D m h
def e66_4 (k t5 t6 t7 h) := kN k [(p5, (vI t5)), (p6, (vI t6)), (p7, (vI t7))] h
def S66_4 (D : CallD) (m : Nat) (t5 t6 t7 : Int) (h : HP) : Res2 :=
 let t36 := eqQ t7 (Int.ofNat 3)
 obB (brV t36 (
 some (vB true)) (
 let t39 := eqQ t7 (Int.ofNat 8)
 some (vB t39))) fun t40 =>
 br t40 (
 cal D 82 [(vI t5)] h fun t42 h17 =>
 let t45 := wrQ .i64 (addQ t6 t7)
 some (.ret (.tup [t42, (vI t45), (vB true)]) h17, .no)) (
 S66_3 D m h)
def e66_2 (k t0 t5 t6 h) := kN k [(p0, (vS t0)), (p5, (vI t5)), (p6, (vI t6))] h
def S66_2 (D : CallD) (m : Nat) (t0 : LN) (t5 t6 : Int) (h : HP) : Res2 :=
 cal D 81 [(vS t0), (vS ([105, 110, 102, 105, 110, 105, 116, 121] : LN))] h fun t28 h16 =>
 asI .i64 t28 fun t28a =>
 let t30 := ltQ (Int.ofNat 3) t28a
 obB (brV t30 (
 let t33 := ltQ t28a (Int.ofNat 8)
 some (vB t33)) (
 some (vB false))) fun t34 =>
 br t34 (
 S66_4 D m t5 t6 (Int.ofNat 3) h16) (
 S66_4 D m t5 t6 t28a h16)
def e66_6 (k t0 t5 h) := kN k [(p0, (vS t0)), (p5, (vI t5))] h
def S66_6 (D : CallD) (m : Nat) (t0 : LN) (t5 : Int) (h : HP) : Res2 :=
 slC (vS t0) (some (vI (Int.ofNat 1))) none fun vt26 => asS vt26 fun t26 =>
 S66_2 D m t26 t5 (Int.ofNat 1) h
def e66_5 (k t0 t5 h) := kN k [(p0, (vS t0)), (p5, (vI t5))] h
def S66_5 (D : CallD) (m : Nat) (t0 : LN) (t5 : Int) (h : HP) : Res2 :=
 ixC (vS t0) (vI (Int.ofNat 0)) fun vt23 => asI .u8 vt23 fun t23 =>
 let t24 := eqQ t23 (Int.ofNat 45)
 br t24 (
 S66_6 D m t0 (Int.negSucc 0) h) (
 S66_6 D m t0 t5 h)
def e66_7 (k h) := kN k [] h
def S66_7 (D : CallD) (m : Nat) (h : HP) : Res2 :=
 S66_0 D m h
def e66_10 (k t0 t19 h) := kN k [(p0, (vS t0)), (p19, (vB t19))] h
def S66_10 (D : CallD) (m : Nat) (t0 : LN) (t19 : Bool) (h : HP) : Res2 :=
 br t19 (
 S66_1 D m t0 h) (
 S66_7 D m h)
def e66_9 (k t0 t12 h) := kN k [(p0, (vS t0)), (p12, (vC t12))] h
def S66_9 (D : CallD) (m : Nat) (t0 : LN) (t12 : Int) (h : HP) : Res2 :=
 let t20 := eqQ t12 (Int.ofNat 110)
 br t20 (
 S66_10 D m t0 t20 h) (
 let t21 := eqQ t12 (Int.ofNat 78)
 S66_10 D m t0 t21 h)
def e66_11 (k t0 t5 t6 t12 t16 h) := kN k [(p0, (vS t0)), (p5, (vI t5)), (p6, (vI t6)), (p12, (vC t12)), (p16, (vB t16))] h
def S66_11 (D : CallD) (m : Nat) (t0 : LN) (t5 t6 t12 : Int) (t16 : Bool) (h : HP) : Res2 :=
 br t16 (
 S66_2 D m t0 t5 t6 h) (
 S66_9 D m t0 t12 h)
def e66_8 (k t0 t5 t6 t12 h) := kN k [(p0, (vS t0)), (p5, (vI t5)), (p6, (vI t6)), (p12, (vC t12))] h
def S66_8 (D : CallD) (m : Nat) (t0 : LN) (t5 t6 t12 : Int) (h : HP) : Res2 :=
 let t17 := eqQ t12 (Int.ofNat 105)
 br t17 (
 S66_11 D m t0 t5 t6 t12 t17 h) (
 let t18 := eqQ t12 (Int.ofNat 73)
 S66_11 D m t0 t5 t6 t12 t18 h)
def e66_12 (k t0 t5 t6 t12 t13 h) := kN k [(p0, (vS t0)), (p5, (vI t5)), (p6, (vI t6)), (p12, (vC t12)), (p13, (vB t13))] h
def S66_12 (D : CallD) (m : Nat) (t0 : LN) (t5 t6 t12 : Int) (t13 : Bool) (h : HP) : Res2 :=
 br t13 (
 S66_5 D m t0 t5 h) (
 S66_8 D m t0 t5 t6 t12 h)
def e66_13 (k t0 h) := kN k [(p0, (vS t0))] h
def S66_13 (D : CallD) (m : Nat) (t0 : LN) (h : HP) : Res2 :=
 let t9 := Int.ofNat (lenL t0)
 let t10 := eqQ t9 (Int.ofNat 0)
 br t10 (
 some (.ret (.tup [((.flt .f64 0) : AV), (vI (Int.ofNat 0)), (vB false)]) h, .no)) (
 ixC (vS t0) (vI (Int.ofNat 0)) fun vt12 => asI .u8 vt12 fun t12 =>
 let t14 := eqQ t12 (Int.ofNat 43)
 br t14 (
 S66_12 D m t0 (Int.ofNat 1) (Int.ofNat 0) t12 t14 h) (
 let t15 := eqQ t12 (Int.ofNat 45)
 S66_12 D m t0 (Int.ofNat 1) (Int.ofNat 0) t12 t15 h))
def S66 : SFn := fun D m args h u => nou u <| popS args fun t0 args => endA args (S66_13 D m t0 h)
theorem T66_0 (hE : FX x66 D m E) : S66_0 D m = e66_0 (E c66_0 []) := by unfold S66_0; rw [hE c66_0]; kernel_rfl
theorem T66_1 (hE : FX x66 D m E) : S66_1 D m = e66_1 (E c66_1 [.blk 0, .sj v66_0 c66_0]) := by unfold S66_1; rw [T66_0 hE, hE c66_1]; kernel_rfl
theorem T66_3 (hE : FX x66 D m E) : S66_3 D m = e66_3 (E c66_3 [.blk 3, .sj v66_1 c66_1, .blk 0, .sj v66_0 c66_0]) := by unfold S66_3; rw [T66_0 hE, hE c66_3]; kernel_rfl
theorem T66_4 (hE : FX x66 D m E) : S66_4 D m = e66_4 (E c66_4 [.sj v66_3 c66_3, .blk 3, .sj v66_1 c66_1, .blk 0, .sj v66_0 c66_0]) := by unfold S66_4; rw [T66_3 hE, hE c66_4]; kernel_rfl
theorem T66_2 (hE : FX x66 D m E) : S66_2 D m = e66_2 (E c66_2 [.blk 3, .sj v66_1 c66_1, .blk 0, .sj v66_0 c66_0]) := by unfold S66_2; rw [T66_4 hE, hE c66_2]; kernel_rfl
theorem T66_6 (hE : FX x66 D m E) : S66_6 D m = e66_6 (E c66_6 [.blk 2, .sj v66_2 c66_2, .blk 3, .sj v66_1 c66_1, .blk 0, .sj v66_0 c66_0]) := by unfold S66_6; rw [T66_2 hE, hE c66_6]; kernel_rfl
theorem T66_5 (hE : FX x66 D m E) : S66_5 D m = e66_5 (E c66_5 [.blk 2, .sj v66_2 c66_2, .blk 3, .sj v66_1 c66_1, .blk 0, .sj v66_0 c66_0]) := by unfold S66_5; rw [T66_6 hE, hE c66_5]; kernel_rfl
theorem T66_7 (hE : FX x66 D m E) : S66_7 D m = e66_7 (E c66_7 [.blk 1, .sj v66_5 c66_5, .blk 2, .sj v66_2 c66_2, .blk 3, .sj v66_1 c66_1, .blk 0, .sj v66_0 c66_0]) := by unfold S66_7; rw [T66_0 hE, hE c66_7]; kernel_rfl
theorem T66_10 (hE : FX x66 D m E) : S66_10 D m = e66_10 (E c66_10 [.sj v66_7 c66_7, .blk 1, .sj v66_5 c66_5, .blk 2, .sj v66_2 c66_2, .blk 3, .sj v66_1 c66_1, .blk 0, .sj v66_0 c66_0]) := by unfold S66_10; rw [T66_1 hE, T66_7 hE, hE c66_10]; kernel_rfl
theorem T66_9 (hE : FX x66 D m E) : S66_9 D m = e66_9 (E c66_9 [.sj v66_7 c66_7, .blk 1, .sj v66_5 c66_5, .blk 2, .sj v66_2 c66_2, .blk 3, .sj v66_1 c66_1, .blk 0, .sj v66_0 c66_0]) := by unfold S66_9; rw [T66_10 hE, hE c66_9]; kernel_rfl
theorem T66_11 (hE : FX x66 D m E) : S66_11 D m = e66_11 (E c66_11 [.sj v66_9 c66_9, .sj v66_7 c66_7, .blk 1, .sj v66_5 c66_5, .blk 2, .sj v66_2 c66_2, .blk 3, .sj v66_1 c66_1, .blk 0, .sj v66_0 c66_0]) := by unfold S66_11; rw [T66_2 hE, T66_9 hE, hE c66_11]; kernel_rfl
theorem T66_8 (hE : FX x66 D m E) : S66_8 D m = e66_8 (E c66_8 [.sj v66_7 c66_7, .blk 1, .sj v66_5 c66_5, .blk 2, .sj v66_2 c66_2, .blk 3, .sj v66_1 c66_1, .blk 0, .sj v66_0 c66_0]) := by unfold S66_8; rw [T66_11 hE, hE c66_8]; kernel_rfl
theorem T66_12 (hE : FX x66 D m E) : S66_12 D m = e66_12 (E c66_12 [.sj v66_8 c66_8, .sj v66_7 c66_7, .blk 1, .sj v66_5 c66_5, .blk 2, .sj v66_2 c66_2, .blk 3, .sj v66_1 c66_1, .blk 0, .sj v66_0 c66_0]) := by unfold S66_12; rw [T66_5 hE, T66_8 hE, hE c66_12]; kernel_rfl
theorem T66_13 (hE : FX x66 D m E) : S66_13 D m = e66_13 (E c66_e []) := by unfold S66_13; rw [T66_12 hE, hE c66_e]; kernel_rfl
theorem X66 : XTie S66 x66 := X_of fun D m E hE args h u => by unfold S66; rw [T66_13 hE]; kernel_rfl
/- 67 -/
def v67_7 : List Pos := [p2, p3, p4, p5, p6, p7]
def c67_7 : XC := (.sO [.mv p8 (cb true) .b] (.s .ret))
def c67_9 : XC := (.cond q252 (.s .ret) (.s .skip))
def l67_8 : XL := (XL.of [])
def v67_6 : List Pos := [p0, p2, p3, p4, p5, p6, p7, p8, p9]
def c67_6 : XC := (.sj v67_7 (.opq false (XL.pre [.mv p245 q9 .b, .mv p246 q245 .b, .sp p246, .G p246 true p247 (.mov q0) .s, .G p246 true p248 (.mov q7) tI, .G p246 true p249 (.slice .str q247 none (some q248) none) .s, .o ⟨(some p250), (.call (.fn 45) [q249]), (some (p246, true)), []⟩ .b, .G p246 true p251 (.un .not q250) .b, .P p252 (.pick q246 q251 (cb false)) .b, .jn p246 [p2, p3, p4, p5, p6, p7, p8, p252]] l67_8) c67_9) c67_7)
def v67_5 : List Pos := [p0, p2, p3, p4, p5, p6, p7, p8, p9, p16, p17]
def c67_5 : XC := (.sj v67_6 (.sO [.mv p240 q2 (.i .u64), .bn p241 .neq q240 (.c (.int .u64 (.ofNat 0))) .b] (.cond q241 (.s (.oX [.mv p242 q17 tI, .mv p243 q16 tI, .bn p244 .sub q242 q243 tI, .mv p3 q244 tI])) (.s .skip))) c67_6)
def v67_12 : List Pos := [p0, p2, p3, p4, p5, p6, p7, p8, p9, p16, p17, p19, p20]
def c67_12 : XC := (.s (.oX [.mv p233 q17 tI, .mv p234 q20 tI, .mv p235 q19 tI, .bn p236 .mul q234 q235 tI, .bn p237 .add q233 q236 tI, .mv p17 q237 tI]))
def v67_14 : List Pos := [p0, p2, p3, p4, p5, p6, p7, p8, p9, p16, p17, p19, p20]
def c67_14 : XC := (.s (.oX [.mv p217 q7 tI, .bn p218 .add q217 (ci 1) tI, .mv p7 q218 tI]))
def v67_13 : List Pos := [p0, p2, p3, p4, p5, p6, p7, p8, p9, p16, p17, p19, p20]
def c67_13b : XC := (.seq (.seq (.oX [.mv p195 q7 tI, .mv p196 q0 .s, .P p197 (.lens q196) tI, .bn p198 .lss q195 q197 .b, .mv p199 q198 .b, .ge p199 (XL.of [.G p199 true p200 (.mov q0) .s, .G p199 true p201 (.mov q7) tI, .G p199 true p202 (.idxs q200 q201) tC, .G p199 true p203 (.bin .leq (.c (.int .u8 (.ofNat 48))) q202) .b, .G p199 true p204 (.mov q203) .b, .ge p204 (XL.of [.G p204 true p205 (.mov q0) .s, .G p204 true p206 (.mov q7) tI, .G p204 true p207 (.idxs q205 q206) tC, .G p204 true p208 (.bin .leq q207 (.c (.int .u8 (.ofNat 57)))) .b, .G p199 true p209 (.pick q204 q208 (cb false)) .b]) p209 .b, .G p199 true p210 (.mov q209) .b, .ge p210 (XL.of [.G p210 false p211 (.mov q0) .s, .G p210 false p212 (.mov q7) tI, .G p210 false p213 (.idxs q211 q212) tC, .G p210 false p214 (.bin .eql q213 (.c (.int .u8 (.ofNat 95)))) .b, .G p199 true p215 (.pick q210 (cb true) q214) .b]) p215 .b, .P p216 (.pick q199 q215 (cb false)) .b]) p216 .b]) (.cond q216 .skip (.exit 5))) (.sj v67_14 (.block 6 (.seq (.seq (.oX [.mv p219 q0 .s, .mv p220 q7 tI, .P p221 (.idxs q219 q220) tC, .bn p222 .eql q221 (.c (.int .u8 (.ofNat 95))) .b]) (.cond q222 (.seq (.oX [.mv p9 (cb true) .b]) (.exit 6)) .skip)) (.sO [.mv p223 q20 tI, .bn p224 .lss q223 (ci 10000) .b] (.cond q224 (.s (.oX [.mv p225 q20 tI, .bn p226 .mul q225 (ci 10) tI, .mv p227 q0 .s, .mv p228 q7 tI, .P p229 (.idxs q227 q228) tC, .P p230 (.conv (.ii .i64) q229) tI, .bn p231 .add q226 q230 tI, .bn p232 .sub q231 (ci 48) tI, .mv p20 q232 tI])) (.s .skip))))) c67_14))
def v67_11 : List Pos := [p0, p2, p3, p4, p5, p6, p7, p8, p9, p16, p17, p19]
def c67_11 : XC := (.seq (.seq (.oX [.mv p179 q7 tI, .mv p180 q0 .s, .P p181 (.lens q180) tI, .bn p182 .geq q179 q181 .b, .mv p183 q182 .b, .ge p183 (XL.of [.G p183 false p184 (.mov q0) .s, .G p183 false p185 (.mov q7) tI, .G p183 false p186 (.idxs q184 q185) tC, .G p183 false p187 (.bin .lss q186 (.c (.int .u8 (.ofNat 48)))) .b, .P p188 (.pick q183 (cb true) q187) .b]) p188 .b, .mv p189 q188 .b, .ge p189 (XL.of [.G p189 false p190 (.mov q0) .s, .G p189 false p191 (.mov q7) tI, .G p189 false p192 (.idxs q190 q191) tC, .G p189 false p193 (.bin .gtr q192 (.c (.int .u8 (.ofNat 57)))) .b, .P p194 (.pick q189 (cb true) q193) .b]) p194 .b]) (.cond q194 .ret .skip)) (.sO [.mv p20 (ci 0) tI] (.sj v67_12 (.block 5 (.loop v67_13 c67_13b)) c67_12)))
def c67_15 : XC := (.cond q161 (.sO [.mv p162 q7 tI, .bn p163 .add q162 (ci 1) tI, .mv p7 q163 tI] (.seq (.seq (.oX [.mv p164 q7 tI, .mv p165 q0 .s, .P p166 (.lens q165) tI, .bn p167 .geq q164 q166 .b]) (.cond q167 .ret .skip)) (.sO [.mv p19 (ci 1) tI] (.sj v67_11 (.sO [.mv p168 q0 .s, .mv p169 q7 tI, .P p170 (.idxs q168 q169) tC] (.block 4 (.sO [.bn p172 .eql q170 (.c (.int .u8 (.ofNat 43))) .b, .mv p171 q172 .b] (.cond q171 (.s (.oX [.mv p173 q7 tI, .bn p174 .add q173 (ci 1) tI, .mv p7 q174 tI])) (.sO [.bn p176 .eql q170 (.c (.int .u8 (.ofNat 45))) .b, .mv p175 q176 .b] (.cond q175 (.sO [.mv p177 q7 tI, .bn p178 .add q177 (ci 1) tI, .mv p7 q178 tI] (.s (.oX [.mv p19 (.c (.int .i64 (.negSucc 0))) tI]))) (.s .skip))))))) c67_11)))) (.sO [.mv p238 q10 (.i .u64), .bn p239 .eql q238 (.c (.int .u64 (.ofNat 16))) .b] (.cond q239 (.s .ret) (.s .skip))))
def l67_10 : XL := (XL.of [])
def v67_4 : List Pos := [p0, p2, p3, p4, p5, p6, p7, p8, p9, p10, p12, p16, p17]
def c67_4 : XC := (.sj v67_5 (.opq false (XL.pre [.mv p150 q7 tI, .mv p151 q0 .s, .P p152 (.lens q151) tI, .bn p153 .lss q150 q152 .b, .mv p154 q153 .b, .sp p154, .G p154 true p155 (.mov q0) .s, .G p154 true p156 (.mov q7) tI, .G p154 true p157 (.idxs q155 q156) tC, .o ⟨(some p158), (.call (.fn 44) [q157]), (some (p154, true)), []⟩ tC, .G p154 true p159 (.mov q12) tC, .G p154 true p160 (.bin .eql q158 q159) .b, .P p161 (.pick q154 q160 (cb false)) .b, .jn p154 [p0, p2, p3, p4, p5, p6, p7, p8, p9, p10, p16, p17, p161]] l67_10) c67_15) c67_5)
def v67_3 : List Pos := [p0, p2, p3, p4, p5, p6, p7, p8, p9, p10, p12, p16, p17]
def c67_3 : XC := (.sj v67_4 (.sO [.mv p144 q10 (.i .u64), .bn p145 .eql q144 (.c (.int .u64 (.ofNat 16))) .b] (.cond q145 (.sO [.mv p146 q17 tI, .bn p147 .mul q146 (ci 4) tI, .mv p17 q147 tI] (.s (.oX [.mv p148 q16 tI, .bn p149 .mul q148 (ci 4) tI, .mv p16 q149 tI]))) (.s .skip))) c67_4)
def v67_2 : List Pos := [p0, p2, p3, p4, p5, p6, p7, p8, p9, p10, p12, p13, p14, p15, p16, p17]
def c67_2 : XC := (.seq (.seq (.oX [.mv p139 q14 .b, .P p140 (.un .not q139) .b]) (.cond q140 .ret .skip)) (.sj v67_3 (.sO [.mv p141 q13 .b, .P p142 (.un .not q141) .b] (.cond q142 (.s (.oX [.mv p143 q15 tI, .mv p17 q143 tI])) (.s .skip))) c67_3))
def v67_17 : List Pos := [p0, p2, p3, p4, p5, p6, p7, p8, p9, p10, p11, p12, p13, p14, p15, p16, p17]
def c67_17 : XC := (.s (.oX [.mv p61 q7 tI, .bn p62 .add q61 (ci 1) tI, .mv p7 q62 tI]))
def v67_18 : List Pos := [p0, p2, p3, p4, p5, p6, p7, p8, p9, p10, p12, p13, p14, p15, p16, p17]
def c67_18 : XC := (.s (.exit 1))
def v67_19 : List Pos := [p0, p2, p3, p4, p5, p6, p7, p8, p9, p10, p11, p12, p13, p14, p15, p16, p17]
def c67_19 : XC := (.s (.exit 2))
def v67_22 : List Pos := [p0, p2, p3, p4, p5, p6, p7, p8, p9, p10, p11, p12, p13, p14, p15, p16, p17]
def c67_22 : XC := (.s (.exit 2))
def c67_23 : XC := (.cond q109 (.sO [.mv p14 (cb true) .b] (.sO [.mv p123 q15 tI, .bn p124 .add q123 (ci 1) tI, .mv p15 q124 tI] (.sj v67_22 (.sO [.mv p125 q16 tI, .mv p126 q11 tI, .bn p127 .lss q125 q126 .b] (.cond q127 (.sO [.mv p128 q2 (.i .u64), .bn p129 .mul q128 (.c (.int .u64 (.ofNat 16))) (.i .u64), .mv p2 q129 (.i .u64)] (.sO [.mv p130 q2 (.i .u64), .mv p131 q18 tC, .cl p132 44 [q131] tC, .bn p133 .sub q132 (.c (.int .u8 (.ofNat 97))) tC, .bn p134 .add q133 (.c (.int .u8 (.ofNat 10))) tC, .P p135 (.conv (.ii .u64) q134) (.i .u64), .bn p136 .add q130 q135 (.i .u64), .mv p2 q136 (.i .u64)] (.s (.oX [.mv p137 q16 tI, .bn p138 .add q137 (ci 1) tI, .mv p16 q138 tI])))) (.s (.oX [.mv p5 (cb true) .b])))) c67_22))) (.s .skip))
def l67_21 : XL := (XL.of [.P p122 (.eqb false (cb true) q121) .b, .mv p109 q122 .b])
def l67_20 : XL := (XL.pre [.mv p117 q116 .b, .sp p117, .G p117 true p118 (.mov q18) tC, .o ⟨(some p119), (.call (.fn 44) [q118]), (some (p117, true)), []⟩ tC, .G p117 true p120 (.bin .leq q119 (.c (.int .u8 (.ofNat 102)))) .b, .P p121 (.pick q117 q120 (cb false)) .b, .jn p117 [p0, p2, p3, p4, p5, p6, p7, p8, p9, p10, p11, p12, p13, p14, p15, p16, p17, p18, p121]] l67_21)
def v67_16 : List Pos := [p0, p2, p3, p4, p5, p6, p7, p8, p9, p10, p11, p12, p13, p14, p15, p16, p17]
def c67_16b : XC := (.seq (.seq (.oX [.mv p57 q7 tI, .mv p58 q0 .s, .P p59 (.lens q58) tI, .bn p60 .lss q57 q59 .b]) (.cond q60 .skip (.exit 1))) (.sj v67_17 (.block 2 (.sj v67_18 (.sO [.mv p63 q0 .s, .mv p64 q7 tI, .P p65 (.idxs q63 q64) tC, .mv p18 q65 tC] (.block 3 (.sO [.mv p67 q18 tC, .bn p68 .eql q67 (.c (.int .u8 (.ofNat 95))) .b, .P p69 (.eqb false (cb true) q68) .b, .mv p66 q69 .b] (.cond q66 (.sO [.mv p9 (cb true) .b] (.s (.exit 2))) (.sO [.mv p71 q18 tC, .bn p72 .eql q71 (.c (.int .u8 (.ofNat 46))) .b, .P p73 (.eqb false (cb true) q72) .b, .mv p70 q73 .b] (.cond q70 (.seq (.seq (.oX [.mv p74 q13 .b]) (.cond q74 (.exit 1) .skip)) (.sO [.mv p13 (cb true) .b] (.sO [.mv p75 q15 tI, .mv p17 q75 tI] (.s (.exit 2))))) (.sO [.mv p77 q18 tC, .bn p78 .leq (.c (.int .u8 (.ofNat 48))) q77 .b, .mv p79 q78 .b, .ge p79 (XL.of [.G p79 true p80 (.mov q18) tC, .G p79 true p81 (.bin .leq q80 (.c (.int .u8 (.ofNat 57)))) .b, .P p82 (.pick q79 q81 (cb false)) .b]) p82 .b, .P p83 (.eqb false (cb true) q82) .b, .mv p76 q83 .b] (.cond q76 (.sO [.mv p14 (cb true) .b] (.seq (.seq (.oX [.mv p84 q18 tC, .bn p85 .eql q84 (.c (.int .u8 (.ofNat 48))) .b, .mv p86 q85 .b, .ge p86 (XL.of [.G p86 true p87 (.mov q15) tI, .G p86 true p88 (.bin .eql q87 (ci 0)) .b, .P p89 (.pick q86 q88 (cb false)) .b]) p89 .b]) (.cond q89 (.seq (.oX [.mv p90 q17 tI, .bn p91 .sub q90 (ci 1) tI, .mv p17 q91 tI]) (.exit 2)) .skip)) (.sO [.mv p92 q15 tI, .bn p93 .add q92 (ci 1) tI, .mv p15 q93 tI] (.sj v67_19 (.sO [.mv p94 q16 tI, .mv p95 q11 tI, .bn p96 .lss q94 q95 .b] (.cond q96 (.sO [.mv p97 q2 (.i .u64), .mv p98 q10 (.i .u64), .bn p99 .mul q97 q98 (.i .u64), .mv p2 q99 (.i .u64)] (.sO [.mv p100 q2 (.i .u64), .mv p101 q18 tC, .bn p102 .sub q101 (.c (.int .u8 (.ofNat 48))) tC, .P p103 (.conv (.ii .u64) q102) (.i .u64), .bn p104 .add q100 q103 (.i .u64), .mv p2 q104 (.i .u64)] (.s (.oX [.mv p105 q16 tI, .bn p106 .add q105 (ci 1) tI, .mv p16 q106 tI])))) (.sO [.mv p107 q18 tC, .bn p108 .neq q107 (.c (.int .u8 (.ofNat 48))) .b] (.cond q108 (.s (.oX [.mv p5 (cb true) .b])) (.s .skip))))) c67_19)))) (.opq false (XL.pre [.mv p110 q10 (.i .u64), .bn p111 .eql q110 (.c (.int .u64 (.ofNat 16))) .b, .mv p112 q111 .b, .sp p112, .G p112 true p113 (.mov q18) tC, .o ⟨(some p114), (.call (.fn 44) [q113]), (some (p112, true)), []⟩ tC, .G p112 true p115 (.bin .leq (.c (.int .u8 (.ofNat 97))) q114) .b, .P p116 (.pick q112 q115 (cb false)) .b, .jn p112 [p0, p2, p3, p4, p5, p6, p7, p8, p9, p10, p11, p12, p13, p14, p15, p16, p17, p18, p116]] l67_20) c67_23))))))))) c67_18)) c67_17))
def v67_1 : List Pos := [p0, p2, p3, p4, p5, p6, p7, p8, p9, p10, p11, p12]
def c67_1 : XC := (.sO [.mv p13 (cb false) .b] (.sO [.mv p14 (cb false) .b] (.sO [.mv p15 (ci 0) tI] (.sO [.mv p16 (ci 0) tI] (.sO [.mv p17 (ci 0) tI] (.seq .skip (.sj v67_2 (.block 1 (.loop v67_16 c67_16b)) c67_2)))))))
def c67_25 : XC := (.cond q54 (.sO [.mv p10 (.c (.int .u64 (.ofNat 16))) (.i .u64)] (.sO [.mv p11 (ci 16) tI] (.sO [.mv p55 q7 tI, .bn p56 .add q55 (ci 2) tI, .mv p7 q56 tI] (.sO [.mv p12 (.c (.int .u8 (.ofNat 112))) tC] (.s (.oX [.mv p6 (cb true) .b])))))) (.s .skip))
def l67_24 : XL := (XL.of [])
def v67_0 : List Pos := [p0, p2, p3, p4, p5, p6, p7, p8, p9]
def c67_0 : XC := (.sO [.mv p10 (.c (.int .u64 (.ofNat 10))) (.i .u64)] (.sO [.mv p11 (ci 19) tI] (.sO [.mv p12 (.c (.int .u8 (.ofNat 101))) tC] (.sj v67_1 (.opq false (XL.pre [.mv p36 q7 tI, .bn p37 .add q36 (ci 2) tI, .mv p38 q0 .s, .P p39 (.lens q38) tI, .bn p40 .lss q37 q39 .b, .mv p41 q40 .b, .ge p41 (XL.of [.G p41 true p42 (.mov q0) .s, .G p41 true p43 (.mov q7) tI, .G p41 true p44 (.idxs q42 q43) tC, .G p41 true p45 (.bin .eql q44 (.c (.int .u8 (.ofNat 48)))) .b, .P p46 (.pick q41 q45 (cb false)) .b]) p46 .b, .mv p47 q46 .b, .sp p47, .G p47 true p48 (.mov q0) .s, .G p47 true p49 (.mov q7) tI, .G p47 true p50 (.bin .add q49 (ci 1)) tI, .G p47 true p51 (.idxs q48 q50) tC, .o ⟨(some p52), (.call (.fn 44) [q51]), (some (p47, true)), []⟩ tC, .G p47 true p53 (.bin .eql q52 (.c (.int .u8 (.ofNat 120)))) .b, .P p54 (.pick q47 q53 (cb false)) .b, .jn p47 [p0, p2, p3, p4, p5, p6, p7, p8, p9, p10, p11, p12, p54]] l67_24) c67_25) c67_1))))
def c67_e : XC := (.sO [.mv p2 (.c (.int .u64 (.ofNat 0))) (.i .u64), .mv p3 (ci 0) tI, .mv p4 (cb false) .b, .mv p5 (cb false) .b, .mv p6 (cb false) .b, .mv p7 (ci 0) tI, .mv p8 (cb false) .b] (.scope (.sO [.mv p9 (cb false) .b] (.seq (.seq (.oX [.mv p21 q7 tI, .mv p22 q0 .s, .P p23 (.lens q22) tI, .bn p24 .geq q21 q23 .b]) (.cond q24 .ret .skip)) (.sj v67_0 (.sO [.mv p25 q0 .s, .mv p26 q7 tI, .P p27 (.idxs q25 q26) tC] (.block 0 (.sO [.bn p29 .eql q27 (.c (.int .u8 (.ofNat 43))) .b, .mv p28 q29 .b] (.cond q28 (.s (.oX [.mv p30 q7 tI, .bn p31 .add q30 (ci 1) tI, .mv p7 q31 tI])) (.sO [.bn p33 .eql q27 (.c (.int .u8 (.ofNat 45))) .b, .mv p32 q33 .b] (.cond q32 (.sO [.mv p34 q7 tI, .bn p35 .add q34 (ci 1) tI, .mv p7 q35 tI] (.s (.oX [.mv p4 (cb true) .b]))) (.s .skip))))))) c67_0)))))
def x67 : XFn := ⟨[.s], false, [(.tmp p2), (.tmp p3), (.tmp p4), (.tmp p5), (.tmp p6), (.tmp p7), (.tmp p8)], c67_e⟩
def e67_7 (k t2 t3 t4 t5 t6 t7 h) := kN k [(p2, (AV.int .u64 t2)), (p3, (vI t3)), (p4, (vB t4)), (p5, (vB t5)), (p6, (vB t6)), (p7, (vI t7))] h
def S67_7 (D : CallD) (m : Nat) (t2 t3 : Int) (t4 t5 t6 : Bool) (t7 : Int) (h : HP) : Res2 :=
 some (.ret (.tup [(AV.int .u64 t2), (vI t3), (vB t4), (vB t5), (vB t6), (vI t7), (vB true)]) h, .no)
def e67_8 (k t2 t3 t4 t5 t6 t7 t8 t252 h) := kN k [(p2, (AV.int .u64 t2)), (p3, (vI t3)), (p4, (vB t4)), (p5, (vB t5)), (p6, (vB t6)), (p7, (vI t7)), (p8, (vB t8)), (p252, (vB t252))] h
def S67_8 (D : CallD) (m : Nat) (t2 t3 : Int) (t4 t5 t6 : Bool) (t7 : Int) (t8 t252 : Bool) (h : HP) : Res2 :=
 br t252 (
 some (.ret (.tup [(AV.int .u64 t2), (vI t3), (vB t4), (vB t5), (vB t6), (vI t7), (vB t8)]) h, .no)) (
 S67_7 D m t2 t3 t4 t5 t6 t7 h)
def e67_6 (k t0 t2 t3 t4 t5 t6 t7 t8 t9 h) := kN k [(p0, (vS t0)), (p2, (AV.int .u64 t2)), (p3, (vI t3)), (p4, (vB t4)), (p5, (vB t5)), (p6, (vB t6)), (p7, (vI t7)), (p8, (vB t8)), (p9, (vB t9))] h
def S67_6 (D : CallD) (m : Nat) (t0 : LN) (t2 t3 : Int) (t4 t5 t6 : Bool) (t7 : Int) (t8 t9 : Bool) (h : HP) : Res2 :=
 br t9 (
 slC (vS t0) none (some (vI t7)) fun vt249 => asS vt249 fun t249 =>
 cal D 45 [(vS t249)] h fun t250 h27 =>
 asB t250 fun t250a =>
 let t251 := !t250a
 S67_8 D m t2 t3 t4 t5 t6 t7 t8 t251 h27) (
 S67_8 D m t2 t3 t4 t5 t6 t7 t8 false h)
def e67_5 (k t0 t2 t3 t4 t5 t6 t7 t8 t9 t16 t17 h) := kN k [(p0, (vS t0)), (p2, (AV.int .u64 t2)), (p3, (vI t3)), (p4, (vB t4)), (p5, (vB t5)), (p6, (vB t6)), (p7, (vI t7)), (p8, (vB t8)), (p9, (vB t9)), (p16, (vI t16)), (p17, (vI t17))] h
def S67_5 (D : CallD) (m : Nat) (t0 : LN) (t2 t3 : Int) (t4 t5 t6 : Bool) (t7 : Int) (t8 t9 : Bool) (t16 t17 : Int) (h : HP) : Res2 :=
 let t241 := notQ (eqQ t2 (Int.ofNat 0))
 br t241 (
 let t244 := wrQ .i64 (t17 - t16)
 S67_6 D m t0 t2 t244 t4 t5 t6 t7 t8 t9 h) (
 S67_6 D m t0 t2 t3 t4 t5 t6 t7 t8 t9 h)
def e67_12 (k t0 t2 t3 t4 t5 t6 t7 t8 t9 t16 t17 t19 t20 h) := kN k [(p0, (vS t0)), (p2, (AV.int .u64 t2)), (p3, (vI t3)), (p4, (vB t4)), (p5, (vB t5)), (p6, (vB t6)), (p7, (vI t7)), (p8, (vB t8)), (p9, (vB t9)), (p16, (vI t16)), (p17, (vI t17)), (p19, (vI t19)), (p20, (vI t20))] h
def S67_12 (D : CallD) (m : Nat) (t0 : LN) (t2 t3 : Int) (t4 t5 t6 : Bool) (t7 : Int) (t8 t9 : Bool) (t16 t17 t19 t20 : Int) (h : HP) : Res2 :=
 let t236 := wrQ .i64 (t20 * t19)
 let t237 := wrQ .i64 (addQ t17 t236)
 S67_5 D m t0 t2 t3 t4 t5 t6 t7 t8 t9 t16 t237 h
def e67_14 (k t0 t2 t3 t4 t5 t6 t7 t8 t9 t16 t17 t19 t20 h) := kN k [(p0, (vS t0)), (p2, (AV.int .u64 t2)), (p3, (vI t3)), (p4, (vB t4)), (p5, (vB t5)), (p6, (vB t6)), (p7, (vI t7)), (p8, (vB t8)), (p9, (vB t9)), (p16, (vI t16)), (p17, (vI t17)), (p19, (vI t19)), (p20, (vI t20))] h
def S67_14 (D : CallD) (m : Nat) (g13 : LN → Int → Int → Bool → Bool → Bool → Int → Bool → Bool → Int → Int → Int → Int → HP → Res2) (t0 : LN) (t2 t3 : Int) (t4 t5 t6 : Bool) (t7 : Int) (t8 t9 : Bool) (t16 t17 t19 t20 : Int) (h : HP) : Res2 :=
 let t218 := wrQ .i64 (addQ t7 (Int.ofNat 1))
 g13 t0 t2 t3 t4 t5 t6 t218 t8 t9 t16 t17 t19 t20 h
def e67_13 (k t0 t2 t3 t4 t5 t6 t7 t8 t9 t16 t17 t19 t20 h) := kN k [(p0, (vS t0)), (p2, (AV.int .u64 t2)), (p3, (vI t3)), (p4, (vB t4)), (p5, (vB t5)), (p6, (vB t6)), (p7, (vI t7)), (p8, (vB t8)), (p9, (vB t9)), (p16, (vI t16)), (p17, (vI t17)), (p19, (vI t19)), (p20, (vI t20))] h
def S67_13b (D : CallD) (m : Nat) (g13 : LN → Int → Int → Bool → Bool → Bool → Int → Bool → Bool → Int → Int → Int → Int → HP → Res2) (t0 : LN) (t2 t3 : Int) (t4 t5 t6 : Bool) (t7 : Int) (t8 t9 : Bool) (t16 t17 t19 t20 : Int) (h : HP) : Res2 :=
 let t197 := Int.ofNat (lenL t0)
 let t198 := ltQ t7 t197
 obB (brV t198 (
 ixCV (vS t0) (vI t7) fun vt202 => asIV .u8 vt202 fun t202 =>
 let t203 := leQ (Int.ofNat 48) t202
 obBV (brV t203 (
 ixCV (vS t0) (vI t7) fun vt207 => asIV .u8 vt207 fun t207 =>
 let t208 := leQ t207 (Int.ofNat 57)
 some (vB t208)) (
 some (vB false))) fun t209 =>
 obBV (brV t209 (
 some (vB true)) (
 ixCV (vS t0) (vI t7) fun vt213 => asIV .u8 vt213 fun t213 =>
 let t214 := eqQ t213 (Int.ofNat 95)
 some (vB t214))) fun t215 =>
 some (vB t215)) (
 some (vB false))) fun t216 =>
 br t216 (
 ixC (vS t0) (vI t7) fun vt221 => asI .u8 vt221 fun t221 =>
 let t222 := eqQ t221 (Int.ofNat 95)
 br t222 (
 S67_14 D m g13 t0 t2 t3 t4 t5 t6 t7 t8 true t16 t17 t19 t20 h) (
 let t224 := ltQ t20 (Int.ofNat 10000)
 br t224 (
 let t226 := wrQ .i64 (t20 * (Int.ofNat 10))
 ixC (vS t0) (vI t7) fun vt229 => asI .u8 vt229 fun t229 =>
 let t230 := wrapF .i64 t229
 let t231 := wrQ .i64 (addQ t226 t230)
 let t232 := wrQ .i64 (t231 - (Int.ofNat 48))
 S67_14 D m g13 t0 t2 t3 t4 t5 t6 t7 t8 t9 t16 t17 t19 t232 h) (
 S67_14 D m g13 t0 t2 t3 t4 t5 t6 t7 t8 t9 t16 t17 t19 t20 h))) (
 S67_12 D m t0 t2 t3 t4 t5 t6 t7 t8 t9 t16 t17 t19 t20 h)
def S67_13 (D : CallD) (m : Nat) : LN → Int → Int → Bool → Bool → Bool → Int → Bool → Bool → Int → Int → Int → Int → HP → Res2 := nrec (fun _ _ _ _ _ _ _ _ _ _ _ _ _ _ => none) (fun _ g => S67_13b D m g) m
def e67_11 (k t0 t2 t3 t4 t5 t6 t7 t8 t9 t16 t17 t19 h) := kN k [(p0, (vS t0)), (p2, (AV.int .u64 t2)), (p3, (vI t3)), (p4, (vB t4)), (p5, (vB t5)), (p6, (vB t6)), (p7, (vI t7)), (p8, (vB t8)), (p9, (vB t9)), (p16, (vI t16)), (p17, (vI t17)), (p19, (vI t19))] h
def S67_11 (D : CallD) (m : Nat) (t0 : LN) (t2 t3 : Int) (t4 t5 t6 : Bool) (t7 : Int) (t8 t9 : Bool) (t16 t17 t19 : Int) (h : HP) : Res2 :=
 let t181 := Int.ofNat (lenL t0)
 let t182 := leQ t181 t7
 obB (brV t182 (
 some (vB true)) (
 ixCV (vS t0) (vI t7) fun vt186 => asIV .u8 vt186 fun t186 =>
 let t187 := ltQ t186 (Int.ofNat 48)
 some (vB t187))) fun t188 =>
 obB (brV t188 (
 some (vB true)) (
 ixCV (vS t0) (vI t7) fun vt192 => asIV .u8 vt192 fun t192 =>
 let t193 := ltQ (Int.ofNat 57) t192
 some (vB t193))) fun t194 =>
 br t194 (
 some (.ret (.tup [(AV.int .u64 t2), (vI t3), (vB t4), (vB t5), (vB t6), (vI t7), (vB t8)]) h, .no)) (
 S67_13 D m t0 t2 t3 t4 t5 t6 t7 t8 t9 t16 t17 t19 (Int.ofNat 0) h)
def e67_10 (k t0 t2 t3 t4 t5 t6 t7 t8 t9 t10 t16 t17 t161 h) := kN k [(p0, (vS t0)), (p2, (AV.int .u64 t2)), (p3, (vI t3)), (p4, (vB t4)), (p5, (vB t5)), (p6, (vB t6)), (p7, (vI t7)), (p8, (vB t8)), (p9, (vB t9)), (p10, (AV.int .u64 t10)), (p16, (vI t16)), (p17, (vI t17)), (p161, (vB t161))] h
def S67_10 (D : CallD) (m : Nat) (t0 : LN) (t2 t3 : Int) (t4 t5 t6 : Bool) (t7 : Int) (t8 t9 : Bool) (t10 t16 t17 : Int) (t161 : Bool) (h : HP) : Res2 :=
 br t161 (
 let t163 := wrQ .i64 (addQ t7 (Int.ofNat 1))
 let t166 := Int.ofNat (lenL t0)
 let t167 := leQ t166 t163
 br t167 (
 some (.ret (.tup [(AV.int .u64 t2), (vI t3), (vB t4), (vB t5), (vB t6), (vI t163), (vB t8)]) h, .no)) (
 ixC (vS t0) (vI t163) fun vt170 => asI .u8 vt170 fun t170 =>
 let t172 := eqQ t170 (Int.ofNat 43)
 br t172 (
 let t174 := wrQ .i64 (addQ t163 (Int.ofNat 1))
 S67_11 D m t0 t2 t3 t4 t5 t6 t174 t8 t9 t16 t17 (Int.ofNat 1) h) (
 let t176 := eqQ t170 (Int.ofNat 45)
 br t176 (
 let t178 := wrQ .i64 (addQ t163 (Int.ofNat 1))
 S67_11 D m t0 t2 t3 t4 t5 t6 t178 t8 t9 t16 t17 (Int.negSucc 0) h) (
 S67_11 D m t0 t2 t3 t4 t5 t6 t163 t8 t9 t16 t17 (Int.ofNat 1) h)))) (
 let t239 := eqQ t10 (Int.ofNat 16)
 br t239 (
 some (.ret (.tup [(AV.int .u64 t2), (vI t3), (vB t4), (vB t5), (vB t6), (vI t7), (vB t8)]) h, .no)) (
 S67_5 D m t0 t2 t3 t4 t5 t6 t7 t8 t9 t16 t17 h))
def e67_4 (k t0 t2 t3 t4 t5 t6 t7 t8 t9 t10 t12 t16 t17 h) := kN k [(p0, (vS t0)), (p2, (AV.int .u64 t2)), (p3, (vI t3)), (p4, (vB t4)), (p5, (vB t5)), (p6, (vB t6)), (p7, (vI t7)), (p8, (vB t8)), (p9, (vB t9)), (p10, (AV.int .u64 t10)), (p12, (vC t12)), (p16, (vI t16)), (p17, (vI t17))] h
def S67_4 (D : CallD) (m : Nat) (t0 : LN) (t2 t3 : Int) (t4 t5 t6 : Bool) (t7 : Int) (t8 t9 : Bool) (t10 t12 t16 t17 : Int) (h : HP) : Res2 :=
 let t152 := Int.ofNat (lenL t0)
 let t153 := ltQ t7 t152
 br t153 (
 ixC (vS t0) (vI t7) fun vt157 => asI .u8 vt157 fun t157 =>
 cal D 44 [(vC t157)] h fun t158 h28 =>
 asI .u8 t158 fun t158a =>
 let t160 := eqQ t158a t12
 S67_10 D m t0 t2 t3 t4 t5 t6 t7 t8 t9 t10 t16 t17 t160 h28) (
 S67_10 D m t0 t2 t3 t4 t5 t6 t7 t8 t9 t10 t16 t17 false h)
def e67_3 (k t0 t2 t3 t4 t5 t6 t7 t8 t9 t10 t12 t16 t17 h) := kN k [(p0, (vS t0)), (p2, (AV.int .u64 t2)), (p3, (vI t3)), (p4, (vB t4)), (p5, (vB t5)), (p6, (vB t6)), (p7, (vI t7)), (p8, (vB t8)), (p9, (vB t9)), (p10, (AV.int .u64 t10)), (p12, (vC t12)), (p16, (vI t16)), (p17, (vI t17))] h
def S67_3 (D : CallD) (m : Nat) (t0 : LN) (t2 t3 : Int) (t4 t5 t6 : Bool) (t7 : Int) (t8 t9 : Bool) (t10 t12 t16 t17 : Int) (h : HP) : Res2 :=
 let t145 := eqQ t10 (Int.ofNat 16)
 br t145 (
 let t147 := wrQ .i64 (t17 * (Int.ofNat 4))
 let t149 := wrQ .i64 (t16 * (Int.ofNat 4))
 S67_4 D m t0 t2 t3 t4 t5 t6 t7 t8 t9 t10 t12 t149 t147 h) (
 S67_4 D m t0 t2 t3 t4 t5 t6 t7 t8 t9 t10 t12 t16 t17 h)
def e67_2 (k t0 t2 t3 t4 t5 t6 t7 t8 t9 t10 t12 t13 t14 t15 t16 t17 h) := kN k [(p0, (vS t0)), (p2, (AV.int .u64 t2)), (p3, (vI t3)), (p4, (vB t4)), (p5, (vB t5)), (p6, (vB t6)), (p7, (vI t7)), (p8, (vB t8)), (p9, (vB t9)), (p10, (AV.int .u64 t10)), (p12, (vC t12)), (p13, (vB t13)), (p14, (vB t14)), (p15, (vI t15)), (p16, (vI t16)), (p17, (vI t17))] h
def S67_2 (D : CallD) (m : Nat) (t0 : LN) (t2 t3 : Int) (t4 t5 t6 : Bool) (t7 : Int) (t8 t9 : Bool) (t10 t12 : Int) (t13 t14 : Bool) (t15 t16 t17 : Int) (h : HP) : Res2 :=
 let t140 := !t14
 br t140 (
 some (.ret (.tup [(AV.int .u64 t2), (vI t3), (vB t4), (vB t5), (vB t6), (vI t7), (vB t8)]) h, .no)) (
 let t142 := !t13
 br t142 (
 S67_3 D m t0 t2 t3 t4 t5 t6 t7 t8 t9 t10 t12 t16 t15 h) (
 S67_3 D m t0 t2 t3 t4 t5 t6 t7 t8 t9 t10 t12 t16 t17 h))
def e67_17 (k t0 t2 t3 t4 t5 t6 t7 t8 t9 t10 t11 t12 t13 t14 t15 t16 t17 h) := kN k [(p0, (vS t0)), (p2, (AV.int .u64 t2)), (p3, (vI t3)), (p4, (vB t4)), (p5, (vB t5)), (p6, (vB t6)), (p7, (vI t7)), (p8, (vB t8)), (p9, (vB t9)), (p10, (AV.int .u64 t10)), (p11, (vI t11)), (p12, (vC t12)), (p13, (vB t13)), (p14, (vB t14)), (p15, (vI t15)), (p16, (vI t16)), (p17, (vI t17))] h
def S67_17 (D : CallD) (m : Nat) (g16 : LN → Int → Int → Bool → Bool → Bool → Int → Bool → Bool → Int → Int → Int → Bool → Bool → Int → Int → Int → HP → Res2) (t0 : LN) (t2 t3 : Int) (t4 t5 t6 : Bool) (t7 : Int) (t8 t9 : Bool) (t10 t11 t12 : Int) (t13 t14 : Bool) (t15 t16 t17 : Int) (h : HP) : Res2 :=
 let t62 := wrQ .i64 (addQ t7 (Int.ofNat 1))
 g16 t0 t2 t3 t4 t5 t6 t62 t8 t9 t10 t11 t12 t13 t14 t15 t16 t17 h
def e67_18 (k t0 t2 t3 t4 t5 t6 t7 t8 t9 t10 t12 t13 t14 t15 t16 t17 h) := kN k [(p0, (vS t0)), (p2, (AV.int .u64 t2)), (p3, (vI t3)), (p4, (vB t4)), (p5, (vB t5)), (p6, (vB t6)), (p7, (vI t7)), (p8, (vB t8)), (p9, (vB t9)), (p10, (AV.int .u64 t10)), (p12, (vC t12)), (p13, (vB t13)), (p14, (vB t14)), (p15, (vI t15)), (p16, (vI t16)), (p17, (vI t17))] h
def S67_18 (D : CallD) (m : Nat) (g16 : LN → Int → Int → Bool → Bool → Bool → Int → Bool → Bool → Int → Int → Int → Bool → Bool → Int → Int → Int → HP → Res2) (t0 : LN) (t2 t3 : Int) (t4 t5 t6 : Bool) (t7 : Int) (t8 t9 : Bool) (t10 t12 : Int) (t13 t14 : Bool) (t15 t16 t17 : Int) (h : HP) : Res2 :=
 S67_2 D m t0 t2 t3 t4 t5 t6 t7 t8 t9 t10 t12 t13 t14 t15 t16 t17 h
def e67_19 (k t0 t2 t3 t4 t5 t6 t7 t8 t9 t10 t11 t12 t13 t14 t15 t16 t17 h) := kN k [(p0, (vS t0)), (p2, (AV.int .u64 t2)), (p3, (vI t3)), (p4, (vB t4)), (p5, (vB t5)), (p6, (vB t6)), (p7, (vI t7)), (p8, (vB t8)), (p9, (vB t9)), (p10, (AV.int .u64 t10)), (p11, (vI t11)), (p12, (vC t12)), (p13, (vB t13)), (p14, (vB t14)), (p15, (vI t15)), (p16, (vI t16)), (p17, (vI t17))] h
def S67_19 (D : CallD) (m : Nat) (g16 : LN → Int → Int → Bool → Bool → Bool → Int → Bool → Bool → Int → Int → Int → Bool → Bool → Int → Int → Int → HP → Res2) (t0 : LN) (t2 t3 : Int) (t4 t5 t6 : Bool) (t7 : Int) (t8 t9 : Bool) (t10 t11 t12 : Int) (t13 t14 : Bool) (t15 t16 t17 : Int) (h : HP) : Res2 :=
 S67_17 D m g16 t0 t2 t3 t4 t5 t6 t7 t8 t9 t10 t11 t12 t13 t14 t15 t16 t17 h
def e67_22 (k t0 t2 t3 t4 t5 t6 t7 t8 t9 t10 t11 t12 t13 t14 t15 t16 t17 h) := kN k [(p0, (vS t0)), (p2, (AV.int .u64 t2)), (p3, (vI t3)), (p4, (vB t4)), (p5, (vB t5)), (p6, (vB t6)), (p7, (vI t7)), (p8, (vB t8)), (p9, (vB t9)), (p10, (AV.int .u64 t10)), (p11, (vI t11)), (p12, (vC t12)), (p13, (vB t13)), (p14, (vB t14)), (p15, (vI t15)), (p16, (vI t16)), (p17, (vI t17))] h
def S67_22 (D : CallD) (m : Nat) (g16 : LN → Int → Int → Bool → Bool → Bool → Int → Bool → Bool → Int → Int → Int → Bool → Bool → Int → Int → Int → HP → Res2) (t0 : LN) (t2 t3 : Int) (t4 t5 t6 : Bool) (t7 : Int) (t8 t9 : Bool) (t10 t11 t12 : Int) (t13 t14 : Bool) (t15 t16 t17 : Int) (h : HP) : Res2 :=
 S67_17 D m g16 t0 t2 t3 t4 t5 t6 t7 t8 t9 t10 t11 t12 t13 t14 t15 t16 t17 h
def e67_21 (k t0 t2 t3 t4 t5 t6 t7 t8 t9 t10 t11 t12 t13 t14 t15 t16 t17 t18 t121 h) := kN k [(p0, (vS t0)), (p2, (AV.int .u64 t2)), (p3, (vI t3)), (p4, (vB t4)), (p5, (vB t5)), (p6, (vB t6)), (p7, (vI t7)), (p8, (vB t8)), (p9, (vB t9)), (p10, (AV.int .u64 t10)), (p11, (vI t11)), (p12, (vC t12)), (p13, (vB t13)), (p14, (vB t14)), (p15, (vI t15)), (p16, (vI t16)), (p17, (vI t17)), (p18, (vC t18)), (p121, (vB t121))] h
def S67_21 (D : CallD) (m : Nat) (g16 : LN → Int → Int → Bool → Bool → Bool → Int → Bool → Bool → Int → Int → Int → Bool → Bool → Int → Int → Int → HP → Res2) (t0 : LN) (t2 t3 : Int) (t4 t5 t6 : Bool) (t7 : Int) (t8 t9 : Bool) (t10 t11 t12 : Int) (t13 t14 : Bool) (t15 t16 t17 t18 : Int) (t121 : Bool) (h : HP) : Res2 :=
 let t122 := ((true == t121) != false)
 br t122 (
 let t124 := wrQ .i64 (addQ t15 (Int.ofNat 1))
 let t127 := ltQ t16 t11
 br t127 (
 let t129 := wrQ .u64 (t2 * (Int.ofNat 16))
 cal D 44 [(vC t18)] h fun t132 h31 =>
 asI .u8 t132 fun t132a =>
 let t133 := wrQ .u8 (t132a - (Int.ofNat 97))
 let t134 := wrQ .u8 (addQ t133 (Int.ofNat 10))
 let t135 := wrapF .u64 t134
 let t136 := wrQ .u64 (addQ t129 t135)
 let t138 := wrQ .i64 (addQ t16 (Int.ofNat 1))
 S67_22 D m g16 t0 t136 t3 t4 t5 t6 t7 t8 t9 t10 t11 t12 t13 true t124 t138 t17 h31) (
 S67_22 D m g16 t0 t2 t3 t4 true t6 t7 t8 t9 t10 t11 t12 t13 true t124 t16 t17 h)) (
 S67_18 D m g16 t0 t2 t3 t4 t5 t6 t7 t8 t9 t10 t12 t13 t14 t15 t16 t17 h)
def e67_20 (k t0 t2 t3 t4 t5 t6 t7 t8 t9 t10 t11 t12 t13 t14 t15 t16 t17 t18 t116 h) := kN k [(p0, (vS t0)), (p2, (AV.int .u64 t2)), (p3, (vI t3)), (p4, (vB t4)), (p5, (vB t5)), (p6, (vB t6)), (p7, (vI t7)), (p8, (vB t8)), (p9, (vB t9)), (p10, (AV.int .u64 t10)), (p11, (vI t11)), (p12, (vC t12)), (p13, (vB t13)), (p14, (vB t14)), (p15, (vI t15)), (p16, (vI t16)), (p17, (vI t17)), (p18, (vC t18)), (p116, (vB t116))] h
def S67_20 (D : CallD) (m : Nat) (g16 : LN → Int → Int → Bool → Bool → Bool → Int → Bool → Bool → Int → Int → Int → Bool → Bool → Int → Int → Int → HP → Res2) (t0 : LN) (t2 t3 : Int) (t4 t5 t6 : Bool) (t7 : Int) (t8 t9 : Bool) (t10 t11 t12 : Int) (t13 t14 : Bool) (t15 t16 t17 t18 : Int) (t116 : Bool) (h : HP) : Res2 :=
 br t116 (
 cal D 44 [(vC t18)] h fun t119 h30 =>
 asI .u8 t119 fun t119a =>
 let t120 := leQ t119a (Int.ofNat 102)
 S67_21 D m g16 t0 t2 t3 t4 t5 t6 t7 t8 t9 t10 t11 t12 t13 t14 t15 t16 t17 t18 t120 h30) (
 S67_21 D m g16 t0 t2 t3 t4 t5 t6 t7 t8 t9 t10 t11 t12 t13 t14 t15 t16 t17 t18 false h)
def e67_16 (k t0 t2 t3 t4 t5 t6 t7 t8 t9 t10 t11 t12 t13 t14 t15 t16 t17 h) := kN k [(p0, (vS t0)), (p2, (AV.int .u64 t2)), (p3, (vI t3)), (p4, (vB t4)), (p5, (vB t5)), (p6, (vB t6)), (p7, (vI t7)), (p8, (vB t8)), (p9, (vB t9)), (p10, (AV.int .u64 t10)), (p11, (vI t11)), (p12, (vC t12)), (p13, (vB t13)), (p14, (vB t14)), (p15, (vI t15)), (p16, (vI t16)), (p17, (vI t17))] h
def S67_16b (D : CallD) (m : Nat) (g16 : LN → Int → Int → Bool → Bool → Bool → Int → Bool → Bool → Int → Int → Int → Bool → Bool → Int → Int → Int → HP → Res2) (t0 : LN) (t2 t3 : Int) (t4 t5 t6 : Bool) (t7 : Int) (t8 t9 : Bool) (t10 t11 t12 : Int) (t13 t14 : Bool) (t15 t16 t17 : Int) (h : HP) : Res2 :=
 let t59 := Int.ofNat (lenL t0)
 let t60 := ltQ t7 t59
 br t60 (
 ixC (vS t0) (vI t7) fun vt65 => asI .u8 vt65 fun t65 =>
 let t68 := eqQ t65 (Int.ofNat 95)
 let t69 := ((true == t68) != false)
 br t69 (
 S67_17 D m g16 t0 t2 t3 t4 t5 t6 t7 t8 true t10 t11 t12 t13 t14 t15 t16 t17 h) (
 let t72 := eqQ t65 (Int.ofNat 46)
 let t73 := ((true == t72) != false)
 br t73 (
 br t13 (
 S67_2 D m t0 t2 t3 t4 t5 t6 t7 t8 t9 t10 t12 t13 t14 t15 t16 t17 h) (
 S67_17 D m g16 t0 t2 t3 t4 t5 t6 t7 t8 t9 t10 t11 t12 true t14 t15 t16 t15 h)) (
 let t78 := leQ (Int.ofNat 48) t65
 obB (brV t78 (
 let t81 := leQ t65 (Int.ofNat 57)
 some (vB t81)) (
 some (vB false))) fun t82 =>
 let t83 := ((true == t82) != false)
 br t83 (
 let t85 := eqQ t65 (Int.ofNat 48)
 obB (brV t85 (
 let t88 := eqQ t15 (Int.ofNat 0)
 some (vB t88)) (
 some (vB false))) fun t89 =>
 br t89 (
 let t91 := wrQ .i64 (t17 - (Int.ofNat 1))
 S67_17 D m g16 t0 t2 t3 t4 t5 t6 t7 t8 t9 t10 t11 t12 t13 true t15 t16 t91 h) (
 let t93 := wrQ .i64 (addQ t15 (Int.ofNat 1))
 let t96 := ltQ t16 t11
 br t96 (
 let t99 := wrQ .u64 (t2 * t10)
 let t102 := wrQ .u8 (t65 - (Int.ofNat 48))
 let t103 := wrapF .u64 t102
 let t104 := wrQ .u64 (addQ t99 t103)
 let t106 := wrQ .i64 (addQ t16 (Int.ofNat 1))
 S67_19 D m g16 t0 t104 t3 t4 t5 t6 t7 t8 t9 t10 t11 t12 t13 true t93 t106 t17 h) (
 let t108 := notQ (eqQ t65 (Int.ofNat 48))
 br t108 (
 S67_19 D m g16 t0 t2 t3 t4 true t6 t7 t8 t9 t10 t11 t12 t13 true t93 t16 t17 h) (
 S67_19 D m g16 t0 t2 t3 t4 t5 t6 t7 t8 t9 t10 t11 t12 t13 true t93 t16 t17 h)))) (
 let t111 := eqQ t10 (Int.ofNat 16)
 br t111 (
 cal D 44 [(vC t65)] h fun t114 h29 =>
 asI .u8 t114 fun t114a =>
 let t115 := leQ (Int.ofNat 97) t114a
 S67_20 D m g16 t0 t2 t3 t4 t5 t6 t7 t8 t9 t10 t11 t12 t13 t14 t15 t16 t17 t65 t115 h29) (
 S67_20 D m g16 t0 t2 t3 t4 t5 t6 t7 t8 t9 t10 t11 t12 t13 t14 t15 t16 t17 t65 false h))))) (
 S67_2 D m t0 t2 t3 t4 t5 t6 t7 t8 t9 t10 t12 t13 t14 t15 t16 t17 h)
def S67_16 (D : CallD) (m : Nat) : LN → Int → Int → Bool → Bool → Bool → Int → Bool → Bool → Int → Int → Int → Bool → Bool → Int → Int → Int → HP → Res2 := nrec (fun _ _ _ _ _ _ _ _ _ _ _ _ _ _ _ _ _ _ => none) (fun _ g => S67_16b D m g) m
def e67_1 (k t0 t2 t3 t4 t5 t6 t7 t8 t9 t10 t11 t12 h) := kN k [(p0, (vS t0)), (p2, (AV.int .u64 t2)), (p3, (vI t3)), (p4, (vB t4)), (p5, (vB t5)), (p6, (vB t6)), (p7, (vI t7)), (p8, (vB t8)), (p9, (vB t9)), (p10, (AV.int .u64 t10)), (p11, (vI t11)), (p12, (vC t12))] h
def S67_1 (D : CallD) (m : Nat) (t0 : LN) (t2 t3 : Int) (t4 t5 t6 : Bool) (t7 : Int) (t8 t9 : Bool) (t10 t11 t12 : Int) (h : HP) : Res2 :=
 S67_16 D m t0 t2 t3 t4 t5 t6 t7 t8 t9 t10 t11 t12 false false (Int.ofNat 0) (Int.ofNat 0) (Int.ofNat 0) h
def e67_24 (k t0 t2 t3 t4 t5 t6 t7 t8 t9 t10 t11 t12 t54 h) := kN k [(p0, (vS t0)), (p2, (AV.int .u64 t2)), (p3, (vI t3)), (p4, (vB t4)), (p5, (vB t5)), (p6, (vB t6)), (p7, (vI t7)), (p8, (vB t8)), (p9, (vB t9)), (p10, (AV.int .u64 t10)), (p11, (vI t11)), (p12, (vC t12)), (p54, (vB t54))] h
def S67_24 (D : CallD) (m : Nat) (t0 : LN) (t2 t3 : Int) (t4 t5 t6 : Bool) (t7 : Int) (t8 t9 : Bool) (t10 t11 t12 : Int) (t54 : Bool) (h : HP) : Res2 :=
 br t54 (
 let t56 := wrQ .i64 (addQ t7 (Int.ofNat 2))
 S67_1 D m t0 t2 t3 t4 t5 true t56 t8 t9 (Int.ofNat 16) (Int.ofNat 16) (Int.ofNat 112) h) (
 S67_1 D m t0 t2 t3 t4 t5 t6 t7 t8 t9 t10 t11 t12 h)
def e67_0 (k t0 t2 t3 t4 t5 t6 t7 t8 t9 h) := kN k [(p0, (vS t0)), (p2, (AV.int .u64 t2)), (p3, (vI t3)), (p4, (vB t4)), (p5, (vB t5)), (p6, (vB t6)), (p7, (vI t7)), (p8, (vB t8)), (p9, (vB t9))] h
def S67_0 (D : CallD) (m : Nat) (t0 : LN) (t2 t3 : Int) (t4 t5 t6 : Bool) (t7 : Int) (t8 t9 : Bool) (h : HP) : Res2 :=
 let t37 := wrQ .i64 (addQ t7 (Int.ofNat 2))
 let t39 := Int.ofNat (lenL t0)
 let t40 := ltQ t37 t39
 obB (brV t40 (
 ixCV (vS t0) (vI t7) fun vt44 => asIV .u8 vt44 fun t44 =>
 let t45 := eqQ t44 (Int.ofNat 48)
 some (vB t45)) (
 some (vB false))) fun t46 =>
 br t46 (
 let t50 := wrQ .i64 (addQ t7 (Int.ofNat 1))
 ixC (vS t0) (vI t50) fun vt51 => asI .u8 vt51 fun t51 =>
 cal D 44 [(vC t51)] h fun t52 h32 =>
 asI .u8 t52 fun t52a =>
 let t53 := eqQ t52a (Int.ofNat 120)
 S67_24 D m t0 t2 t3 t4 t5 t6 t7 t8 t9 (Int.ofNat 10) (Int.ofNat 19) (Int.ofNat 101) t53 h32) (
 S67_24 D m t0 t2 t3 t4 t5 t6 t7 t8 t9 (Int.ofNat 10) (Int.ofNat 19) (Int.ofNat 101) false h)
def e67_26 (k t0 h) := kN k [(p0, (vS t0))] h
def S67_26 (D : CallD) (m : Nat) (t0 : LN) (h : HP) : Res2 :=
 let t23 := Int.ofNat (lenL t0)
 let t24 := leQ t23 (Int.ofNat 0)
 br t24 (
 some (.ret (.tup [(AV.int .u64 (Int.ofNat 0)), (vI (Int.ofNat 0)), (vB false), (vB false), (vB false), (vI (Int.ofNat 0)), (vB false)]) h, .no)) (
 ixC (vS t0) (vI (Int.ofNat 0)) fun vt27 => asI .u8 vt27 fun t27 =>
 let t29 := eqQ t27 (Int.ofNat 43)
 br t29 (
 let t31 := wrQ .i64 (addQ (Int.ofNat 0) (Int.ofNat 1))
 S67_0 D m t0 (Int.ofNat 0) (Int.ofNat 0) false false false t31 false false h) (
 let t33 := eqQ t27 (Int.ofNat 45)
 br t33 (
 let t35 := wrQ .i64 (addQ (Int.ofNat 0) (Int.ofNat 1))
 S67_0 D m t0 (Int.ofNat 0) (Int.ofNat 0) true false false t35 false false h) (
 S67_0 D m t0 (Int.ofNat 0) (Int.ofNat 0) false false false (Int.ofNat 0) false false h)))
def S67 : SFn := fun D m args h u => nou u <| popS args fun t0 args => endA args (S67_26 D m t0 h)
theorem T67_7 (hE : FX x67 D m E) : S67_7 D m = e67_7 (E c67_7 []) := by unfold S67_7; rw [hE c67_7]; kernel_rfl
theorem T67_8 (hE : FX x67 D m E) : S67_8 D m = e67_8 (E (.opq false l67_8 c67_9) [.sj v67_7 c67_7]) := by unfold S67_8; rw [T67_7 hE, hE (.opq false l67_8 c67_9)]; kernel_rfl
theorem T67_6 (hE : FX x67 D m E) : S67_6 D m = e67_6 (E c67_6 []) := by unfold S67_6; rw [T67_8 hE, hE c67_6]; kernel_rfl
theorem T67_5 (hE : FX x67 D m E) : S67_5 D m = e67_5 (E c67_5 []) := by unfold S67_5; rw [T67_6 hE, hE c67_5]; kernel_rfl
theorem T67_12 (hE : FX x67 D m E) : S67_12 D m = e67_12 (E c67_12 [.sj v67_5 c67_5]) := by unfold S67_12; rw [T67_5 hE, hE c67_12]; kernel_rfl
theorem T67_14 (hE : FX x67 D m E) (G13) : S67_14 D m (e67_13 G13) = e67_14 (E c67_14 [.lp v67_13 G13, .blk 5, .sj v67_12 c67_12, .sj v67_5 c67_5]) := by unfold S67_14; rw [hE c67_14]; kernel_rfl
theorem T67_13b (hE : FX x67 D m E) (G13) : S67_13b D m (e67_13 G13) = e67_13 (E c67_13b [.lp v67_13 G13, .blk 5, .sj v67_12 c67_12, .sj v67_5 c67_5]) := by unfold S67_13b; rw [T67_14 hE G13, T67_12 hE, hE c67_13b]; kernel_rfl
theorem T67_13 (hE : FX x67 D m E) : S67_13 D m = e67_13 (nrec (fun _ => none) (fun _ G13 st => E c67_13b [.lp v67_13 G13, .blk 5, .sj v67_12 c67_12, .sj v67_5 c67_5] st) m) :=
  nrec_emb e67_13 (fun _ _ _ _ _ _ _ _ _ _ _ _ _ _ => none) (fun g => S67_13b D m g) (fun G13 st => E c67_13b [.lp v67_13 G13, .blk 5, .sj v67_12 c67_12, .sj v67_5 c67_5] st) rfl (fun g => T67_13b hE g) m
theorem T67_11 (hE : FX x67 D m E) : S67_11 D m = e67_11 (E c67_11 [.sj v67_5 c67_5]) := by unfold S67_11; rw [T67_13 hE, hE c67_11]; kernel_rfl
theorem T67_10 (hE : FX x67 D m E) : S67_10 D m = e67_10 (E (.opq false l67_10 c67_15) [.sj v67_5 c67_5]) := by unfold S67_10; rw [T67_11 hE, T67_5 hE, hE (.opq false l67_10 c67_15)]; kernel_rfl
theorem T67_4 (hE : FX x67 D m E) : S67_4 D m = e67_4 (E c67_4 []) := by unfold S67_4; rw [T67_10 hE, hE c67_4]; kernel_rfl
theorem T67_3 (hE : FX x67 D m E) : S67_3 D m = e67_3 (E c67_3 []) := by unfold S67_3; rw [T67_4 hE, hE c67_3]; kernel_rfl
theorem T67_2 (hE : FX x67 D m E) : S67_2 D m = e67_2 (E c67_2 []) := by unfold S67_2; rw [T67_3 hE, hE c67_2]; kernel_rfl
theorem T67_17 (hE : FX x67 D m E) (G16) : S67_17 D m (e67_16 G16) = e67_17 (E c67_17 [.lp v67_16 G16, .blk 1, .sj v67_2 c67_2]) := by unfold S67_17; rw [hE c67_17]; kernel_rfl
theorem T67_18 (hE : FX x67 D m E) (G16) : S67_18 D m (e67_16 G16) = e67_18 (E c67_18 [.blk 2, .sj v67_17 c67_17, .lp v67_16 G16, .blk 1, .sj v67_2 c67_2]) := by unfold S67_18; rw [T67_2 hE, hE c67_18]; kernel_rfl
theorem T67_19 (hE : FX x67 D m E) (G16) : S67_19 D m (e67_16 G16) = e67_19 (E c67_19 [.blk 3, .sj v67_18 c67_18, .blk 2, .sj v67_17 c67_17, .lp v67_16 G16, .blk 1, .sj v67_2 c67_2]) := by unfold S67_19; rw [T67_17 hE G16, hE c67_19]; kernel_rfl
theorem T67_22 (hE : FX x67 D m E) (G16) : S67_22 D m (e67_16 G16) = e67_22 (E c67_22 [.blk 3, .sj v67_18 c67_18, .blk 2, .sj v67_17 c67_17, .lp v67_16 G16, .blk 1, .sj v67_2 c67_2]) := by unfold S67_22; rw [T67_17 hE G16, hE c67_22]; kernel_rfl
theorem T67_21 (hE : FX x67 D m E) (G16) : S67_21 D m (e67_16 G16) = e67_21 (E (.opq false l67_21 c67_23) [.blk 3, .sj v67_18 c67_18, .blk 2, .sj v67_17 c67_17, .lp v67_16 G16, .blk 1, .sj v67_2 c67_2]) := by unfold S67_21; rw [T67_22 hE G16, T67_18 hE G16, hE (.opq false l67_21 c67_23)]; kernel_rfl
theorem T67_20 (hE : FX x67 D m E) (G16) : S67_20 D m (e67_16 G16) = e67_20 (E (.opq false l67_20 c67_23) [.blk 3, .sj v67_18 c67_18, .blk 2, .sj v67_17 c67_17, .lp v67_16 G16, .blk 1, .sj v67_2 c67_2]) := by unfold S67_20; rw [T67_21 hE G16, hE (.opq false l67_20 c67_23)]; kernel_rfl
theorem T67_16b (hE : FX x67 D m E) (G16) : S67_16b D m (e67_16 G16) = e67_16 (E c67_16b [.lp v67_16 G16, .blk 1, .sj v67_2 c67_2]) := by unfold S67_16b; rw [T67_17 hE G16, T67_2 hE, T67_19 hE G16, T67_20 hE G16, hE c67_16b]; kernel_rfl
theorem T67_16 (hE : FX x67 D m E) : S67_16 D m = e67_16 (nrec (fun _ => none) (fun _ G16 st => E c67_16b [.lp v67_16 G16, .blk 1, .sj v67_2 c67_2] st) m) :=
  nrec_emb e67_16 (fun _ _ _ _ _ _ _ _ _ _ _ _ _ _ _ _ _ _ => none) (fun g => S67_16b D m g) (fun G16 st => E c67_16b [.lp v67_16 G16, .blk 1, .sj v67_2 c67_2] st) rfl (fun g => T67_16b hE g) m
theorem T67_1 (hE : FX x67 D m E) : S67_1 D m = e67_1 (E c67_1 []) := by unfold S67_1; rw [T67_16 hE, hE c67_1]; kernel_rfl
theorem T67_24 (hE : FX x67 D m E) : S67_24 D m = e67_24 (E (.opq false l67_24 c67_25) [.sj v67_1 c67_1]) := by unfold S67_24; rw [T67_1 hE, hE (.opq false l67_24 c67_25)]; kernel_rfl
theorem T67_0 (hE : FX x67 D m E) : S67_0 D m = e67_0 (E c67_0 []) := by unfold S67_0; rw [T67_24 hE, hE c67_0]; kernel_rfl
theorem T67_26 (hE : FX x67 D m E) : S67_26 D m = e67_26 (E c67_e []) := by unfold S67_26; rw [T67_0 hE, hE c67_e]; kernel_rfl
theorem X67 : XTie S67 x67 := X_of fun D m E hE args h u => by unfold S67; rw [T67_26 hE]; kernel_rfl
/- 75 -/
def c75_e : XC := (.sO [.mv p2 (.c (.int .u64 (.ofNat 0))) (.i .u64)] (.seq (.seq (.oX [.mv p3 q0 .b]) (.cond q3 (.seq (.oX [.mv p2 (.c (.int .u64 (.ofNat 1))) (.i .u64)]) .ret) .skip)) (.sO [.mv p2 (.c (.int .u64 (.ofNat 0))) (.i .u64)] (.s .ret))))
def x75 : XFn := ⟨[.b], false, [(.tmp p2)], c75_e⟩
def e75_0 (k t0 h) := kN k [(p0, (vB t0))] h
def S75_0 (D : CallD) (m : Nat) (t0 : Bool) (h : HP) : Res2 :=
 br t0 (
 some (.ret (AV.int .u64 (Int.ofNat 1)) h, .no)) (
 some (.ret (AV.int .u64 (Int.ofNat 0)) h, .no))
def S75 : SFn := fun D m args h u => nou u <| popB args fun t0 args => endA args (S75_0 D m t0 h)
theorem T75_0 (hE : FX x75 D m E) : S75_0 D m = e75_0 (E c75_e []) := by unfold S75_0; rw [hE c75_e]; kernel_rfl
theorem X75 : XTie S75 x75 := X_of fun D m E hE args h u => by unfold S75; rw [T75_0 hE]; kernel_rfl
/- 77 -/
def v77_1 : List Pos := [p6, p7]
def c77_1 : XC := (.s .ret)
def v77_2 : List Pos := [p1, p6, p7]
def c77_2 : XC := (.seq (.seq (.oX [.mv p38 q6 .v, .bn p39 .gtr q38 (.c (.flt .f64 4831355200913801216)) .b, .mv p40 q39 .b, .ge p40 (XL.of [.G p40 false p41 (.mov q6) .v, .G p40 false p42 (.bin .lss q41 (.c (.flt .f64 14054727237768577024))) .b, .P p43 (.pick q40 (cb true) q42) .b]) p43 .b]) (.cond q43 .ret .skip)) (.sO [.mv p44 q6 .v, .ld p45 (.c (.ptr p11 0)) .v, .mv p46 q1 tI, .P p47 (.iaddr (.sl 1) q45 q46) .v, .ld p48 q47 .v, .bn p49 .mul q44 q48 .v, .mv p6 q49 .v, .mv p7 (cb true) .b] (.s .ret)))
def v77_0 : List Pos := [p1, p6, p7]
def c77_0 : XC := (.sj v77_1 (.block 0 (.sO [.mv p19 q1 tI, .bn p20 .eql q19 (ci 0) .b, .mv p18 q20 .b] (.cond q18 (.sO [.mv p21 q6 .v, .mv p6 q21 .v, .mv p7 (cb true) .b] (.s .ret)) (.sO [.mv p23 q1 tI, .bn p24 .gtr q23 (ci 0) .b, .mv p25 q24 .b, .ge p25 (XL.of [.G p25 true p26 (.mov q1) tI, .G p25 true p27 (.bin .leq q26 (ci 37)) .b, .P p28 (.pick q25 q27 (cb false)) .b]) p28 .b, .mv p22 q28 .b] (.cond q22 (.sj v77_2 (.sO [.mv p29 q1 tI, .bn p30 .gtr q29 (ci 22) .b] (.cond q30 (.sO [.mv p31 q6 .v, .ld p32 (.c (.ptr p11 0)) .v, .mv p33 q1 tI, .bn p34 .sub q33 (ci 22) tI, .P p35 (.iaddr (.sl 1) q32 q34) .v, .ld p36 q35 .v, .bn p37 .mul q31 q36 .v, .mv p6 q37 .v] (.s (.oX [.mv p1 (ci 22) tI]))) (.s .skip))) c77_2) (.sO [.mv p51 q1 tI, .bn p52 .lss q51 (ci 0) .b, .mv p53 q52 .b, .ge p53 (XL.of [.G p53 true p54 (.mov q1) tI, .G p53 true p55 (.bin .geq q54 (.c (.int .i64 (.negSucc 21)))) .b, .P p56 (.pick q53 q55 (cb false)) .b]) p56 .b, .mv p50 q56 .b] (.cond q50 (.sO [.mv p57 q6 .v, .ld p58 (.c (.ptr p11 0)) .v, .mv p59 q1 tI, .P p60 (.un .neg q59) tI, .P p61 (.iaddr (.sl 1) q58 q60) .v, .ld p62 q61 .v, .bn p63 .quo q57 q62 .v, .mv p6 q63 .v, .mv p7 (cb true) .b] (.s .ret)) (.s .skip)))))))) c77_1)
def c77_e : XC := (.sO [.mv p6 (.c (.flt .f64 0)) .v, .mv p7 (cb false) .b] (.seq (.seq (.oX [.mv p8 q0 (.i .u64), .fa p9 0 (.c (.ptr p6 0)), .ld p10 q9 (.i .u64), .bn p11 .shr q8 q10 (.i .u64), .bn p12 .neq q11 (.c (.int .u64 (.ofNat 0))) .b]) (.cond q12 .ret .skip)) (.sO [.mv p13 q0 (.i .u64), .P p14 (.conv (.jf .f64) q13) .v, .mv p6 q14 .v] (.sj v77_0 (.sO [.mv p15 q2 .b] (.cond q15 (.s (.oX [.mv p16 q6 .v, .P p17 (.un .neg q16) .v, .mv p6 q17 .v])) (.s .skip))) c77_0))))
def x77 : XFn := ⟨[(.i .u64), tI, .b], false, [(.tmp p6), (.tmp p7)], c77_e⟩
def e77_1 (k t6 t7 h) := kN k [(p6, t6), (p7, (vB t7))] h
def S77_1 (D : CallD) (m : Nat) (t6 : AV) (t7 : Bool) (h : HP) : Res2 :=
 some (.ret (.tup [t6, (vB t7)]) h, .no)
def e77_2 (k t1 t6 t7 h) := kN k [(p1, (vI t1)), (p6, t6), (p7, (vB t7))] h
def S77_2 (D : CallD) (m : Nat) (t1 : Int) (t6 : AV) (t7 : Bool) (h : HP) : Res2 :=
 binC .gtr t6 ((.flt .f64 4831355200913801216) : AV) fun vt39 => asB vt39 fun t39 =>
 obB (brV t39 (
 some (vB true)) (
 binCV .lss t6 ((.flt .f64 14054727237768577024) : AV) fun vt42 => asBV vt42 fun t42 =>
 some (vB t42))) fun t43 =>
 br t43 (
 some (.ret (.tup [t6, (vB t7)]) h, .no)) (
 cellC ((.ptr p11 0) : AV) h fun t45 =>
 iasC 1 t45 (vI t1) fun t47 =>
 cellC t47 h fun t48 =>
 binC .mul t6 t48 fun t49 =>
 some (.ret (.tup [t49, (vB true)]) h, .no))
def e77_0 (k t1 t6 t7 h) := kN k [(p1, (vI t1)), (p6, t6), (p7, (vB t7))] h
def S77_0 (D : CallD) (m : Nat) (t1 : Int) (t6 : AV) (t7 : Bool) (h : HP) : Res2 :=
 let t20 := eqQ t1 (Int.ofNat 0)
 br t20 (
 some (.ret (.tup [t6, (vB true)]) h, .no)) (
 let t24 := ltQ (Int.ofNat 0) t1
 obB (brV t24 (
 let t27 := leQ t1 (Int.ofNat 37)
 some (vB t27)) (
 some (vB false))) fun t28 =>
 br t28 (
 let t30 := ltQ (Int.ofNat 22) t1
 br t30 (
 cellC ((.ptr p11 0) : AV) h fun t32 =>
 let t34 := wrQ .i64 (t1 - (Int.ofNat 22))
 iasC 1 t32 (vI t34) fun t35 =>
 cellC t35 h fun t36 =>
 binC .mul t6 t36 fun t37 =>
 S77_2 D m (Int.ofNat 22) t37 t7 h) (
 S77_2 D m t1 t6 t7 h)) (
 let t52 := ltQ t1 (Int.ofNat 0)
 obB (brV t52 (
 let t55 := leQ (Int.negSucc 21) t1
 some (vB t55)) (
 some (vB false))) fun t56 =>
 br t56 (
 cellC ((.ptr p11 0) : AV) h fun t58 =>
 let t60 := IntKind.wrap .i64 (0 - t1)
 iasC 1 t58 (vI t60) fun t61 =>
 cellC t61 h fun t62 =>
 binC .quo t6 t62 fun t63 =>
 some (.ret (.tup [t63, (vB true)]) h, .no)) (
 S77_1 D m t6 t7 h)))
def e77_3 (k t0 t1 t2 h) := kN k [(p0, (AV.int .u64 t0)), (p1, (vI t1)), (p2, (vB t2))] h
def S77_3 (D : CallD) (m : Nat) (t0 t1 : Int) (t2 : Bool) (h : HP) : Res2 :=
 faC 0 ((.ptr p6 0) : AV) fun t9 =>
 cellC t9 h fun vt10 => asI .u64 vt10 fun t10 =>
 obI .u64 (shiftF .shr .u64 t0 t10) fun t11 =>
 let t12 := notQ (eqQ t11 (Int.ofNat 0))
 br t12 (
 some (.ret (.tup [((.flt .f64 0) : AV), (vB false)]) h, .no)) (
 let t14 := AV.flt .f64 (FloatKind.nearest .f64 t0)
 br t2 (
 obQ (evP (.un .neg (.c t14)) .leaf) fun t17 =>
 S77_0 D m t1 t17 false h) (
 S77_0 D m t1 t14 false h))
def S77 : SFn := fun D m args h u => nou u <| popI .u64 args fun t0 args => popI .i64 args fun t1 args => popB args fun t2 args => endA args (S77_3 D m t0 t1 t2 h)
theorem T77_1 (hE : FX x77 D m E) : S77_1 D m = e77_1 (E c77_1 []) := by unfold S77_1; rw [hE c77_1]; kernel_rfl
theorem T77_2 (hE : FX x77 D m E) : S77_2 D m = e77_2 (E c77_2 [.blk 0, .sj v77_1 c77_1]) := by unfold S77_2; rw [hE c77_2]; kernel_rfl
theorem T77_0 (hE : FX x77 D m E) : S77_0 D m = e77_0 (E c77_0 []) := by unfold S77_0; rw [T77_2 hE, T77_1 hE, hE c77_0]; kernel_rfl
theorem T77_3 (hE : FX x77 D m E) : S77_3 D m = e77_3 (E c77_e []) := by unfold S77_3; rw [T77_0 hE, hE c77_e]; kernel_rfl
theorem X77 : XTie S77 x77 := X_of fun D m E hE args h u => by unfold S77; rw [T77_3 hE]; kernel_rfl
/- 81 -/
def v81_0 : List Pos := [p5]
def c81_0 : XC := (.sO [.mv p35 q5 tI, .mv p4 q35 tI] (.s .ret))
def v81_2 : List Pos := [p0, p1, p5, p6]
def c81_2 : XC := (.s (.oX [.mv p16 q6 tI, .bn p17 .add q16 (ci 1) tI, .mv p6 q17 tI]))
def v81_3 : List Pos := [p0, p1, p5, p6, p7]
def c81_3 : XC := (.sO [.mv p29 q7 tC, .mv p30 q1 .s, .mv p31 q6 tI, .P p32 (.idxs q30 q31) tC, .bn p33 .neq q29 q32 .b] (.cond q33 (.sO [.mv p34 q6 tI, .mv p4 q34 tI] (.s .ret)) (.s .skip)))
def v81_1 : List Pos := [p0, p1, p5, p6]
def c81_1b : XC := (.seq (.seq (.oX [.mv p13 q6 tI, .mv p14 q5 tI, .bn p15 .lss q13 q14 .b]) (.cond q15 .skip (.exit 0))) (.sj v81_2 (.block 1 (.sO [.mv p18 q0 .s, .mv p19 q6 tI, .P p20 (.idxs q18 q19) tC, .mv p7 q20 tC] (.sj v81_3 (.sO [.mv p21 q7 tC, .bn p22 .leq (.c (.int .u8 (.ofNat 65))) q21 .b, .mv p23 q22 .b, .ge p23 (XL.of [.G p23 true p24 (.mov q7) tC, .G p23 true p25 (.bin .leq q24 (.c (.int .u8 (.ofNat 90)))) .b, .P p26 (.pick q23 q25 (cb false)) .b]) p26 .b] (.cond q26 (.s (.oX [.mv p27 q7 tC, .bn p28 .add q27 (.c (.int .u8 (.ofNat 32))) tC, .mv p7 q28 tC])) (.s .skip))) c81_3))) c81_2))
def c81_e : XC := (.sO [.mv p4 (ci 0) tI] (.sO [.mv p8 q1 .s, .P p9 (.lens q8) tI, .mv p10 q0 .s, .P p11 (.lens q10) tI, .P p12 (.mm false [q9, q11]) tI, .mv p5 q12 tI] (.sj v81_0 (.sO [.mv p6 (ci 0) tI] (.block 0 (.loop v81_1 c81_1b))) c81_0)))
def x81 : XFn := ⟨[.s, .s], false, [(.tmp p4)], c81_e⟩
def e81_0 (k t5 h) := kN k [(p5, (vI t5))] h
def S81_0 (D : CallD) (m : Nat) (t5 : Int) (h : HP) : Res2 :=
 some (.ret (vI t5) h, .no)
def e81_2 (k t0 t1 t5 t6 h) := kN k [(p0, (vS t0)), (p1, (vS t1)), (p5, (vI t5)), (p6, (vI t6))] h
def S81_2 (D : CallD) (m : Nat) (g1 : LN → LN → Int → Int → HP → Res2) (t0 t1 : LN) (t5 t6 : Int) (h : HP) : Res2 :=
 let t17 := wrQ .i64 (addQ t6 (Int.ofNat 1))
 g1 t0 t1 t5 t17 h
def e81_3 (k t0 t1 t5 t6 t7 h) := kN k [(p0, (vS t0)), (p1, (vS t1)), (p5, (vI t5)), (p6, (vI t6)), (p7, (vC t7))] h
def S81_3 (D : CallD) (m : Nat) (g1 : LN → LN → Int → Int → HP → Res2) (t0 t1 : LN) (t5 t6 t7 : Int) (h : HP) : Res2 :=
 ixC (vS t1) (vI t6) fun vt32 => asI .u8 vt32 fun t32 =>
 let t33 := notQ (eqQ t7 t32)
 br t33 (
 some (.ret (vI t6) h, .no)) (
 S81_2 D m g1 t0 t1 t5 t6 h)
def e81_1 (k t0 t1 t5 t6 h) := kN k [(p0, (vS t0)), (p1, (vS t1)), (p5, (vI t5)), (p6, (vI t6))] h
def S81_1b (D : CallD) (m : Nat) (g1 : LN → LN → Int → Int → HP → Res2) (t0 t1 : LN) (t5 t6 : Int) (h : HP) : Res2 :=
 let t15 := ltQ t6 t5
 br t15 (
 ixC (vS t0) (vI t6) fun vt20 => asI .u8 vt20 fun t20 =>
 let t22 := leQ (Int.ofNat 65) t20
 obB (brV t22 (
 let t25 := leQ t20 (Int.ofNat 90)
 some (vB t25)) (
 some (vB false))) fun t26 =>
 br t26 (
 let t28 := wrQ .u8 (addQ t20 (Int.ofNat 32))
 S81_3 D m g1 t0 t1 t5 t6 t28 h) (
 S81_3 D m g1 t0 t1 t5 t6 t20 h)) (
 S81_0 D m t5 h)
def S81_1 (D : CallD) (m : Nat) : LN → LN → Int → Int → HP → Res2 := nrec (fun _ _ _ _ _ => none) (fun _ g => S81_1b D m g) m
def e81_4 (k t0 t1 h) := kN k [(p0, (vS t0)), (p1, (vS t1))] h
def S81_4 (D : CallD) (m : Nat) (t0 t1 : LN) (h : HP) : Res2 :=
 let t9 := Int.ofNat (lenL t1)
 let t11 := Int.ofNat (lenL t0)
 let t12 := mmI false t9 t11
 S81_1 D m t0 t1 t12 (Int.ofNat 0) h
def S81 : SFn := fun D m args h u => nou u <| popS args fun t0 args => popS args fun t1 args => endA args (S81_4 D m t0 t1 h)
theorem T81_0 (hE : FX x81 D m E) : S81_0 D m = e81_0 (E c81_0 []) := by unfold S81_0; rw [hE c81_0]; kernel_rfl
theorem T81_2 (hE : FX x81 D m E) (G1) : S81_2 D m (e81_1 G1) = e81_2 (E c81_2 [.lp v81_1 G1, .blk 0, .sj v81_0 c81_0]) := by unfold S81_2; rw [hE c81_2]; kernel_rfl
theorem T81_3 (hE : FX x81 D m E) (G1) : S81_3 D m (e81_1 G1) = e81_3 (E c81_3 [.blk 1, .sj v81_2 c81_2, .lp v81_1 G1, .blk 0, .sj v81_0 c81_0]) := by unfold S81_3; rw [T81_2 hE G1, hE c81_3]; kernel_rfl
theorem T81_1b (hE : FX x81 D m E) (G1) : S81_1b D m (e81_1 G1) = e81_1 (E c81_1b [.lp v81_1 G1, .blk 0, .sj v81_0 c81_0]) := by unfold S81_1b; rw [T81_3 hE G1, T81_0 hE, hE c81_1b]; kernel_rfl
theorem T81_1 (hE : FX x81 D m E) : S81_1 D m = e81_1 (nrec (fun _ => none) (fun _ G1 st => E c81_1b [.lp v81_1 G1, .blk 0, .sj v81_0 c81_0] st) m) :=
  nrec_emb e81_1 (fun _ _ _ _ _ => none) (fun g => S81_1b D m g) (fun G1 st => E c81_1b [.lp v81_1 G1, .blk 0, .sj v81_0 c81_0] st) rfl (fun g => T81_1b hE g) m
theorem T81_4 (hE : FX x81 D m E) : S81_4 D m = e81_4 (E c81_e []) := by unfold S81_4; rw [T81_1 hE, hE c81_e]; kernel_rfl
theorem X81 : XTie S81 x81 := X_of fun D m E hE args h u => by unfold S81; rw [T81_4 hE]; kernel_rfl
end
end Go.Proofs.YtlfhnopganplfaaGreatDoor.Sx
