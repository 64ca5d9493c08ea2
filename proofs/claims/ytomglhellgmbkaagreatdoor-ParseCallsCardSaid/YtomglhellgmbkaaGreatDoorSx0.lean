/- Functions, printed by a program of ours: their code, what they do, and that it is so. -/
import Derived.Test.YtomglhellgmbkaaGreatDoorSp
set_option maxRecDepth 8000
set_option linter.unusedVariables false
namespace Go.Proofs.YtomglhellgmbkaaGreatDoor.Sx
open Go Go.Proofs.YtomglhellgmbkaaGreatDoor.Ev
set_option linter.unusedSectionVars false
noncomputable section
variable [Rho]
variable {D : CallD} {m : Nat} {E : XE}
/- 4 -/
def v4_2 : List Pos := [p0, p7, p11, p12, p13]
def c4_2 : XC := (.seq (.seq (.oX [.mv p56 q0 tI, .mv p57 q13 tI, .bn p58 .leq q56 q57 .b]) (.cond q58 (.seq (.oX [.mv p59 q12 tI, .bn p60 .eql q59 (ci 0) .b, .mv p4 q60 .b]) .ret) .skip)) (.sO [.mv p61 q12 tI, .bn p62 .eql q61 (ci 12) .b, .mv p63 q62 .b, .ge p63 (XL.of [.G p63 true p64 (.mov q11) tI, .G p63 true p65 (.mov q7) tI, .G p63 true p66 (.mov q13) tI, .G p63 true p67 (.bin .add q65 q66) tI, .G p63 true p68 (.bin .add q67 (ci 1)) tI, .G p63 true p69 (.bin .eql q64 q68) .b, .P p70 (.pick q63 q69 (cb false)) .b]) p70 .b, .mv p4 q70 .b] (.s .ret)))
def v4_1 : List Pos := [p0, p1, p6, p7]
def c4_1 : XC := (.sO [.mv p48 q6 .s, .bn p49 .add q48 (.c (.str [59])) .s, .cl p50 9 [q49] .v, .mv p47 q50 .v, .P p51 (.ext q47 0) .v, .P p52 (.ext q47 1) tI, .P p53 (.ext q47 2) tI, .al p10 (.new [.nils]), .ss 1 q10 q51, .mv p11 q52 tI, .mv p12 q53 tI] (.sO [.mv p13 (ci 38) tI] (.sj v4_2 (.sO [.mv p54 q1 .b, .P p55 (.un .not q54) .b] (.cond q55 (.s (.oX [.mv p13 (ci 19) tI])) (.s .skip))) c4_2)))
def v4_3 : List Pos := [p0, p1, p6, p7, p9]
def c4_3b : XC := (.seq (.seq (.oX [.mv p36 q9 tI, .mv p37 q0 tI, .bn p38 .lss q36 q37 .b, .mv p39 q38 .b, .ge p39 (XL.of [.G p39 true p40 (.mov q1) .b, .G p39 true p41 (.un .not q40) .b, .P p42 (.pick q39 q41 (cb false)) .b]) p42 .b]) (.cond q42 .skip (.exit 2))) (.seq (.block 3 (.oX [.mv p45 q6 .s, .bn p46 .add q45 (.c (.str [41])) .s, .mv p6 q46 .s])) (.s (.oX [.mv p43 q9 tI, .bn p44 .add q43 (ci 1) tI, .mv p9 q44 tI]))))
def v4_0 : List Pos := [p0, p1, p6, p7]
def c4_0 : XC := (.sO [.mv p34 q6 .s, .bn p35 .add q34 (.c (.str [49])) .s, .mv p6 q35 .s] (.sj v4_1 (.sO [.mv p9 (ci 0) tI] (.block 2 (.loop v4_3 c4_3b))) c4_1))
def v4_5 : List Pos := [p0, p1, p6, p7, p8]
def c4_5 : XC := (.s (.oX [.mv p27 q8 tI, .bn p28 .add q27 (ci 1) tI, .mv p8 q28 tI]))
def v4_4 : List Pos := [p0, p1, p6, p7, p8]
def c4_4b : XC := (.seq (.seq (.oX [.mv p24 q8 tI, .mv p25 q0 tI, .bn p26 .lss q24 q25 .b]) (.cond q26 .skip (.exit 0))) (.sj v4_5 (.block 1 (.sO [.mv p29 q1 .b] (.cond q29 (.s (.oX [.mv p30 q6 .s, .bn p31 .add q30 (.c (.str [126])) .s, .mv p6 q31 .s])) (.s (.oX [.mv p32 q6 .s, .bn p33 .add q32 (.c (.str [40])) .s, .mv p6 q33 .s]))))) c4_5))
def c4_e : XC := (.sO [.mv p4 (cb false) .b] (.seq (.seq (.oX [.cl p14 8 [] .b, .P p15 (.un .not q14) .b]) (.cond q15 (.seq (.oX [.mv p4 (cb false) .b]) .ret) .skip)) (.sO [.mv p16 q0 tI, .P p17 (.conv (.ii .u64) q16) (.i .u64), .bn p18 .rem q17 (.c (.int .u64 (.ofNat 50))) (.i .u64), .P p19 (.conv (.ii .i64) q18) tI, .bn p20 .add q19 (ci 1) tI, .mv p0 q20 tI] (.sO [.mv p5 (.c (.str [105, 110, 116, 32, 97, 61])) .s] (.sO [.mv p21 q5 .s, .mv p22 q5 .s, .P p23 (.lens q22) tI, .mv p6 q21 .s, .mv p7 q23 tI] (.sj v4_0 (.sO [.mv p8 (ci 0) tI] (.block 0 (.loop v4_4 c4_4b))) c4_0))))))
def x4 : XFn := ⟨[tI, .b], false, [(.tmp p4)], c4_e⟩
def e4_2 (k t0 t7 t11 t12 t13 h) := kN k [(p0, (vI t0)), (p7, (vI t7)), (p11, (vI t11)), (p12, (vI t12)), (p13, (vI t13))] h
def S4_2 (D : CallD) (m : Nat) (t0 t7 t11 t12 t13 : Int) (h : HP) : Res2 :=
 let t58 := leQ t0 t13
 br t58 (
 let t60 := eqQ t12 (Int.ofNat 0)
 some (.ret (vB t60) h, .no)) (
 let t62 := eqQ t12 (Int.ofNat 12)
 obB (brV t62 (
 let t67 := wrQ .i64 (addQ t7 t13)
 let t68 := wrQ .i64 (addQ t67 (Int.ofNat 1))
 let t69 := eqQ t11 t68
 some (vB t69)) (
 some (vB false))) fun t70 =>
 some (.ret (vB t70) h, .no))
def e4_1 (k t0 t1 t6 t7 h) := kN k [(p0, (vI t0)), (p1, (vB t1)), (p6, (vS t6)), (p7, (vI t7))] h
def S4_1 (D : CallD) (m : Nat) (t0 : Int) (t1 : Bool) (t6 : LN) (t7 : Int) (h : HP) : Res2 :=
 obS (strBin .add t6 ([59] : LN)) fun t49 =>
 cal D 9 [(vS t49)] h fun t50 h8 =>
 extC t50 0 fun t51 =>
 extC t50 1 fun vt52 => asI .i64 vt52 fun t52 =>
 extC t50 2 fun vt53 => asI .i64 vt53 fun t53 =>
 let t10 := AV.ptr (HP.nxQ h8) 0
 let h9 := HP.newQ h8 (.cells true [.nils])
 stsC 1 t10 t51 h9 fun h10 =>
 let t55 := !t1
 br t55 (
 S4_2 D m t0 t7 t52 t53 (Int.ofNat 19) h10) (
 S4_2 D m t0 t7 t52 t53 (Int.ofNat 38) h10)
def e4_3 (k t0 t1 t6 t7 t9 h) := kN k [(p0, (vI t0)), (p1, (vB t1)), (p6, (vS t6)), (p7, (vI t7)), (p9, (vI t9))] h
def S4_3b (D : CallD) (m : Nat) (g3 : Int → Bool → LN → Int → Int → HP → Res2) (t0 : Int) (t1 : Bool) (t6 : LN) (t7 t9 : Int) (h : HP) : Res2 :=
 let t38 := ltQ t9 t0
 obB (brV t38 (
 let t41 := !t1
 some (vB t41)) (
 some (vB false))) fun t42 =>
 br t42 (
 obS (strBin .add t6 ([41] : LN)) fun t46 =>
 let t44 := wrQ .i64 (addQ t9 (Int.ofNat 1))
 g3 t0 t1 t46 t7 t44 h) (
 S4_1 D m t0 t1 t6 t7 h)
def S4_3 (D : CallD) (m : Nat) : Int → Bool → LN → Int → Int → HP → Res2 := nrec (fun _ _ _ _ _ _ => none) (fun _ g => S4_3b D m g) m
def e4_0 (k t0 t1 t6 t7 h) := kN k [(p0, (vI t0)), (p1, (vB t1)), (p6, (vS t6)), (p7, (vI t7))] h
def S4_0 (D : CallD) (m : Nat) (t0 : Int) (t1 : Bool) (t6 : LN) (t7 : Int) (h : HP) : Res2 :=
 obS (strBin .add t6 ([49] : LN)) fun t35 =>
 S4_3 D m t0 t1 t35 t7 (Int.ofNat 0) h
def e4_5 (k t0 t1 t6 t7 t8 h) := kN k [(p0, (vI t0)), (p1, (vB t1)), (p6, (vS t6)), (p7, (vI t7)), (p8, (vI t8))] h
def S4_5 (D : CallD) (m : Nat) (g4 : Int → Bool → LN → Int → Int → HP → Res2) (t0 : Int) (t1 : Bool) (t6 : LN) (t7 t8 : Int) (h : HP) : Res2 :=
 let t28 := wrQ .i64 (addQ t8 (Int.ofNat 1))
 g4 t0 t1 t6 t7 t28 h
def e4_4 (k t0 t1 t6 t7 t8 h) := kN k [(p0, (vI t0)), (p1, (vB t1)), (p6, (vS t6)), (p7, (vI t7)), (p8, (vI t8))] h
def S4_4b (D : CallD) (m : Nat) (g4 : Int → Bool → LN → Int → Int → HP → Res2) (t0 : Int) (t1 : Bool) (t6 : LN) (t7 t8 : Int) (h : HP) : Res2 :=
 let t26 := ltQ t8 t0
 br t26 (
 br t1 (
 obS (strBin .add t6 ([126] : LN)) fun t31 =>
 S4_5 D m g4 t0 t1 t31 t7 t8 h) (
 obS (strBin .add t6 ([40] : LN)) fun t33 =>
 S4_5 D m g4 t0 t1 t33 t7 t8 h)) (
 S4_0 D m t0 t1 t6 t7 h)
def S4_4 (D : CallD) (m : Nat) : Int → Bool → LN → Int → Int → HP → Res2 := nrec (fun _ _ _ _ _ _ => none) (fun _ g => S4_4b D m g) m
def e4_6 (k t0 t1 h) := kN k [(p0, (vI t0)), (p1, (vB t1))] h
def S4_6 (D : CallD) (m : Nat) (t0 : Int) (t1 : Bool) (h : HP) : Res2 :=
 cal D 8 [] h fun t14 h7 =>
 asB t14 fun t14a =>
 let t15 := !t14a
 br t15 (
 some (.ret (vB false) h7, .no)) (
 let t17 := wrapF .u64 t0
 let t18 := Int.tmod t17 (Int.ofNat 50)
 let t19 := wrapF .i64 t18
 let t20 := wrQ .i64 (addQ t19 (Int.ofNat 1))
 let t23 := Int.ofNat (lenL ([105, 110, 116, 32, 97, 61] : LN))
 S4_4 D m t20 t1 ([105, 110, 116, 32, 97, 61] : LN) t23 (Int.ofNat 0) h7)
def S4 : SFn := fun D m args h u => nou u <| popI .i64 args fun t0 args => popB args fun t1 args => endA args (S4_6 D m t0 t1 h)
theorem T4_2 (hE : FX x4 D m E) : S4_2 D m = e4_2 (E c4_2 []) := by unfold S4_2; rw [hE c4_2]; kernel_rfl
theorem T4_1 (hE : FX x4 D m E) : S4_1 D m = e4_1 (E c4_1 []) := by unfold S4_1; rw [T4_2 hE, hE c4_1]; kernel_rfl
theorem T4_3b (hE : FX x4 D m E) (G3) : S4_3b D m (e4_3 G3) = e4_3 (E c4_3b [.lp v4_3 G3, .blk 2, .sj v4_1 c4_1]) := by unfold S4_3b; rw [T4_1 hE, hE c4_3b]; kernel_rfl
theorem T4_3 (hE : FX x4 D m E) : S4_3 D m = e4_3 (nrec (fun _ => none) (fun _ G3 st => E c4_3b [.lp v4_3 G3, .blk 2, .sj v4_1 c4_1] st) m) :=
  nrec_emb e4_3 (fun _ _ _ _ _ _ => none) (fun g => S4_3b D m g) (fun G3 st => E c4_3b [.lp v4_3 G3, .blk 2, .sj v4_1 c4_1] st) rfl (fun g => T4_3b hE g) m
theorem T4_0 (hE : FX x4 D m E) : S4_0 D m = e4_0 (E c4_0 []) := by unfold S4_0; rw [T4_3 hE, hE c4_0]; kernel_rfl
theorem T4_5 (hE : FX x4 D m E) (G4) : S4_5 D m (e4_4 G4) = e4_5 (E c4_5 [.lp v4_4 G4, .blk 0, .sj v4_0 c4_0]) := by unfold S4_5; rw [hE c4_5]; kernel_rfl
theorem T4_4b (hE : FX x4 D m E) (G4) : S4_4b D m (e4_4 G4) = e4_4 (E c4_4b [.lp v4_4 G4, .blk 0, .sj v4_0 c4_0]) := by unfold S4_4b; rw [T4_5 hE G4, T4_0 hE, hE c4_4b]; kernel_rfl
theorem T4_4 (hE : FX x4 D m E) : S4_4 D m = e4_4 (nrec (fun _ => none) (fun _ G4 st => E c4_4b [.lp v4_4 G4, .blk 0, .sj v4_0 c4_0] st) m) :=
  nrec_emb e4_4 (fun _ _ _ _ _ _ => none) (fun g => S4_4b D m g) (fun G4 st => E c4_4b [.lp v4_4 G4, .blk 0, .sj v4_0 c4_0] st) rfl (fun g => T4_4b hE g) m
theorem T4_6 (hE : FX x4 D m E) : S4_6 D m = e4_6 (E c4_e []) := by unfold S4_6; rw [T4_4 hE, hE c4_e]; kernel_rfl
theorem X4 : XTie S4 x4 := X_of fun D m E hE args h u => by unfold S4; rw [T4_6 hE]; kernel_rfl
/- 5 -/
def c5_e : XC := (.sO [.mv p4 (cb false) .b] (.seq (.seq (.oX [.cl p13 8 [] .b, .P p14 (.un .not q13) .b]) (.cond q14 (.seq (.oX [.mv p4 (cb false) .b]) .ret) .skip)) (.sO [.P p15 (.build [(.str []), (.str []), (.str []), (.str []), (.str []), (.str []), (.str []), (.str []), (.str []), (.str []), (.str []), (.str []), (.str []), (.str []), (.str []), (.str []), (.str []), (.str [])] [⟨0, 1, (.c (.str [124, 124]))⟩, ⟨1, 1, (.c (.str [38, 38]))⟩, ⟨2, 1, (.c (.str [124]))⟩, ⟨3, 1, (.c (.str [94]))⟩, ⟨4, 1, (.c (.str [38]))⟩, ⟨5, 1, (.c (.str [61, 61]))⟩, ⟨6, 1, (.c (.str [33, 61]))⟩, ⟨7, 1, (.c (.str [60]))⟩, ⟨8, 1, (.c (.str [60, 61]))⟩, ⟨9, 1, (.c (.str [62]))⟩, ⟨10, 1, (.c (.str [62, 61]))⟩, ⟨11, 1, (.c (.str [60, 60]))⟩, ⟨12, 1, (.c (.str [62, 62]))⟩, ⟨13, 1, (.c (.str [43]))⟩, ⟨14, 1, (.c (.str [45]))⟩, ⟨15, 1, (.c (.str [42]))⟩, ⟨16, 1, (.c (.str [47]))⟩, ⟨17, 1, (.c (.str [37]))⟩]) .v, .al p5 (.new [(.str []), (.str []), (.str []), (.str []), (.str []), (.str []), (.str []), (.str []), (.str []), (.str []), (.str []), (.str []), (.str []), (.str []), (.str []), (.str []), (.str []), (.str [])]), .ss 18 q5 q15] (.sO [.P p16 (.build [(kI 0), (kI 0), (kI 0), (kI 0), (kI 0), (kI 0), (kI 0), (kI 0), (kI 0), (kI 0), (kI 0), (kI 0), (kI 0), (kI 0), (kI 0), (kI 0), (kI 0), (kI 0)] [⟨0, 1, (ci 0)⟩, ⟨1, 1, (ci 1)⟩, ⟨2, 1, (ci 2)⟩, ⟨3, 1, (ci 3)⟩, ⟨4, 1, (ci 4)⟩, ⟨5, 1, (ci 5)⟩, ⟨6, 1, (ci 5)⟩, ⟨7, 1, (ci 6)⟩, ⟨8, 1, (ci 6)⟩, ⟨9, 1, (ci 6)⟩, ⟨10, 1, (ci 6)⟩, ⟨11, 1, (ci 7)⟩, ⟨12, 1, (ci 7)⟩, ⟨13, 1, (ci 8)⟩, ⟨14, 1, (ci 8)⟩, ⟨15, 1, (ci 9)⟩, ⟨16, 1, (ci 9)⟩, ⟨17, 1, (ci 9)⟩]) .v, .al p6 (.new [(kI 0), (kI 0), (kI 0), (kI 0), (kI 0), (kI 0), (kI 0), (kI 0), (kI 0), (kI 0), (kI 0), (kI 0), (kI 0), (kI 0), (kI 0), (kI 0), (kI 0), (kI 0)]), .ss 18 q6 q16] (.sO [.mv p17 q0 tC, .bn p18 .rem q17 (.c (.int .u8 (.ofNat 18))) tC, .mv p19 q1 tC, .bn p20 .rem q19 (.c (.int .u8 (.ofNat 18))) tC, .mv p7 q18 tC, .mv p8 q20 tC] (.seq (.ops true (XL.of [.mv p22 q7 tC, .P p23 (.iaddr (.arr 18 1) q5 q22) .v, .ld p24 q23 .s, .bn p25 .add (.c (.str [105, 110, 116, 32, 118, 61, 49])) q24 .s, .bn p26 .add q25 (.c (.str [50])) .s, .mv p27 q8 tC, .P p28 (.iaddr (.arr 18 1) q5 q27) .v, .ld p29 q28 .s, .bn p30 .add q26 q29 .s, .bn p31 .add q30 (.c (.str [51, 59])) .s, .al p9 (.new [.nils]), .cl p32 9 [q31] .v, .mv p21 q32 .v, .P p33 (.ext q21 0) .v, .P p34 (.ext q21 1) tI, .P p35 (.ext q21 2) tI, .ss 1 q9 q33, .mv p10 q34 tI, .mv p11 q35 tI])) (.seq (.seq (.oX [.mv p36 q11 tI, .bn p37 .neq q36 (ci 0) .b, .mv p38 q37 .b, .ge p38 (XL.of [.G p38 false p39 (.faddr 0 q9) .v, .o ⟨(some p40), (.l (.cell q39)), (some (p38, false)), []⟩ .v, .G p38 false p41 (.lenl q40) tI, .G p38 false p42 (.bin .neq q41 (ci 1)) .b, .P p43 (.pick q38 (cb true) q42) .b]) p43 .b, .mv p44 q43 .b, .ge p44 (XL.of [.G p44 false p45 (.faddr 0 q9) .v, .o ⟨(some p46), (.l (.cell q45)), (some (p44, false)), []⟩ .v, .G p44 false p47 (.iaddr (.sl 17) q46 (ci 0)) .v, .G p44 false p48 (.faddr 6 q47) .v, .o ⟨(some p49), (.l (.cell q48)), (some (p44, false)), []⟩ .v, .G p44 false p50 (.lenl q49) tI, .G p44 false p51 (.bin .neq q50 (ci 1)) .b, .P p52 (.pick q44 (cb true) q51) .b]) p52 .b]) (.cond q52 (.seq (.oX [.mv p4 (cb false) .b]) .ret) .skip)) (.sO [.fa p53 0 q9, .ld p54 q53 .v, .P p55 (.iaddr (.sl 17) q54 (ci 0)) .v, .fa p56 6 q55, .ld p57 q56 .v, .P p58 (.iaddr (.sl 8) q57 (ci 0)) .v, .L p59 (.cells 8 q58) .v, .al p12 (.new [(kI 0), (.str []), (.str []), (.int .u32 (.ofNat 0)), (.int .u64 (.ofNat 0)), .nils, (kI 0), (kI 0)]), .ss 8 q12 q59] (.seq (.seq (.oX [.fa p60 5 q12, .ld p61 q60 .v, .P p62 (.lenl q61) tI, .bn p63 .neq q62 (ci 2) .b, .mv p64 q63 .b, .ge p64 (XL.of [.G p64 false p65 (.faddr 0 q12) .v, .o ⟨(some p66), (.l (.cell q65)), (some (p64, false)), []⟩ tI, .G p64 false p67 (.bin .neq q66 (ci 5)) .b, .P p68 (.pick q64 (cb true) q67) .b]) p68 .b]) (.cond q68 (.seq (.oX [.mv p4 (cb false) .b]) .ret) .skip)) (.seq (.seq (.ops true (XL.of [.mv p69 q8 tC, .P p70 (.iaddr (.arr 18 1) q6 q69) .v, .ld p71 q70 tI, .mv p72 q7 tC, .P p73 (.iaddr (.arr 18 1) q6 q72) .v, .ld p74 q73 tI, .bn p75 .gtr q71 q74 .b])) (.cond q75 (.seq (.ops true (XL.of [.fa p76 1 q12, .ld p77 q76 .s, .mv p78 q7 tC, .P p79 (.iaddr (.arr 18 1) q5 q78) .v, .ld p80 q79 .s, .bn p81 .eql q77 q80 .b, .mv p82 q81 .b, .ge p82 (XL.of [.G p82 true p83 (.faddr 5 q12) .v, .o ⟨(some p84), (.l (.cell q83)), (some (p82, true)), []⟩ .v, .G p82 true p85 (.iaddr (.sl 8) q84 (ci 0)) .v, .G p82 true p86 (.faddr 3 q85) .v, .o ⟨(some p87), (.l (.cell q86)), (some (p82, true)), []⟩ tW, .G p82 true p88 (.bin .eql q87 (.c (.int .u32 (.ofNat 1)))) .b, .P p89 (.pick q82 q88 (cb false)) .b]) p89 .b, .mv p90 q89 .b, .ge p90 (XL.of [.G p90 true p91 (.faddr 5 q12) .v, .o ⟨(some p92), (.l (.cell q91)), (some (p90, true)), []⟩ .v, .G p90 true p93 (.iaddr (.sl 8) q92 (ci 1)) .v, .G p90 true p94 (.faddr 1 q93) .v, .o ⟨(some p95), (.l (.cell q94)), (some (p90, true)), []⟩ .s, .G p90 true p96 (.mov q8) tC, .G p90 true p97 (.iaddr (.arr 18 1) q5 q96) .v, .o ⟨(some p98), (.l (.cell q97)), (some (p90, true)), []⟩ .s, .G p90 true p99 (.bin .eql q95 q98) .b, .P p100 (.pick q90 q99 (cb false)) .b]) p100 .b, .mv p4 q100 .b])) .ret) .skip)) (.seq (.ops true (XL.of [.fa p101 1 q12, .ld p102 q101 .s, .mv p103 q8 tC, .P p104 (.iaddr (.arr 18 1) q5 q103) .v, .ld p105 q104 .s, .bn p106 .eql q102 q105 .b, .mv p107 q106 .b, .ge p107 (XL.of [.G p107 true p108 (.faddr 5 q12) .v, .o ⟨(some p109), (.l (.cell q108)), (some (p107, true)), []⟩ .v, .G p107 true p110 (.iaddr (.sl 8) q109 (ci 1)) .v, .G p107 true p111 (.faddr 3 q110) .v, .o ⟨(some p112), (.l (.cell q111)), (some (p107, true)), []⟩ tW, .G p107 true p113 (.bin .eql q112 (.c (.int .u32 (.ofNat 3)))) .b, .P p114 (.pick q107 q113 (cb false)) .b]) p114 .b, .mv p115 q114 .b, .ge p115 (XL.of [.G p115 true p116 (.faddr 5 q12) .v, .o ⟨(some p117), (.l (.cell q116)), (some (p115, true)), []⟩ .v, .G p115 true p118 (.iaddr (.sl 8) q117 (ci 0)) .v, .G p115 true p119 (.faddr 1 q118) .v, .o ⟨(some p120), (.l (.cell q119)), (some (p115, true)), []⟩ .s, .G p115 true p121 (.mov q7) tC, .G p115 true p122 (.iaddr (.arr 18 1) q5 q121) .v, .o ⟨(some p123), (.l (.cell q122)), (some (p115, true)), []⟩ .s, .G p115 true p124 (.bin .eql q120 q123) .b, .P p125 (.pick q115 q124 (cb false)) .b]) p125 .b, .mv p4 q125 .b])) (.s .ret))))))))))))
def x5 : XFn := ⟨[tC, tC], false, [(.tmp p4)], c5_e⟩
def e5_0 (k t0 t1 h) := kN k [(p0, (vC t0)), (p1, (vC t1))] h
def S5_0 (D : CallD) (m : Nat) (t0 t1 : Int) (h : HP) : Res2 :=
 cal D 8 [] h fun t13 h1 =>
 asB t13 fun t13a =>
 let t14 := !t13a
 br t14 (
 some (.ret (vB false) h1, .no)) (
 let t15 := (AV.agg [(vS ([124, 124] : LN)), (vS ([38, 38] : LN)), (vS ([124] : LN)), (vS ([94] : LN)), (vS ([38] : LN)), (vS ([61, 61] : LN)), (vS ([33, 61] : LN)), (vS ([60] : LN)), (vS ([60, 61] : LN)), (vS ([62] : LN)), (vS ([62, 61] : LN)), (vS ([60, 60] : LN)), (vS ([62, 62] : LN)), (vS ([43] : LN)), (vS ([45] : LN)), (vS ([42] : LN)), (vS ([47] : LN)), (vS ([37] : LN))])
 let t5 := AV.ptr (HP.nxQ h1) 0
 let h2 := HP.newQ h1 (.cells true [(.str []), (.str []), (.str []), (.str []), (.str []), (.str []), (.str []), (.str []), (.str []), (.str []), (.str []), (.str []), (.str []), (.str []), (.str []), (.str []), (.str []), (.str [])])
 stsC 18 t5 t15 h2 fun h3 =>
 let t16 := (AV.agg [(vI (Int.ofNat 0)), (vI (Int.ofNat 1)), (vI (Int.ofNat 2)), (vI (Int.ofNat 3)), (vI (Int.ofNat 4)), (vI (Int.ofNat 5)), (vI (Int.ofNat 5)), (vI (Int.ofNat 6)), (vI (Int.ofNat 6)), (vI (Int.ofNat 6)), (vI (Int.ofNat 6)), (vI (Int.ofNat 7)), (vI (Int.ofNat 7)), (vI (Int.ofNat 8)), (vI (Int.ofNat 8)), (vI (Int.ofNat 9)), (vI (Int.ofNat 9)), (vI (Int.ofNat 9))])
 let t6 := AV.ptr (HP.nxQ h3) 0
 let h4 := HP.newQ h3 (.cells true [(kI 0), (kI 0), (kI 0), (kI 0), (kI 0), (kI 0), (kI 0), (kI 0), (kI 0), (kI 0), (kI 0), (kI 0), (kI 0), (kI 0), (kI 0), (kI 0), (kI 0), (kI 0)])
 stsC 18 t6 t16 h4 fun h5 =>
 let t18 := Int.tmod t0 (Int.ofNat 18)
 let t20 := Int.tmod t1 (Int.ofNat 18)
 iarC 18 1 t5 (vC t18) fun t23 =>
 ldS t23 h5 fun t24 =>
 obS (strBin .add ([105, 110, 116, 32, 118, 61, 49] : LN) t24) fun t25 =>
 obS (strBin .add t25 ([50] : LN)) fun t26 =>
 iarC 18 1 t5 (vC t20) fun t28 =>
 ldS t28 h5 fun t29 =>
 obS (strBin .add t26 t29) fun t30 =>
 obS (strBin .add t30 ([51, 59] : LN)) fun t31 =>
 let t9 := AV.ptr (HP.nxQ h5) 0
 let h6 := HP.newQ h5 (.cells true [.nils])
 cal D 9 [(vS t31)] h6 fun t32 h7 =>
 extC t32 0 fun t33 =>
 extC t32 1 fun vt34 => asI .i64 vt34 fun t34 =>
 extC t32 2 fun vt35 => asI .i64 vt35 fun t35 =>
 stsC 1 t9 t33 h7 fun h8 =>
 let t37 := notQ (eqQ t35 (Int.ofNat 0))
 obB (brV t37 (
 some (vB true)) (
 let t39 := (AV.ptr (HP.nxQ h5) (Nat.add 0 0))
 cellCV t39 h8 fun t40 =>
 lenCV t40 fun vt41 => asIV .i64 vt41 fun t41 =>
 let t42 := notQ (eqQ t41 (Int.ofNat 1))
 some (vB t42))) fun t43 =>
 obB (brV t43 (
 some (vB true)) (
 let t45 := (AV.ptr (HP.nxQ h5) (Nat.add 0 0))
 cellCV t45 h8 fun t46 =>
 iasCV 17 t46 (vI (Int.ofNat 0)) fun t47 =>
 faCV 6 t47 fun t48 =>
 cellCV t48 h8 fun t49 =>
 lenCV t49 fun vt50 => asIV .i64 vt50 fun t50 =>
 let t51 := notQ (eqQ t50 (Int.ofNat 1))
 some (vB t51))) fun t52 =>
 br t52 (
 some (.ret (vB false) h8, .no)) (
 let t53 := (AV.ptr (HP.nxQ h5) (Nat.add 0 0))
 cellC t53 h8 fun t54 =>
 iasC 17 t54 (vI (Int.ofNat 0)) fun t55 =>
 faC 6 t55 fun t56 =>
 cellC t56 h8 fun t57 =>
 iasC 8 t57 (vI (Int.ofNat 0)) fun t58 =>
 cellsC 8 t58 h8 fun t59 =>
 let t12 := AV.ptr (HP.nxQ h8) 0
 let h9 := HP.newQ h8 (.cells true [(kI 0), (.str []), (.str []), (.int .u32 (.ofNat 0)), (.int .u64 (.ofNat 0)), .nils, (kI 0), (kI 0)])
 stsC 8 t12 t59 h9 fun h10 =>
 let t60 := (AV.ptr (HP.nxQ h8) (Nat.add 0 5))
 cellC t60 h10 fun t61 =>
 lenC t61 fun vt62 => asI .i64 vt62 fun t62 =>
 let t63 := notQ (eqQ t62 (Int.ofNat 2))
 obB (brV t63 (
 some (vB true)) (
 let t65 := (AV.ptr (HP.nxQ h8) (Nat.add 0 0))
 ldIV t65 h10 fun t66 =>
 let t67 := notQ (eqQ t66 (Int.ofNat 5))
 some (vB t67))) fun t68 =>
 br t68 (
 some (.ret (vB false) h10, .no)) (
 iarC 18 1 t6 (vC t20) fun t70 =>
 ldI t70 h10 fun t71 =>
 iarC 18 1 t6 (vC t18) fun t73 =>
 ldI t73 h10 fun t74 =>
 let t75 := ltQ t74 t71
 br t75 (
 let t76 := (AV.ptr (HP.nxQ h8) (Nat.add 0 1))
 ldS t76 h10 fun t77 =>
 iarC 18 1 t5 (vC t18) fun t79 =>
 ldS t79 h10 fun t80 =>
 let t81 := eqL t77 t80
 obB (brV t81 (
 let t83 := (AV.ptr (HP.nxQ h8) (Nat.add 0 5))
 cellCV t83 h10 fun t84 =>
 iasCV 8 t84 (vI (Int.ofNat 0)) fun t85 =>
 faCV 3 t85 fun t86 =>
 ldWV t86 h10 fun t87 =>
 binCV .eql (vW t87) (vW (Int.ofNat 1)) fun vt88 => asBV vt88 fun t88 =>
 some (vB t88)) (
 some (vB false))) fun t89 =>
 obB (brV t89 (
 let t91 := (AV.ptr (HP.nxQ h8) (Nat.add 0 5))
 cellCV t91 h10 fun t92 =>
 iasCV 8 t92 (vI (Int.ofNat 1)) fun t93 =>
 faCV 1 t93 fun t94 =>
 ldSV t94 h10 fun t95 =>
 iarCV 18 1 t5 (vC t20) fun t97 =>
 ldSV t97 h10 fun t98 =>
 let t99 := eqL t95 t98
 some (vB t99)) (
 some (vB false))) fun t100 =>
 some (.ret (vB t100) h10, .no)) (
 let t101 := (AV.ptr (HP.nxQ h8) (Nat.add 0 1))
 ldS t101 h10 fun t102 =>
 iarC 18 1 t5 (vC t20) fun t104 =>
 ldS t104 h10 fun t105 =>
 let t106 := eqL t102 t105
 obB (brV t106 (
 let t108 := (AV.ptr (HP.nxQ h8) (Nat.add 0 5))
 cellCV t108 h10 fun t109 =>
 iasCV 8 t109 (vI (Int.ofNat 1)) fun t110 =>
 faCV 3 t110 fun t111 =>
 ldWV t111 h10 fun t112 =>
 binCV .eql (vW t112) (vW (Int.ofNat 3)) fun vt113 => asBV vt113 fun t113 =>
 some (vB t113)) (
 some (vB false))) fun t114 =>
 obB (brV t114 (
 let t116 := (AV.ptr (HP.nxQ h8) (Nat.add 0 5))
 cellCV t116 h10 fun t117 =>
 iasCV 8 t117 (vI (Int.ofNat 0)) fun t118 =>
 faCV 1 t118 fun t119 =>
 ldSV t119 h10 fun t120 =>
 iarCV 18 1 t5 (vC t18) fun t122 =>
 ldSV t122 h10 fun t123 =>
 let t124 := eqL t120 t123
 some (vB t124)) (
 some (vB false))) fun t125 =>
 some (.ret (vB t125) h10, .no)))))
def S5 : SFn := fun D m args h u => nou u <| popI .u8 args fun t0 args => popI .u8 args fun t1 args => endA args (S5_0 D m t0 t1 h)
theorem T5_0 (hE : FX x5 D m E) : S5_0 D m = e5_0 (E c5_e []) := by unfold S5_0; rw [hE c5_e]; kernel_rfl
theorem X5 : XTie S5 x5 := X_of fun D m E hE args h u => by unfold S5; rw [T5_0 hE]; kernel_rfl
/- 6 -/
def v6_0 : List Pos := [p0, p3, p4]
def c6_0 : XC := (.sO [.mv p34 q3 .s, .bn p35 .add (.c (.str [105, 110, 116, 32, 118, 61, 102, 40])) q34 .s, .bn p36 .add q35 (.c (.str [41, 59])) .s, .cl p37 9 [q36] .v, .mv p33 q37 .v, .P p38 (.ext q33 0) .v, .P p39 (.ext q33 1) tI, .P p40 (.ext q33 2) tI, .al p6 (.new [.nils]), .ss 1 q6 q38, .mv p7 q39 tI, .mv p8 q40 tI] (.sO [.mv p42 q4 .s, .bn p43 .add (.c (.str [105, 110, 116, 32, 102, 40])) q42 .s, .bn p44 .add q43 (.c (.str [41, 59])) .s, .cl p45 9 [q44] .v, .mv p41 q45 .v, .P p46 (.ext q41 0) .v, .P p47 (.ext q41 1) tI, .P p48 (.ext q41 2) tI, .al p9 (.new [.nils]), .ss 1 q9 q46, .mv p10 q47 tI, .mv p11 q48 tI] (.seq (.seq (.oX [.mv p49 q0 tI, .bn p50 .gtr q49 (ci 8) .b]) (.cond q50 (.seq (.oX [.mv p51 q8 tI, .bn p52 .eql q51 (ci 5) .b, .mv p53 q52 .b, .ge p53 (XL.of [.G p53 true p54 (.mov q7) tI, .G p53 true p55 (.bin .eql q54 (ci 24)) .b, .P p56 (.pick q53 q55 (cb false)) .b]) p56 .b, .mv p57 q56 .b, .ge p57 (XL.of [.G p57 true p58 (.mov q11) tI, .G p57 true p59 (.bin .eql q58 (ci 5)) .b, .P p60 (.pick q57 q59 (cb false)) .b]) p60 .b, .mv p61 q60 .b, .ge p61 (XL.of [.G p61 true p62 (.mov q10) tI, .G p61 true p63 (.bin .eql q62 (ci 54)) .b, .P p64 (.pick q61 q63 (cb false)) .b]) p64 .b, .mv p2 q64 .b]) .ret) .skip)) (.sO [.mv p65 q8 tI, .bn p66 .eql q65 (ci 0) .b, .mv p67 q66 .b, .ge p67 (XL.of [.G p67 true p68 (.faddr 0 q6) .v, .o ⟨(some p69), (.l (.cell q68)), (some (p67, true)), []⟩ .v, .G p67 true p70 (.lenl q69) tI, .G p67 true p71 (.bin .eql q70 (ci 1)) .b, .P p72 (.pick q67 q71 (cb false)) .b]) p72 .b, .mv p73 q72 .b, .ge p73 (XL.of [.G p73 true p74 (.faddr 0 q6) .v, .o ⟨(some p75), (.l (.cell q74)), (some (p73, true)), []⟩ .v, .G p73 true p76 (.iaddr (.sl 17) q75 (ci 0)) .v, .G p73 true p77 (.faddr 6 q76) .v, .o ⟨(some p78), (.l (.cell q77)), (some (p73, true)), []⟩ .v, .G p73 true p79 (.iaddr (.sl 8) q78 (ci 0)) .v, .G p73 true p80 (.faddr 5 q79) .v, .o ⟨(some p81), (.l (.cell q80)), (some (p73, true)), []⟩ .v, .G p73 true p82 (.lenl q81) tI, .G p73 true p83 (.mov q0) tI, .G p73 true p84 (.bin .eql q82 q83) .b, .P p85 (.pick q73 q84 (cb false)) .b]) p85 .b, .mv p86 q85 .b, .ge p86 (XL.of [.G p86 true p87 (.mov q11) tI, .G p86 true p88 (.bin .eql q87 (ci 0)) .b, .P p89 (.pick q86 q88 (cb false)) .b]) p89 .b, .mv p90 q89 .b, .ge p90 (XL.of [.G p90 true p91 (.faddr 0 q9) .v, .o ⟨(some p92), (.l (.cell q91)), (some (p90, true)), []⟩ .v, .G p90 true p93 (.lenl q92) tI, .G p90 true p94 (.bin .eql q93 (ci 1)) .b, .P p95 (.pick q90 q94 (cb false)) .b]) p95 .b, .mv p96 q95 .b, .ge p96 (XL.of [.G p96 true p97 (.faddr 0 q9) .v, .o ⟨(some p98), (.l (.cell q97)), (some (p96, true)), []⟩ .v, .G p96 true p99 (.iaddr (.sl 17) q98 (ci 0)) .v, .G p96 true p100 (.faddr 8 q99) .v, .o ⟨(some p101), (.l (.cell q100)), (some (p96, true)), []⟩ .v, .G p96 true p102 (.lenl q101) tI, .G p96 true p103 (.mov q0) tI, .G p96 true p104 (.bin .eql q102 q103) .b, .P p105 (.pick q96 q104 (cb false)) .b]) p105 .b, .mv p2 q105 .b] (.s .ret)))))
def v6_2 : List Pos := [p0, p3, p4, p5]
def c6_2 : XC := (.s (.oX [.mv p21 q5 tI, .bn p22 .add q21 (ci 1) tI, .mv p5 q22 tI]))
def v6_3 : List Pos := [p0, p3, p4, p5]
def c6_3 : XC := (.sO [.mv p29 q3 .s, .bn p30 .add q29 (.c (.str [49])) .s, .mv p3 q30 .s] (.s (.oX [.mv p31 q4 .s, .bn p32 .add q31 (.c (.str [105, 110, 116, 32, 97])) .s, .mv p4 q32 .s])))
def v6_1 : List Pos := [p0, p3, p4, p5]
def c6_1b : XC := (.seq (.seq (.oX [.mv p18 q5 tI, .mv p19 q0 tI, .bn p20 .lss q18 q19 .b]) (.cond q20 .skip (.exit 0))) (.sj v6_2 (.block 1 (.sj v6_3 (.sO [.mv p23 q5 tI, .bn p24 .gtr q23 (ci 0) .b] (.cond q24 (.sO [.mv p25 q3 .s, .bn p26 .add q25 (.c (.str [44])) .s, .mv p3 q26 .s] (.s (.oX [.mv p27 q4 .s, .bn p28 .add q27 (.c (.str [44])) .s, .mv p4 q28 .s]))) (.s .skip))) c6_3)) c6_2))
def c6_e : XC := (.sO [.mv p2 (cb false) .b] (.seq (.seq (.oX [.cl p12 8 [] .b, .P p13 (.un .not q12) .b]) (.cond q13 (.seq (.oX [.mv p2 (cb false) .b]) .ret) .skip)) (.sO [.mv p14 q0 tI, .P p15 (.conv (.ii .u64) q14) (.i .u64), .bn p16 .rem q15 (.c (.int .u64 (.ofNat 12))) (.i .u64), .P p17 (.conv (.ii .i64) q16) tI, .mv p0 q17 tI] (.sO [.mv p3 (.c (.str [])) .s, .mv p4 (.c (.str [])) .s] (.sj v6_0 (.sO [.mv p5 (ci 0) tI] (.block 0 (.loop v6_1 c6_1b))) c6_0)))))
def x6 : XFn := ⟨[tI], false, [(.tmp p2)], c6_e⟩
def e6_0 (k t0 t3 t4 h) := kN k [(p0, (vI t0)), (p3, (vS t3)), (p4, (vS t4))] h
def S6_0 (D : CallD) (m : Nat) (t0 : Int) (t3 t4 : LN) (h : HP) : Res2 :=
 obS (strBin .add ([105, 110, 116, 32, 118, 61, 102, 40] : LN) t3) fun t35 =>
 obS (strBin .add t35 ([41, 59] : LN)) fun t36 =>
 cal D 9 [(vS t36)] h fun t37 h6 =>
 extC t37 0 fun t38 =>
 extC t37 1 fun vt39 => asI .i64 vt39 fun t39 =>
 extC t37 2 fun vt40 => asI .i64 vt40 fun t40 =>
 let t6 := AV.ptr (HP.nxQ h6) 0
 let h7 := HP.newQ h6 (.cells true [.nils])
 stsC 1 t6 t38 h7 fun h8 =>
 obS (strBin .add ([105, 110, 116, 32, 102, 40] : LN) t4) fun t43 =>
 obS (strBin .add t43 ([41, 59] : LN)) fun t44 =>
 cal D 9 [(vS t44)] h8 fun t45 h9 =>
 extC t45 0 fun t46 =>
 extC t45 1 fun vt47 => asI .i64 vt47 fun t47 =>
 extC t45 2 fun vt48 => asI .i64 vt48 fun t48 =>
 let t9 := AV.ptr (HP.nxQ h9) 0
 let h10 := HP.newQ h9 (.cells true [.nils])
 stsC 1 t9 t46 h10 fun h11 =>
 let t50 := ltQ (Int.ofNat 8) t0
 br t50 (
 let t52 := eqQ t40 (Int.ofNat 5)
 obB (brV t52 (
 let t55 := eqQ t39 (Int.ofNat 24)
 some (vB t55)) (
 some (vB false))) fun t56 =>
 obB (brV t56 (
 let t59 := eqQ t48 (Int.ofNat 5)
 some (vB t59)) (
 some (vB false))) fun t60 =>
 obB (brV t60 (
 let t63 := eqQ t47 (Int.ofNat 54)
 some (vB t63)) (
 some (vB false))) fun t64 =>
 some (.ret (vB t64) h11, .no)) (
 let t66 := eqQ t40 (Int.ofNat 0)
 obB (brV t66 (
 let t68 := (AV.ptr (HP.nxQ h6) (Nat.add 0 0))
 cellCV t68 h11 fun t69 =>
 lenCV t69 fun vt70 => asIV .i64 vt70 fun t70 =>
 let t71 := eqQ t70 (Int.ofNat 1)
 some (vB t71)) (
 some (vB false))) fun t72 =>
 obB (brV t72 (
 let t74 := (AV.ptr (HP.nxQ h6) (Nat.add 0 0))
 cellCV t74 h11 fun t75 =>
 iasCV 17 t75 (vI (Int.ofNat 0)) fun t76 =>
 faCV 6 t76 fun t77 =>
 cellCV t77 h11 fun t78 =>
 iasCV 8 t78 (vI (Int.ofNat 0)) fun t79 =>
 faCV 5 t79 fun t80 =>
 cellCV t80 h11 fun t81 =>
 lenCV t81 fun vt82 => asIV .i64 vt82 fun t82 =>
 let t84 := eqQ t82 t0
 some (vB t84)) (
 some (vB false))) fun t85 =>
 obB (brV t85 (
 let t88 := eqQ t48 (Int.ofNat 0)
 some (vB t88)) (
 some (vB false))) fun t89 =>
 obB (brV t89 (
 let t91 := (AV.ptr (HP.nxQ h9) (Nat.add 0 0))
 cellCV t91 h11 fun t92 =>
 lenCV t92 fun vt93 => asIV .i64 vt93 fun t93 =>
 let t94 := eqQ t93 (Int.ofNat 1)
 some (vB t94)) (
 some (vB false))) fun t95 =>
 obB (brV t95 (
 let t97 := (AV.ptr (HP.nxQ h9) (Nat.add 0 0))
 cellCV t97 h11 fun t98 =>
 iasCV 17 t98 (vI (Int.ofNat 0)) fun t99 =>
 faCV 8 t99 fun t100 =>
 cellCV t100 h11 fun t101 =>
 lenCV t101 fun vt102 => asIV .i64 vt102 fun t102 =>
 let t104 := eqQ t102 t0
 some (vB t104)) (
 some (vB false))) fun t105 =>
 some (.ret (vB t105) h11, .no))
def e6_2 (k t0 t3 t4 t5 h) := kN k [(p0, (vI t0)), (p3, (vS t3)), (p4, (vS t4)), (p5, (vI t5))] h
def S6_2 (D : CallD) (m : Nat) (g1 : Int → LN → LN → Int → HP → Res2) (t0 : Int) (t3 t4 : LN) (t5 : Int) (h : HP) : Res2 :=
 let t22 := wrQ .i64 (addQ t5 (Int.ofNat 1))
 g1 t0 t3 t4 t22 h
def e6_3 (k t0 t3 t4 t5 h) := kN k [(p0, (vI t0)), (p3, (vS t3)), (p4, (vS t4)), (p5, (vI t5))] h
def S6_3 (D : CallD) (m : Nat) (g1 : Int → LN → LN → Int → HP → Res2) (t0 : Int) (t3 t4 : LN) (t5 : Int) (h : HP) : Res2 :=
 obS (strBin .add t3 ([49] : LN)) fun t30 =>
 obS (strBin .add t4 ([105, 110, 116, 32, 97] : LN)) fun t32 =>
 S6_2 D m g1 t0 t30 t32 t5 h
def e6_1 (k t0 t3 t4 t5 h) := kN k [(p0, (vI t0)), (p3, (vS t3)), (p4, (vS t4)), (p5, (vI t5))] h
def S6_1b (D : CallD) (m : Nat) (g1 : Int → LN → LN → Int → HP → Res2) (t0 : Int) (t3 t4 : LN) (t5 : Int) (h : HP) : Res2 :=
 let t20 := ltQ t5 t0
 br t20 (
 let t24 := ltQ (Int.ofNat 0) t5
 br t24 (
 obS (strBin .add t3 ([44] : LN)) fun t26 =>
 obS (strBin .add t4 ([44] : LN)) fun t28 =>
 S6_3 D m g1 t0 t26 t28 t5 h) (
 S6_3 D m g1 t0 t3 t4 t5 h)) (
 S6_0 D m t0 t3 t4 h)
def S6_1 (D : CallD) (m : Nat) : Int → LN → LN → Int → HP → Res2 := nrec (fun _ _ _ _ _ => none) (fun _ g => S6_1b D m g) m
def e6_4 (k t0 h) := kN k [(p0, (vI t0))] h
def S6_4 (D : CallD) (m : Nat) (t0 : Int) (h : HP) : Res2 :=
 cal D 8 [] h fun t12 h5 =>
 asB t12 fun t12a =>
 let t13 := !t12a
 br t13 (
 some (.ret (vB false) h5, .no)) (
 let t15 := wrapF .u64 t0
 let t16 := Int.tmod t15 (Int.ofNat 12)
 let t17 := wrapF .i64 t16
 S6_1 D m t17 ([] : LN) ([] : LN) (Int.ofNat 0) h5)
def S6 : SFn := fun D m args h u => nou u <| popI .i64 args fun t0 args => endA args (S6_4 D m t0 h)
theorem T6_0 (hE : FX x6 D m E) : S6_0 D m = e6_0 (E c6_0 []) := by unfold S6_0; rw [hE c6_0]; kernel_rfl
theorem T6_2 (hE : FX x6 D m E) (G1) : S6_2 D m (e6_1 G1) = e6_2 (E c6_2 [.lp v6_1 G1, .blk 0, .sj v6_0 c6_0]) := by unfold S6_2; rw [hE c6_2]; kernel_rfl
theorem T6_3 (hE : FX x6 D m E) (G1) : S6_3 D m (e6_1 G1) = e6_3 (E c6_3 [.blk 1, .sj v6_2 c6_2, .lp v6_1 G1, .blk 0, .sj v6_0 c6_0]) := by unfold S6_3; rw [T6_2 hE G1, hE c6_3]; kernel_rfl
theorem T6_1b (hE : FX x6 D m E) (G1) : S6_1b D m (e6_1 G1) = e6_1 (E c6_1b [.lp v6_1 G1, .blk 0, .sj v6_0 c6_0]) := by unfold S6_1b; rw [T6_3 hE G1, T6_0 hE, hE c6_1b]; kernel_rfl
theorem T6_1 (hE : FX x6 D m E) : S6_1 D m = e6_1 (nrec (fun _ => none) (fun _ G1 st => E c6_1b [.lp v6_1 G1, .blk 0, .sj v6_0 c6_0] st) m) :=
  nrec_emb e6_1 (fun _ _ _ _ _ => none) (fun g => S6_1b D m g) (fun G1 st => E c6_1b [.lp v6_1 G1, .blk 0, .sj v6_0 c6_0] st) rfl (fun g => T6_1b hE g) m
theorem T6_4 (hE : FX x6 D m E) : S6_4 D m = e6_4 (E c6_e []) := by unfold S6_4; rw [T6_1 hE, hE c6_e]; kernel_rfl
theorem X6 : XTie S6 x6 := X_of fun D m E hE args h u => by unfold S6; rw [T6_4 hE]; kernel_rfl
/- 8 -/
def c8_e : XC := (.sO [.mv p0 (cb false) .b] (.sO [.cl p9 9 [(.c (.str [105, 110, 116, 32, 109, 97, 105, 110, 40, 41, 32, 123, 32, 114, 101, 116, 117, 114, 110, 32, 49, 32, 43, 32, 50, 32, 42, 32, 51, 59, 32, 125]))] .v, .mv p8 q9 .v, .P p10 (.ext q8 0) .v, .P p11 (.ext q8 1) tI, .P p12 (.ext q8 2) tI, .al p1 (.new [.nils]), .ss 1 q1 q10, .mv p2 q11 tI, .mv p3 q12 tI] (.sO [.cl p14 9 [(.c (.str [105, 110, 116, 32, 97, 91, 48, 93, 59]))] .v, .mv p13 q14 .v, .P p15 (.ext q13 0) .v, .P p16 (.ext q13 1) tI, .P p17 (.ext q13 2) tI, .al p4 (.new [.nils]), .ss 1 q4 q15, .mv p5 q16 tI, .mv p6 q17 tI] (.seq (.seq (.oX [.mv p18 q3 tI, .bn p19 .neq q18 (ci 0) .b, .mv p20 q19 .b, .ge p20 (XL.of [.G p20 false p21 (.faddr 0 q1) .v, .o ⟨(some p22), (.l (.cell q21)), (some (p20, false)), []⟩ .v, .G p20 false p23 (.lenl q22) tI, .G p20 false p24 (.bin .neq q23 (ci 1)) .b, .P p25 (.pick q20 (cb true) q24) .b]) p25 .b, .mv p26 q25 .b, .ge p26 (XL.of [.G p26 false p27 (.faddr 0 q1) .v, .o ⟨(some p28), (.l (.cell q27)), (some (p26, false)), []⟩ .v, .G p26 false p29 (.iaddr (.sl 17) q28 (ci 0)) .v, .G p26 false p30 (.faddr 9 q29) .v, .G p26 false p31 (.faddr 2 q30) .v, .o ⟨(some p32), (.l (.cell q31)), (some (p26, false)), []⟩ .v, .G p26 false p33 (.lenl q32) tI, .G p26 false p34 (.bin .neq q33 (ci 1)) .b, .P p35 (.pick q26 (cb true) q34) .b]) p35 .b, .mv p36 q35 .b, .ge p36 (XL.of [.G p36 false p37 (.faddr 0 q1) .v, .o ⟨(some p38), (.l (.cell q37)), (some (p36, false)), []⟩ .v, .G p36 false p39 (.iaddr (.sl 17) q38 (ci 0)) .v, .G p36 false p40 (.faddr 9 q39) .v, .G p36 false p41 (.faddr 2 q40) .v, .o ⟨(some p42), (.l (.cell q41)), (some (p36, false)), []⟩ .v, .G p36 false p43 (.iaddr (.sl 7) q42 (ci 0)) .v, .G p36 false p44 (.faddr 1 q43) .v, .o ⟨(some p45), (.l (.cell q44)), (some (p36, false)), []⟩ .v, .G p36 false p46 (.lenl q45) tI, .G p36 false p47 (.bin .neq q46 (ci 1)) .b, .P p48 (.pick q36 (cb true) q47) .b]) p48 .b]) (.cond q48 (.seq (.oX [.mv p0 (cb false) .b]) .ret) .skip)) (.sO [.fa p49 0 q1, .ld p50 q49 .v, .P p51 (.iaddr (.sl 17) q50 (ci 0)) .v, .fa p52 9 q51, .fa p53 2 q52, .ld p54 q53 .v, .P p55 (.iaddr (.sl 7) q54 (ci 0)) .v, .fa p56 1 q55, .ld p57 q56 .v, .P p58 (.iaddr (.sl 8) q57 (ci 0)) .v, .L p59 (.cells 8 q58) .v, .al p7 (.new [(kI 0), (.str []), (.str []), (.int .u32 (.ofNat 0)), (.int .u64 (.ofNat 0)), .nils, (kI 0), (kI 0)]), .ss 8 q7 q59] (.sO [.fa p60 1 q7, .ld p61 q60 .s, .bn p62 .eql q61 (.c (.str [43])) .b, .mv p63 q62 .b, .ge p63 (XL.of [.G p63 true p64 (.faddr 5 q7) .v, .o ⟨(some p65), (.l (.cell q64)), (some (p63, true)), []⟩ .v, .G p63 true p66 (.lenl q65) tI, .G p63 true p67 (.bin .eql q66 (ci 2)) .b, .P p68 (.pick q63 q67 (cb false)) .b]) p68 .b, .mv p69 q68 .b, .ge p69 (XL.of [.G p69 true p70 (.faddr 5 q7) .v, .o ⟨(some p71), (.l (.cell q70)), (some (p69, true)), []⟩ .v, .G p69 true p72 (.iaddr (.sl 8) q71 (ci 1)) .v, .G p69 true p73 (.faddr 1 q72) .v, .o ⟨(some p74), (.l (.cell q73)), (some (p69, true)), []⟩ .s, .G p69 true p75 (.bin .eql q74 (.c (.str [42]))) .b, .P p76 (.pick q69 q75 (cb false)) .b]) p76 .b, .mv p77 q76 .b, .ge p77 (XL.of [.G p77 true p78 (.mov q6) tI, .G p77 true p79 (.bin .eql q78 (ci 1)) .b, .P p80 (.pick q77 q79 (cb false)) .b]) p80 .b, .mv p81 q80 .b, .ge p81 (XL.of [.G p81 true p82 (.mov q5) tI, .G p81 true p83 (.bin .eql q82 (ci 6)) .b, .P p84 (.pick q81 q83 (cb false)) .b]) p84 .b, .mv p0 q84 .b] (.s .ret)))))))
def x8 : XFn := ⟨[], false, [(.tmp p0)], c8_e⟩
def e8_0 (k h) := kN k [] h
def S8_0 (D : CallD) (m : Nat) (h : HP) : Res2 :=
 cal D 9 [(vS ([105, 110, 116, 32, 109, 97, 105, 110, 40, 41, 32, 123, 32, 114, 101, 116, 117, 114, 110, 32, 49, 32, 43, 32, 50, 32, 42, 32, 51, 59, 32, 125] : LN))] h fun t9 h1 =>
 extC t9 0 fun t10 =>
 extC t9 1 fun vt11 => asI .i64 vt11 fun t11 =>
 extC t9 2 fun vt12 => asI .i64 vt12 fun t12 =>
 let t1 := AV.ptr (HP.nxQ h1) 0
 let h2 := HP.newQ h1 (.cells true [.nils])
 stsC 1 t1 t10 h2 fun h3 =>
 cal D 9 [(vS ([105, 110, 116, 32, 97, 91, 48, 93, 59] : LN))] h3 fun t14 h4 =>
 extC t14 0 fun t15 =>
 extC t14 1 fun vt16 => asI .i64 vt16 fun t16 =>
 extC t14 2 fun vt17 => asI .i64 vt17 fun t17 =>
 let t4 := AV.ptr (HP.nxQ h4) 0
 let h5 := HP.newQ h4 (.cells true [.nils])
 stsC 1 t4 t15 h5 fun h6 =>
 let t19 := notQ (eqQ t12 (Int.ofNat 0))
 obB (brV t19 (
 some (vB true)) (
 let t21 := (AV.ptr (HP.nxQ h1) (Nat.add 0 0))
 cellCV t21 h6 fun t22 =>
 lenCV t22 fun vt23 => asIV .i64 vt23 fun t23 =>
 let t24 := notQ (eqQ t23 (Int.ofNat 1))
 some (vB t24))) fun t25 =>
 obB (brV t25 (
 some (vB true)) (
 let t27 := (AV.ptr (HP.nxQ h1) (Nat.add 0 0))
 cellCV t27 h6 fun t28 =>
 iasCV 17 t28 (vI (Int.ofNat 0)) fun t29 =>
 faCV 9 t29 fun t30 =>
 faCV 2 t30 fun t31 =>
 cellCV t31 h6 fun t32 =>
 lenCV t32 fun vt33 => asIV .i64 vt33 fun t33 =>
 let t34 := notQ (eqQ t33 (Int.ofNat 1))
 some (vB t34))) fun t35 =>
 obB (brV t35 (
 some (vB true)) (
 let t37 := (AV.ptr (HP.nxQ h1) (Nat.add 0 0))
 cellCV t37 h6 fun t38 =>
 iasCV 17 t38 (vI (Int.ofNat 0)) fun t39 =>
 faCV 9 t39 fun t40 =>
 faCV 2 t40 fun t41 =>
 cellCV t41 h6 fun t42 =>
 iasCV 7 t42 (vI (Int.ofNat 0)) fun t43 =>
 faCV 1 t43 fun t44 =>
 cellCV t44 h6 fun t45 =>
 lenCV t45 fun vt46 => asIV .i64 vt46 fun t46 =>
 let t47 := notQ (eqQ t46 (Int.ofNat 1))
 some (vB t47))) fun t48 =>
 br t48 (
 some (.ret (vB false) h6, .no)) (
 let t49 := (AV.ptr (HP.nxQ h1) (Nat.add 0 0))
 cellC t49 h6 fun t50 =>
 iasC 17 t50 (vI (Int.ofNat 0)) fun t51 =>
 faC 9 t51 fun t52 =>
 faC 2 t52 fun t53 =>
 cellC t53 h6 fun t54 =>
 iasC 7 t54 (vI (Int.ofNat 0)) fun t55 =>
 faC 1 t55 fun t56 =>
 cellC t56 h6 fun t57 =>
 iasC 8 t57 (vI (Int.ofNat 0)) fun t58 =>
 cellsC 8 t58 h6 fun t59 =>
 let t7 := AV.ptr (HP.nxQ h6) 0
 let h7 := HP.newQ h6 (.cells true [(kI 0), (.str []), (.str []), (.int .u32 (.ofNat 0)), (.int .u64 (.ofNat 0)), .nils, (kI 0), (kI 0)])
 stsC 8 t7 t59 h7 fun h8 =>
 let t60 := (AV.ptr (HP.nxQ h6) (Nat.add 0 1))
 ldS t60 h8 fun t61 =>
 let t62 := eqL t61 ([43] : LN)
 obB (brV t62 (
 let t64 := (AV.ptr (HP.nxQ h6) (Nat.add 0 5))
 cellCV t64 h8 fun t65 =>
 lenCV t65 fun vt66 => asIV .i64 vt66 fun t66 =>
 let t67 := eqQ t66 (Int.ofNat 2)
 some (vB t67)) (
 some (vB false))) fun t68 =>
 obB (brV t68 (
 let t70 := (AV.ptr (HP.nxQ h6) (Nat.add 0 5))
 cellCV t70 h8 fun t71 =>
 iasCV 8 t71 (vI (Int.ofNat 1)) fun t72 =>
 faCV 1 t72 fun t73 =>
 ldSV t73 h8 fun t74 =>
 let t75 := eqL t74 ([42] : LN)
 some (vB t75)) (
 some (vB false))) fun t76 =>
 obB (brV t76 (
 let t79 := eqQ t17 (Int.ofNat 1)
 some (vB t79)) (
 some (vB false))) fun t80 =>
 obB (brV t80 (
 let t83 := eqQ t16 (Int.ofNat 6)
 some (vB t83)) (
 some (vB false))) fun t84 =>
 some (.ret (vB t84) h8, .no))
def S8 : SFn := fun D m args h u => nou u <| endA args (S8_0 D m h)
theorem T8_0 (hE : FX x8 D m E) : S8_0 D m = e8_0 (E c8_e []) := by unfold S8_0; rw [hE c8_e]; kernel_rfl
theorem X8 : XTie S8 x8 := X_of fun D m E hE args h u => by unfold S8; rw [T8_0 hE]; kernel_rfl
/- 9 -/
def v9_0 : List Pos := [p2, p3, p4]
def c9_0 : XC := (.sO [.L p33 (.cells 1 q2) .v, .ss 1 q2 q33, .st q3 (ci 0), .st q4 (ci 0)] (.s .ret))
def v9_1 : List Pos := [p2, p3, p4, p6]
def c9_1b : XC := (.seq (.seq (.oX [.mv p22 q6 .v, .cl p23 14 [q22] .v, .P p24 (.field 0 1 false q23) tI, .bn p25 .neq q24 (ci 0) .b]) (.cond q25 .skip (.exit 0))) (.block 1 (.s (.ops true (XL.of [.fa p26 0 q2, .ld p27 q26 .v, .mv p28 q6 .v, .o ⟨(some p29), (.call (.fn 15) [q28]), none, [⟨none, .cell q26, p27⟩]⟩ .v, .al p30 (.bsl [(.bool false), (.bool false), (.bool false), (.str []), (kI 0), (kI 0), .nils, (.bool false), .nils, (kI 0), .nils, .nils, (.str []), (kI 0), (kI 0), (kI 0), (kI 0)] 1 [⟨0, 17, q29⟩]), .o ⟨(some p31), (.e (.app 17 200 q27 q30)), none, []⟩ .v, .fa p32 0 q2, .st q32 q31])))))
def c9_e : XC := (.sO [.al p2 (.new [.nils]), .al p3 (.new [(kI 0)]), .al p4 (.new [(kI 0)])] (.sO [.mv p8 q0 .s, .cl p9 12 [q8] .v, .mv p7 q9 .v, .P p10 (.ext q7 0) .v, .P p11 (.ext q7 1) tI, .P p12 (.ext q7 2) tI, .mv p5 q10 .v, .st q3 q11, .st q4 q12] (.seq (.seq (.oX [.ld p13 q4 tI, .bn p14 .neq q13 (ci 0) .b]) (.cond q14 (.seq (.ops true (XL.of [.L p15 (.cells 1 q2) .v, .ld p16 q3 tI, .ld p17 q4 tI, .o ⟨none, (.e (.stores 1 q2 q15)), none, [⟨none, .cell q3, p16⟩, ⟨none, .cell q4, p17⟩]⟩ .v, .o ⟨none, (.e (.store q3 q16)), none, [⟨none, .cell q4, p17⟩]⟩ .v, .st q4 q17])) .ret) .skip)) (.sO [.P p18 (.mkfn 13 [] [q2, q3, q4]) .v, .o ⟨none, (.defer (.val q18) []), none, []⟩ .v] (.sO [.mv p19 q5 .v, .P p20 (.build [.nils, (kI 0), (kI 0)] [⟨0, 1, q19⟩]) .v, .al p21 (.box q20), .mv p6 q21 .v] (.sj v9_0 (.block 0 (.loop v9_1 c9_1b)) c9_0))))))
def x9 : XFn := ⟨[.s], false, [(.cells 1 p2), (.cell p3), (.cell p4)], c9_e⟩
def e9_0 (k : St → Res2) (t2 t3 t4 : AV) (h : HP) (df : List ADef) : Res2 := k ⟨mkT [(p2, t2), (p3, t3), (p4, t4)], h, df, .no⟩
def S9_0 (D : CallD) (m : Nat) (t2 t3 t4 : AV) (h : HP) (df : List ADef) : Res2 :=
 cellsC 1 t2 h fun t33 =>
 stsC 1 t2 t33 h fun h14 =>
 stoC t3 (vI (Int.ofNat 0)) h14 fun h15 =>
 stoC t4 (vI (Int.ofNat 0)) h15 fun h16 =>
 XFn.endOf x9 D (.ret ⟨(mkT [(p2, t2), (p3, t3), (p4, t4)]), h16, df, .no⟩)
def e9_1 (k : St → Res2) (t2 t3 t4 t6 : AV) (h : HP) (df : List ADef) : Res2 := k ⟨mkT [(p2, t2), (p3, t3), (p4, t4), (p6, t6)], h, df, .no⟩
def S9_1b (D : CallD) (m : Nat) (g1 : AV → AV → AV → AV → HP → List ADef → Res2) (t2 t3 t4 t6 : AV) (h : HP) (df : List ADef) : Res2 :=
 calC D 14 [t6] h (fun t23 h17 =>
 fldC 0 1 false t23 fun vt24 => asI .i64 vt24 fun t24 =>
 let t25 := notQ (eqQ t24 (Int.ofNat 0))
 br t25 (
 faC 0 t2 fun t26 =>
 cellC t26 h17 fun t27 =>
 calC D 15 [t6] h17 (fun t29 h18 =>
 br (again [⟨none, .cell q26, p27⟩] (mkT [(p27, t27), (p26, t26)]) h18) (
 obQ (evA (.bsl [(.bool false), (.bool false), (.bool false), (.str []), (kI 0), (kI 0), .nils, (.bool false), .nils, (kI 0), .nils, .nils, (.str []), (kI 0), (kI 0), (kI 0), (kI 0)] 1 [⟨0, 17, (.c t29)⟩]) .leaf) fun r19 =>
 let t30 := vkV r19.2 (HP.nxQ h18)
 let h20 := HP.newQ h18 r19.1
 eff (.app 17 200 (.c t27) (.c t30)) h20 fun t31 h21 =>
 faC 0 t2 fun t32 =>
 stoC t32 t31 h21 fun h22 =>
 g1 t2 t3 t4 t6 h22 df) none) (fun ch18 gh18 => XFn.endOf x9 D (.panic ch18 ⟨(mkT [(p2, t2), (p3, t3), (p4, t4)]), gh18, df, .no⟩))) (
 S9_0 D m t2 t3 t4 h17 df)) (fun ch17 gh17 => XFn.endOf x9 D (.panic ch17 ⟨(mkT [(p2, t2), (p3, t3), (p4, t4)]), gh17, df, .no⟩))
def S9_1 (D : CallD) (m : Nat) : AV → AV → AV → AV → HP → List ADef → Res2 := nrec (fun _ _ _ _ _ _ => none) (fun _ g => S9_1b D m g) m
def e9_2 (k t0 h) := kN k [(p0, (vS t0))] h
def S9_2 (D : CallD) (m : Nat) (t0 : LN) (h : HP) : Res2 :=
 let t2 := AV.ptr (HP.nxQ h) 0
 let h3 := HP.newQ h (.cells true [.nils])
 let t3 := AV.ptr (HP.nxQ h3) 0
 let h4 := HP.newQ h3 (.cells true [(kI 0)])
 let t4 := AV.ptr (HP.nxQ h4) 0
 let h5 := HP.newQ h4 (.cells true [(kI 0)])
 calC D 12 [(vS t0)] h5 (fun t9 h6 =>
 extC t9 0 fun t10 =>
 extC t9 1 fun vt11 => asI .i64 vt11 fun t11 =>
 extC t9 2 fun vt12 => asI .i64 vt12 fun t12 =>
 stoC t3 (vI t11) h6 fun h7 =>
 stoC t4 (vI t12) h7 fun h8 =>
 ldI t4 h8 fun t13 =>
 let t14 := notQ (eqQ t13 (Int.ofNat 0))
 br t14 (
 cellsC 1 t2 h8 fun t15 =>
 ldI t3 h8 fun t16 =>
 ldI t4 h8 fun t17 =>
 stsC 1 t2 t15 h8 fun h9 =>
 br (againE (.stores 1 q2 q15) [⟨none, .cell q3, p16⟩, ⟨none, .cell q4, p17⟩] (mkT [(p2, t2), (p17, (vI t17)), (p4, t4), (p16, (vI t16)), (p3, t3)]) h9) (
 stoC t3 (vI t16) h9 fun h10 =>
 br (againE (.store q3 q16) [⟨none, .cell q4, p17⟩] (mkT [(p3, t3), (p17, (vI t17)), (p4, t4)]) h10) (
 stoC t4 (vI t17) h10 fun h11 =>
 XFn.endOf x9 D (.ret ⟨(mkT [(p2, t2), (p3, t3), (p4, t4)]), h11, [], .no⟩)) none) none) (
 let t18 := (AV.fn 13 [] [t2, t3, t4])
 let d12 : List ADef := ⟨13, [t2, t3, t4]⟩ :: []
 obQ (evP (.build [.nils, (kI 0), (kI 0)] [⟨0, 1, (.c t10)⟩]) .leaf) fun t20 =>
 let t21 := AV.ptr (HP.nxQ h8) 0
 let h13 := HP.newQ h8 (.cells true (AV.cells t20))
 S9_1 D m t2 t3 t4 t21 h13 d12)) (fun ch6 gh6 => XFn.endOf x9 D (.panic ch6 ⟨(mkT [(p2, t2), (p3, t3), (p4, t4)]), gh6, [], .no⟩))
def S9 : SFn := fun D m args h u => nou u <| popS args fun t0 args => endA args (S9_2 D m t0 h)
theorem T9_0 (hE : FX x9 D m E) : S9_0 D m = e9_0 (E c9_0 []) := by unfold S9_0; rw [hE c9_0]; kernel_rfl
theorem T9_1b (hE : FX x9 D m E) (G1) : S9_1b D m (e9_1 G1) = e9_1 (E c9_1b [.lp v9_1 G1, .blk 0, .sj v9_0 c9_0]) := by unfold S9_1b; rw [T9_0 hE, hE c9_1b]; kernel_rfl
theorem T9_1 (hE : FX x9 D m E) : S9_1 D m = e9_1 (nrec (fun _ => none) (fun _ G1 st => E c9_1b [.lp v9_1 G1, .blk 0, .sj v9_0 c9_0] st) m) :=
  nrec_emb e9_1 (fun _ _ _ _ _ _ => none) (fun g => S9_1b D m g) (fun G1 st => E c9_1b [.lp v9_1 G1, .blk 0, .sj v9_0 c9_0] st) rfl (fun g => T9_1b hE g) m
theorem T9_2 (hE : FX x9 D m E) : S9_2 D m = e9_2 (E c9_e []) := by unfold S9_2; rw [T9_1 hE, hE c9_e]; kernel_rfl
theorem X9 : XTie S9 x9 := X_of fun D m E hE args h u => by unfold S9; rw [T9_2 hE]; kernel_rfl
/- 12 -/
def v12_0 : List Pos := [p0, p2, p3, p4]
def c12_0 : XC := (.sO [.ld p35 q2 .v, .mv p36 q0 .s, .P p37 (.lens q36) tI, .P p38 (.build [(kI 0), (.str []), (kI 0)] [⟨2, 1, q37⟩]) .v, .al p39 (.bsl [(kI 0), (.str []), (kI 0)] 1 [⟨0, 3, q38⟩]), .o ⟨(some p40), (.e (.app 3 32 q35 q39)), none, []⟩ .v, .st q2 q40, .st q3 (ci 0), .st q4 (ci 0)] (.s .ret))
def v12_1 : List Pos := [p0, p2, p3, p4]
def c12_1b : XC := (.seq (.seq (.oX [.ld p12 q3 tI, .mv p13 q0 .s, .P p14 (.lens q13) tI, .bn p15 .lss q12 q14 .b]) (.cond q15 .skip (.exit 0))) (.seq (.block 1 (.seq (.oX [.mv p19 q0 .s, .ld p20 q3 tI, .cl p21 21 [q19, q20] .v, .al p5 (.new [(kI 0), (.str []), (kI 0)]), .ss 3 q5 q21]) (.seq (.seq (.oX [.ld p22 q2 .v, .P p23 (.lenl q22) tI, .bn p24 .eql q23 (ci 2500) .b]) (.cond q24 (.seq (.ops true (XL.of [.ld p25 q3 tI, .o ⟨none, (.e (.store q2 (.c .nils))), none, [⟨none, .cell q3, p25⟩]⟩ .v, .st q3 q25, .st q4 (ci 5)])) .ret) .skip)) (.seq (.oX [.ld p26 q2 .v, .L p27 (.cells 3 q5) .v, .al p28 (.bsl [(kI 0), (.str []), (kI 0)] 1 [⟨0, 3, q27⟩]), .o ⟨(some p29), (.e (.app 3 32 q26 q28)), none, []⟩ .v, .st q2 q29]) (.oX [.ld p30 q3 tI, .fa p31 1 q5, .ld p32 q31 .s, .P p33 (.lens q32) tI, .bn p34 .add q30 q33 tI, .st q3 q34]))))) (.s (.oX [.mv p16 q0 .s, .ld p17 q3 tI, .cl p18 20 [q16, q17] tI, .st q3 q18]))))
def c12_e : XC := (.sO [.al p2 (.new [.nils]), .al p3 (.new [(kI 0)]), .al p4 (.new [(kI 0)])] (.seq (.seq (.oX [.mv p6 q0 .s, .P p7 (.lens q6) tI, .bn p8 .gtr q7 (ci 8192) .b]) (.cond q8 (.seq (.oX [.st q2 (.c .nils), .st q3 (ci 0), .st q4 (ci 6)]) .ret) .skip)) (.sO [.P p9 (.mkfn 19 [] [q2, q3, q4]) .v, .o ⟨none, (.defer (.val q9) []), none, []⟩ .v] (.sj v12_0 (.sO [.mv p10 q0 .s, .cl p11 20 [q10, (ci 0)] tI, .st q3 q11] (.block 0 (.loop v12_1 c12_1b))) c12_0))))
def x12 : XFn := ⟨[.s], false, [(.cell p2), (.cell p3), (.cell p4)], c12_e⟩
def e12_0 (k : St → Res2) (t0 : LN) (t2 t3 t4 : AV) (h : HP) (df : List ADef) : Res2 := k ⟨mkT [(p0, (vS t0)), (p2, t2), (p3, t3), (p4, t4)], h, df, .no⟩
def S12_0 (D : CallD) (m : Nat) (t0 : LN) (t2 t3 t4 : AV) (h : HP) (df : List ADef) : Res2 :=
 cellC t2 h fun t35 =>
 let t37 := Int.ofNat (lenL t0)
 let t38 := (AV.agg [(vI (Int.ofNat 0)), (vS ([] : LN)), (vI t37)])
 let t39 := AV.slice (HP.nxQ h) 0 1 (.exact 1)
 let h10 := HP.newQ h (.cells true [(vI (Int.ofNat 0)), (vS ([] : LN)), (vI t37)])
 eff (.app 3 32 (.c t35) (.c t39)) h10 fun t40 h11 =>
 stoC t2 t40 h11 fun h12 =>
 stoC t3 (vI (Int.ofNat 0)) h12 fun h13 =>
 stoC t4 (vI (Int.ofNat 0)) h13 fun h14 =>
 XFn.endOf x12 D (.ret ⟨(mkT [(p2, t2), (p3, t3), (p4, t4)]), h14, df, .no⟩)
def e12_1 (k : St → Res2) (t0 : LN) (t2 t3 t4 : AV) (h : HP) (df : List ADef) : Res2 := k ⟨mkT [(p0, (vS t0)), (p2, t2), (p3, t3), (p4, t4)], h, df, .no⟩
def S12_1b (D : CallD) (m : Nat) (g1 : LN → AV → AV → AV → HP → List ADef → Res2) (t0 : LN) (t2 t3 t4 : AV) (h : HP) (df : List ADef) : Res2 :=
 ldI t3 h fun t12 =>
 let t14 := Int.ofNat (lenL t0)
 let t15 := ltQ t12 t14
 br t15 (
 ldI t3 h fun t20 =>
 calC D 21 [(vS t0), (vI t20)] h (fun t21 h17 =>
 let t5 := AV.ptr (HP.nxQ h17) 0
 let h18 := HP.newQ h17 (.cells true [(kI 0), (.str []), (kI 0)])
 stsC 3 t5 t21 h18 fun h19 =>
 cellC t2 h19 fun t22 =>
 lenC t22 fun vt23 => asI .i64 vt23 fun t23 =>
 let t24 := eqQ t23 (Int.ofNat 2500)
 br t24 (
 ldI t3 h19 fun t25 =>
 stoC t2 (.nils : AV) h19 fun h20 =>
 br (againE (.store q2 (.c .nils)) [⟨none, .cell q3, p25⟩] (mkT [(p2, t2), (p25, (vI t25)), (p3, t3)]) h20) (
 stoC t3 (vI t25) h20 fun h21 =>
 stoC t4 (vI (Int.ofNat 5)) h21 fun h22 =>
 XFn.endOf x12 D (.ret ⟨(mkT [(p2, t2), (p3, t3), (p4, t4)]), h22, df, .no⟩)) none) (
 cellC t2 h19 fun t26 =>
 cellsC 3 t5 h19 fun t27 =>
 obQ (evA (.bsl [(kI 0), (.str []), (kI 0)] 1 [⟨0, 3, (.c t27)⟩]) .leaf) fun r23 =>
 let t28 := vkV r23.2 (HP.nxQ h19)
 let h24 := HP.newQ h19 r23.1
 eff (.app 3 32 (.c t26) (.c t28)) h24 fun t29 h25 =>
 stoC t2 t29 h25 fun h26 =>
 ldI t3 h26 fun t30 =>
 let t31 := (AV.ptr (HP.nxQ h17) (Nat.add 0 1))
 ldS t31 h26 fun t32 =>
 let t33 := Int.ofNat (lenL t32)
 let t34 := wrQ .i64 (addQ t30 t33)
 stoC t3 (vI t34) h26 fun h27 =>
 ldI t3 h27 fun t17 =>
 calC D 20 [(vS t0), (vI t17)] h27 (fun t18 h28 =>
 asI .i64 t18 fun t18a =>
 stoC t3 (vI t18a) h28 fun h29 =>
 g1 t0 t2 t3 t4 h29 df) (fun ch28 gh28 => XFn.endOf x12 D (.panic ch28 ⟨(mkT [(p2, t2), (p3, t3), (p4, t4)]), gh28, df, .no⟩)))) (fun ch17 gh17 => XFn.endOf x12 D (.panic ch17 ⟨(mkT [(p2, t2), (p3, t3), (p4, t4)]), gh17, df, .no⟩))) (
 S12_0 D m t0 t2 t3 t4 h df)
def S12_1 (D : CallD) (m : Nat) : LN → AV → AV → AV → HP → List ADef → Res2 := nrec (fun _ _ _ _ _ _ => none) (fun _ g => S12_1b D m g) m
def e12_2 (k t0 h) := kN k [(p0, (vS t0))] h
def S12_2 (D : CallD) (m : Nat) (t0 : LN) (h : HP) : Res2 :=
 let t2 := AV.ptr (HP.nxQ h) 0
 let h3 := HP.newQ h (.cells true [.nils])
 let t3 := AV.ptr (HP.nxQ h3) 0
 let h4 := HP.newQ h3 (.cells true [(kI 0)])
 let t4 := AV.ptr (HP.nxQ h4) 0
 let h5 := HP.newQ h4 (.cells true [(kI 0)])
 let t7 := Int.ofNat (lenL t0)
 let t8 := ltQ (Int.ofNat 8192) t7
 br t8 (
 stoC t2 (.nils : AV) h5 fun h6 =>
 stoC t3 (vI (Int.ofNat 0)) h6 fun h7 =>
 stoC t4 (vI (Int.ofNat 6)) h7 fun h8 =>
 XFn.endOf x12 D (.ret ⟨(mkT [(p2, t2), (p3, t3), (p4, t4)]), h8, [], .no⟩)) (
 let t9 := (AV.fn 19 [] [t2, t3, t4])
 let d9 : List ADef := ⟨19, [t2, t3, t4]⟩ :: []
 calC D 20 [(vS t0), (vI (Int.ofNat 0))] h5 (fun t11 h15 =>
 asI .i64 t11 fun t11a =>
 stoC t3 (vI t11a) h15 fun h16 =>
 S12_1 D m t0 t2 t3 t4 h16 d9) (fun ch15 gh15 => XFn.endOf x12 D (.panic ch15 ⟨(mkT [(p2, t2), (p3, t3), (p4, t4)]), gh15, d9, .no⟩)))
def S12 : SFn := fun D m args h u => nou u <| popS args fun t0 args => endA args (S12_2 D m t0 h)
theorem T12_0 (hE : FX x12 D m E) : S12_0 D m = e12_0 (E c12_0 []) := by unfold S12_0; rw [hE c12_0]; kernel_rfl
theorem T12_1b (hE : FX x12 D m E) (G1) : S12_1b D m (e12_1 G1) = e12_1 (E c12_1b [.lp v12_1 G1, .blk 0, .sj v12_0 c12_0]) := by unfold S12_1b; rw [T12_0 hE, hE c12_1b]; kernel_rfl
theorem T12_1 (hE : FX x12 D m E) : S12_1 D m = e12_1 (nrec (fun _ => none) (fun _ G1 st => E c12_1b [.lp v12_1 G1, .blk 0, .sj v12_0 c12_0] st) m) :=
  nrec_emb e12_1 (fun _ _ _ _ _ _ => none) (fun g => S12_1b D m g) (fun G1 st => E c12_1b [.lp v12_1 G1, .blk 0, .sj v12_0 c12_0] st) rfl (fun g => T12_1b hE g) m
theorem T12_2 (hE : FX x12 D m E) : S12_2 D m = e12_2 (E c12_e []) := by unfold S12_2; rw [T12_1 hE, hE c12_e]; kernel_rfl
theorem X12 : XTie S12 x12 := X_of fun D m E hE args h u => by unfold S12; rw [T12_2 hE]; kernel_rfl
/- 13 -/
def c13_e : XC := (.sO [.o ⟨(some p6), .recover, none, []⟩ .v, .P p7 (.tassert 53 (.agg [(kI 0), (kI 0)]) true q6) .v, .mv p5 q7 .v, .P p8 (.ext q5 0) .v, .P p9 (.ext q5 1) .b, .al p3 (.new [(kI 0), (kI 0)]), .ss 2 q3 q8, .mv p4 q9 .b] (.sO [.mv p10 q4 .b] (.cond q10 (.s (.ops true (XL.of [.P p11 (.build [.nils] []) .v, .fa p12 0 q3, .ld p13 q12 tI, .fa p14 1 q3, .ld p15 q14 tI, .o ⟨none, (.e (.stores 1 q0 q11)), none, [⟨none, .cell q12, p13⟩, ⟨none, .cell q14, p15⟩]⟩ .v, .o ⟨none, (.e (.store q1 q13)), none, [⟨none, .cell q14, p15⟩]⟩ .v, .st q2 q15]))) (.s .skip))))
def x13 : XFn := ⟨[.v, .v, .v], true, [], c13_e⟩
def e13_0 (k : St → Res2) (t0 t1 t2 : AV) (h : HP) (u : AMode) : Res2 := k ⟨mkT [(p0, t0), (p1, t1), (p2, t2)], h, [], u⟩
def S13_0 (D : CallD) (m : Nat) (t0 t1 t2 : AV) (h : HP) (u : AMode) : Res2 :=
 recC u fun t6 u1 =>
 obQ (evP (.tassert 53 (.agg [(kI 0), (kI 0)]) true (.c t6)) .leaf) fun t7 =>
 extC t7 0 fun t8 =>
 extC t7 1 fun vt9 => asB vt9 fun t9 =>
 let t3 := AV.ptr (HP.nxQ h) 0
 let h2 := HP.newQ h (.cells true [(kI 0), (kI 0)])
 stsC 2 t3 t8 h2 fun h3 =>
 br t9 (
 let t11 := (AV.agg [(.nils : AV)])
 let t12 := (AV.ptr (HP.nxQ h) (Nat.add 0 0))
 ldI t12 h3 fun t13 =>
 let t14 := (AV.ptr (HP.nxQ h) (Nat.add 0 1))
 ldI t14 h3 fun t15 =>
 stsC 1 t0 t11 h3 fun h4 =>
 br (againE (.stores 1 q0 q11) [⟨none, .cell q12, p13⟩, ⟨none, .cell q14, p15⟩] (mkT [(p0, t0), (p15, (vI t15)), (p14, t14), (p13, (vI t13)), (p12, t12)]) h4) (
 stoC t1 (vI t13) h4 fun h5 =>
 br (againE (.store q1 q13) [⟨none, .cell q14, p15⟩] (mkT [(p1, t1), (p15, (vI t15)), (p14, t14)]) h5) (
 stoC t2 (vI t15) h5 fun h6 =>
 some (.ret (.tup []) h6, u1)) none) none) (
 some (.ret (.tup []) h3, u1))
def S13 : SFn := fun D m args h u => popV args fun t0 args => popV args fun t1 args => popV args fun t2 args => endA args (S13_0 D m t0 t1 t2 h u)
theorem T13_0 (hE : FX x13 D m E) : S13_0 D m = e13_0 (E c13_e []) := by unfold S13_0; rw [hE c13_e]; kernel_rfl
theorem X13 : XTie S13 x13 := X_of fun D m E hE args h u => by unfold S13; rw [T13_0 hE]; kernel_rfl
/- 14 -/
def c14_e : XC := (.sO [.al p2 (.new [(kI 0), (.str []), (kI 0)])] (.seq (.ops true (XL.of [.mv p3 q0 .v, .P p4 (.nilck q3) .v, .fa p5 0 q4, .ld p6 q5 .v, .mv p7 q0 .v, .P p8 (.nilck q7) .v, .fa p9 1 q8, .ld p10 q9 tI, .P p11 (.iaddr (.sl 3) q6 q10) .v, .L p12 (.cells 3 q11) .v, .ss 3 q2 q12])) (.s .ret)))
def x14 : XFn := ⟨[.v], false, [(.cells 3 p2)], c14_e⟩
def e14_0 (k t0 h) := kN k [(p0, t0)] h
def S14_0 (D : CallD) (m : Nat) (t0 : AV) (h : HP) : Res2 :=
 let t2 := AV.ptr (HP.nxQ h) 0
 let h1 := HP.newQ h (.cells true [(kI 0), (.str []), (kI 0)])
 nilckC t0 fun t4 =>
 faC 0 t4 fun t5 =>
 cellC t5 h1 fun t6 =>
 nilckC t0 fun t8 =>
 faC 1 t8 fun t9 =>
 ldI t9 h1 fun t10 =>
 iasC 3 t6 (vI t10) fun t11 =>
 cellsC 3 t11 h1 fun t12 =>
 stsC 3 t2 t12 h1 fun h2 =>
 cellsC 3 t2 h2 fun t2a =>
 some (.ret t2a h2, .no)
def S14 : SFn := fun D m args h u => nou u <| popV args fun t0 args => endA args (S14_0 D m t0 h)
theorem T14_0 (hE : FX x14 D m E) : S14_0 D m = e14_0 (E c14_e []) := by unfold S14_0; rw [hE c14_e]; kernel_rfl
theorem X14 : XTie S14 x14 := X_of fun D m E hE args h u => by unfold S14; rw [T14_0 hE]; kernel_rfl
/- 15 -/
def v15_2 : List Pos := [p0, p2, p3]
def c15_2 : XC := (.sO [.mv p81 q0 .v, .cl p82 28 [q81, (.c (.str [59]))] .v] (.sO [.L p83 (.cells 17 q3) .v, .ss 17 q2 q83] (.s .ret)))
def v15_4 : List Pos := [p0, p2, p3]
def c15_4 : XC := (.sO [.fa p76 5 q3, .ld p77 q76 tI, .bn p78 .gtr q77 (ci 0) .b] (.cond q78 (.s (.oX [.mv p79 q0 .v, .cl p80 28 [q79, (.c (.str [125]))] .v])) (.s .skip)))
def v15_6 : List Pos := [p0, p2, p3]
def c15_6 : XC := (.block 1 (.s (.ops true (XL.of [.fa p67 6 q3, .ld p68 q67 .v, .mv p69 q0 .v, .P p71 (.lenl q68) tI, .al p72 (.bsl [(kI 0), (.str []), (.str []), (.int .u32 (.ofNat 0)), (.int .u64 (.ofNat 0)), .nils, (kI 0), (kI 0)] 1 [⟨0, 8, (.c (.agg [(kI 0), (.str []), (.str []), (.int .u32 (.ofNat 0)), (.int .u64 (.ofNat 0)), .nils, (kI 0), (kI 0)]))⟩]), .o ⟨(some p70), (.call (.fn 30) [q69]), none, [⟨none, .cell q67, p68⟩]⟩ .v, .o ⟨(some p73), (.e (.app 8 96 q68 q72)), none, []⟩ .v, .P p74 (.iaddr (.sl 8) q73 q71) .v, .fa p75 6 q3, .o ⟨none, (.e (.st2 (some 8) none q74 q70 q75 q73)), none, []⟩ .v]))))
def c15_8 : XC := (.cond q66 (.s .skip) (.s (.exit 0)))
def l15_7 : XL := (XL.of [])
def v15_5 : List Pos := [p0, p2, p3]
def c15_5b : XC := (.sj v15_6 (.opq false (XL.pre [.fa p60 5 q3, .ld p61 q60 tI, .bn p62 .gtr q61 (ci 0) .b, .mv p63 q62 .b, .sp p63, .G p63 true p64 (.mov q0) .v, .o ⟨(some p65), (.call (.fn 22) [q64, (.c (.str [44]))]), (some (p63, true)), []⟩ .b, .P p66 (.pick q63 q65 (cb false)) .b, .jn p63 [p0, p2, p3, p66]] l15_7) c15_8) c15_6)
def v15_3 : List Pos := [p0, p2, p3]
def c15_3 : XC := (.seq (.ops true (XL.of [.fa p51 6 q3, .ld p52 q51 .v, .mv p53 q0 .v, .P p55 (.lenl q52) tI, .al p56 (.bsl [(kI 0), (.str []), (.str []), (.int .u32 (.ofNat 0)), (.int .u64 (.ofNat 0)), .nils, (kI 0), (kI 0)] 1 [⟨0, 8, (.c (.agg [(kI 0), (.str []), (.str []), (.int .u32 (.ofNat 0)), (.int .u64 (.ofNat 0)), .nils, (kI 0), (kI 0)]))⟩]), .o ⟨(some p54), (.call (.fn 30) [q53]), none, [⟨none, .cell q51, p52⟩]⟩ .v, .o ⟨(some p57), (.e (.app 8 96 q52 q56)), none, []⟩ .v, .P p58 (.iaddr (.sl 8) q57 q55) .v, .fa p59 6 q3, .o ⟨none, (.e (.st2 (some 8) none q58 q54 q59 q57)), none, []⟩ .v])) (.sj v15_4 (.block 0 (.loop v15_5 c15_5b)) c15_4))
def v15_1 : List Pos := [p0, p2, p3]
def c15_1 : XC := (.sO [.mv p38 q0 .v, .cl p39 29 [q38] tI, .fa p40 5 q3, .st q40 q39] (.sj v15_2 (.sO [.mv p41 q0 .v, .cl p42 22 [q41, (.c (.str [61]))] .b, .fa p43 7 q3, .st q43 q42] (.sO [.fa p44 7 q3, .ld p45 q44 .b] (.cond q45 (.sj v15_3 (.sO [.fa p46 5 q3, .ld p47 q46 tI, .bn p48 .gtr q47 (ci 0) .b] (.cond q48 (.s (.oX [.mv p49 q0 .v, .cl p50 28 [q49, (.c (.str [123]))] .v])) (.s .skip))) c15_3) (.s .skip)))) c15_2))
def v15_9 : List Pos := [p2, p3]
def c15_9 : XC := (.sO [.L p37 (.cells 17 q3) .v, .ss 17 q2 q37] (.s .ret))
def v15_0 : List Pos := [p0, p2, p3]
def c15_0 : XC := (.sO [.mv p13 q0 .v, .cl p14 14 [q13] .v, .P p15 (.field 2 1 false q14) tI, .fa p16 16 q3, .st q16 q15] (.sO [.mv p17 q0 .v, .cl p18 23 [q17] tI, .fa p19 4 q3, .st q19 q18] (.sO [.mv p20 q0 .v, .cl p21 24 [q20, (ci 1)] .s, .fa p22 3 q3, .st q22 q21] (.sj v15_1 (.sO [.mv p23 q0 .v, .cl p24 22 [q23, (.c (.str [40]))] .b] (.cond q24 (.sO [.fa p25 0 q3, .st q25 (cb true)] (.sO [.mv p26 q0 .v, .cl p27 25 [q26, q3] .v] (.sj v15_9 (.sO [.mv p28 q0 .v, .al p29 (.bsl [(.str [])] 1 [⟨0, 1, (.c (.str [123]))⟩]), .cl p30 26 [q28, q29] .b] (.cond q30 (.sO [.fa p31 7 q3, .st q31 (cb true)] (.s (.oX [.mv p32 q0 .v, .cl p33 27 [q32] .v, .fa p34 9 q3, .ss 7 q34 q33]))) (.s (.oX [.mv p35 q0 .v, .cl p36 28 [q35, (.c (.str [59]))] .v])))) c15_9))) (.s .skip))) c15_1))))
def c15_e : XC := (.sO [.al p2 (.new [(.bool false), (.bool false), (.bool false), (.str []), (kI 0), (kI 0), .nils, (.bool false), .nils, (kI 0), .nils, .nils, (.str []), (kI 0), (kI 0), (kI 0), (kI 0)])] (.sO [.al p3 (.new [(.bool false), (.bool false), (.bool false), (.str []), (kI 0), (kI 0), .nils, (.bool false), .nils, (kI 0), .nils, .nils, (.str []), (kI 0), (kI 0), (kI 0), (kI 0)])] (.sj v15_0 (.sO [.mv p4 q0 .v, .cl p5 22 [q4, (.c (.str [115, 116, 97, 116, 105, 99]))] .b, .fa p6 1 q3, .st q6 q5] (.sO [.fa p7 1 q3, .ld p8 q7 .b, .P p9 (.un .not q8) .b] (.cond q9 (.s (.oX [.mv p10 q0 .v, .cl p11 22 [q10, (.c (.str [101, 120, 116, 101, 114, 110]))] .b, .fa p12 2 q3, .st q12 q11])) (.s .skip)))) c15_0)))
def x15 : XFn := ⟨[.v], false, [(.cells 17 p2)], c15_e⟩
def e15_2 (k t0 t2 t3 h) := kN k [(p0, t0), (p2, t2), (p3, t3)] h
def S15_2 (D : CallD) (m : Nat) (t0 t2 t3 : AV) (h : HP) : Res2 :=
 cal D 28 [t0, (vS ([59] : LN))] h fun t82 h21 =>
 cellsC 17 t3 h21 fun t83 =>
 stsC 17 t2 t83 h21 fun h22 =>
 cellsC 17 t2 h22 fun t2a =>
 some (.ret t2a h22, .no)
def e15_4 (k t0 t2 t3 h) := kN k [(p0, t0), (p2, t2), (p3, t3)] h
def S15_4 (D : CallD) (m : Nat) (t0 t2 t3 : AV) (h : HP) : Res2 :=
 faC 5 t3 fun t76 =>
 ldI t76 h fun t77 =>
 let t78 := ltQ (Int.ofNat 0) t77
 br t78 (
 cal D 28 [t0, (vS ([125] : LN))] h fun t80 h29 =>
 S15_2 D m t0 t2 t3 h29) (
 S15_2 D m t0 t2 t3 h)
def e15_6 (k t0 t2 t3 h) := kN k [(p0, t0), (p2, t2), (p3, t3)] h
def S15_6 (D : CallD) (m : Nat) (g5 : AV → AV → AV → HP → Res2) (t0 t2 t3 : AV) (h : HP) : Res2 :=
 faC 6 t3 fun t67 =>
 cellC t67 h fun t68 =>
 lenC t68 fun vt71 => asI .i64 vt71 fun t71 =>
 let t72 := AV.slice (HP.nxQ h) 0 1 (.exact 1)
 let h30 := HP.newQ h (.cells true [(vI (Int.ofNat 0)), (vS ([] : LN)), (vS ([] : LN)), (vW (Int.ofNat 0)), (AV.int .u64 (Int.ofNat 0)), (.nils : AV), (vI (Int.ofNat 0)), (vI (Int.ofNat 0))])
 cal D 30 [t0] h30 fun t70 h31 =>
 br (again [⟨none, .cell q67, p68⟩] (mkT [(p68, t68), (p67, t67)]) h31) (
 eff (.app 8 96 (.c t68) (.c t72)) h31 fun t73 h32 =>
 iasC 8 t73 (vI t71) fun t74 =>
 faC 6 t3 fun t75 =>
 eff (.st2 (some 8) none (.c t74) (.c t70) (.c t75) (.c t73)) h32 fun t0a h33 =>
 g5 t0 t2 t3 h33) none
def e15_7 (k t0 t2 t3 t66 h) := kN k [(p0, t0), (p2, t2), (p3, t3), (p66, (vB t66))] h
def S15_7 (D : CallD) (m : Nat) (g5 : AV → AV → AV → HP → Res2) (t0 t2 t3 : AV) (t66 : Bool) (h : HP) : Res2 :=
 br t66 (
 S15_6 D m g5 t0 t2 t3 h) (
 S15_4 D m t0 t2 t3 h)
def e15_5 (k t0 t2 t3 h) := kN k [(p0, t0), (p2, t2), (p3, t3)] h
def S15_5b (D : CallD) (m : Nat) (g5 : AV → AV → AV → HP → Res2) (t0 t2 t3 : AV) (h : HP) : Res2 :=
 faC 5 t3 fun t60 =>
 ldI t60 h fun t61 =>
 let t62 := ltQ (Int.ofNat 0) t61
 br t62 (
 cal D 22 [t0, (vS ([44] : LN))] h fun t65 h34 =>
 asB t65 fun t65a =>
 S15_7 D m g5 t0 t2 t3 t65a h34) (
 S15_7 D m g5 t0 t2 t3 false h)
def S15_5 (D : CallD) (m : Nat) : AV → AV → AV → HP → Res2 := nrec (fun _ _ _ _ => none) (fun _ g => S15_5b D m g) m
def e15_3 (k t0 t2 t3 h) := kN k [(p0, t0), (p2, t2), (p3, t3)] h
def S15_3 (D : CallD) (m : Nat) (t0 t2 t3 : AV) (h : HP) : Res2 :=
 faC 6 t3 fun t51 =>
 cellC t51 h fun t52 =>
 lenC t52 fun vt55 => asI .i64 vt55 fun t55 =>
 let t56 := AV.slice (HP.nxQ h) 0 1 (.exact 1)
 let h25 := HP.newQ h (.cells true [(vI (Int.ofNat 0)), (vS ([] : LN)), (vS ([] : LN)), (vW (Int.ofNat 0)), (AV.int .u64 (Int.ofNat 0)), (.nils : AV), (vI (Int.ofNat 0)), (vI (Int.ofNat 0))])
 cal D 30 [t0] h25 fun t54 h26 =>
 br (again [⟨none, .cell q51, p52⟩] (mkT [(p52, t52), (p51, t51)]) h26) (
 eff (.app 8 96 (.c t52) (.c t56)) h26 fun t57 h27 =>
 iasC 8 t57 (vI t55) fun t58 =>
 faC 6 t3 fun t59 =>
 eff (.st2 (some 8) none (.c t58) (.c t54) (.c t59) (.c t57)) h27 fun t0a h28 =>
 S15_5 D m t0 t2 t3 h28) none
def e15_1 (k t0 t2 t3 h) := kN k [(p0, t0), (p2, t2), (p3, t3)] h
def S15_1 (D : CallD) (m : Nat) (t0 t2 t3 : AV) (h : HP) : Res2 :=
 cal D 29 [t0] h fun t39 h19 =>
 asI .i64 t39 fun t39a =>
 faC 5 t3 fun t40 =>
 stoC t40 (vI t39a) h19 fun h20 =>
 cal D 22 [t0, (vS ([61] : LN))] h20 fun t42 h23 =>
 asB t42 fun t42a =>
 faC 7 t3 fun t43 =>
 stoC t43 (vB t42a) h23 fun h24 =>
 faC 7 t3 fun t44 =>
 ldB t44 h24 fun t45 =>
 br t45 (
 faC 5 t3 fun t46 =>
 ldI t46 h24 fun t47 =>
 let t48 := ltQ (Int.ofNat 0) t47
 br t48 (
 cal D 28 [t0, (vS ([123] : LN))] h24 fun t50 h35 =>
 S15_3 D m t0 t2 t3 h35) (
 S15_3 D m t0 t2 t3 h24)) (
 S15_2 D m t0 t2 t3 h24)
def e15_9 (k t2 t3 h) := kN k [(p2, t2), (p3, t3)] h
def S15_9 (D : CallD) (m : Nat) (t2 t3 : AV) (h : HP) : Res2 :=
 cellsC 17 t3 h fun t37 =>
 stsC 17 t2 t37 h fun h39 =>
 cellsC 17 t2 h39 fun t2a =>
 some (.ret t2a h39, .no)
def e15_0 (k t0 t2 t3 h) := kN k [(p0, t0), (p2, t2), (p3, t3)] h
def S15_0 (D : CallD) (m : Nat) (t0 t2 t3 : AV) (h : HP) : Res2 :=
 cal D 14 [t0] h fun t14 h13 =>
 fldC 2 1 false t14 fun vt15 => asI .i64 vt15 fun t15 =>
 faC 16 t3 fun t16 =>
 stoC t16 (vI t15) h13 fun h14 =>
 cal D 23 [t0] h14 fun t18 h15 =>
 asI .i64 t18 fun t18a =>
 faC 4 t3 fun t19 =>
 stoC t19 (vI t18a) h15 fun h16 =>
 cal D 24 [t0, (vI (Int.ofNat 1))] h16 fun t21 h17 =>
 asS t21 fun t21a =>
 faC 3 t3 fun t22 =>
 stoC t22 (vS t21a) h17 fun h18 =>
 cal D 22 [t0, (vS ([40] : LN))] h18 fun t24 h36 =>
 asB t24 fun t24a =>
 br t24a (
 faC 0 t3 fun t25 =>
 stoC t25 (vB true) h36 fun h37 =>
 cal D 25 [t0, t3] h37 fun t27 h38 =>
 let t29 := AV.slice (HP.nxQ h38) 0 1 (.exact 1)
 let h40 := HP.newQ h38 (.cells true [(vS ([123] : LN))])
 cal D 26 [t0, t29] h40 fun t30 h41 =>
 asB t30 fun t30a =>
 br t30a (
 faC 7 t3 fun t31 =>
 stoC t31 (vB true) h41 fun h42 =>
 cal D 27 [t0] h42 fun t33 h43 =>
 faC 9 t3 fun t34 =>
 stsC 7 t34 t33 h43 fun h44 =>
 S15_9 D m t2 t3 h44) (
 cal D 28 [t0, (vS ([59] : LN))] h41 fun t36 h45 =>
 S15_9 D m t2 t3 h45)) (
 S15_1 D m t0 t2 t3 h36)
def e15_10 (k t0 h) := kN k [(p0, t0)] h
def S15_10 (D : CallD) (m : Nat) (t0 : AV) (h : HP) : Res2 :=
 let t2 := AV.ptr (HP.nxQ h) 0
 let h11 := HP.newQ h (.cells true [(.bool false), (.bool false), (.bool false), (.str []), (kI 0), (kI 0), .nils, (.bool false), .nils, (kI 0), .nils, .nils, (.str []), (kI 0), (kI 0), (kI 0), (kI 0)])
 let t3 := AV.ptr (HP.nxQ h11) 0
 let h12 := HP.newQ h11 (.cells true [(.bool false), (.bool false), (.bool false), (.str []), (kI 0), (kI 0), .nils, (.bool false), .nils, (kI 0), .nils, .nils, (.str []), (kI 0), (kI 0), (kI 0), (kI 0)])
 cal D 22 [t0, (vS ([115, 116, 97, 116, 105, 99] : LN))] h12 fun t5 h46 =>
 asB t5 fun t5a =>
 let t6 := (AV.ptr (HP.nxQ h11) (Nat.add 0 1))
 stoC t6 (vB t5a) h46 fun h47 =>
 let t7 := (AV.ptr (HP.nxQ h11) (Nat.add 0 1))
 ldB t7 h47 fun t8 =>
 let t9 := !t8
 br t9 (
 cal D 22 [t0, (vS ([101, 120, 116, 101, 114, 110] : LN))] h47 fun t11 h48 =>
 asB t11 fun t11a =>
 let t12 := (AV.ptr (HP.nxQ h11) (Nat.add 0 2))
 stoC t12 (vB t11a) h48 fun h49 =>
 S15_0 D m t0 t2 t3 h49) (
 S15_0 D m t0 t2 t3 h47)
def S15 : SFn := fun D m args h u => nou u <| popV args fun t0 args => endA args (S15_10 D m t0 h)
theorem T15_2 (hE : FX x15 D m E) : S15_2 D m = e15_2 (E c15_2 []) := by unfold S15_2; rw [hE c15_2]; kernel_rfl
theorem T15_4 (hE : FX x15 D m E) : S15_4 D m = e15_4 (E c15_4 [.sj v15_2 c15_2]) := by unfold S15_4; rw [T15_2 hE, hE c15_4]; kernel_rfl
theorem T15_6 (hE : FX x15 D m E) (G5) : S15_6 D m (e15_5 G5) = e15_6 (E c15_6 [.lp v15_5 G5, .blk 0, .sj v15_4 c15_4, .sj v15_2 c15_2]) := by unfold S15_6; rw [hE c15_6]; kernel_rfl
theorem T15_7 (hE : FX x15 D m E) (G5) : S15_7 D m (e15_5 G5) = e15_7 (E (.opq false l15_7 c15_8) [.sj v15_6 c15_6, .lp v15_5 G5, .blk 0, .sj v15_4 c15_4, .sj v15_2 c15_2]) := by unfold S15_7; rw [T15_6 hE G5, T15_4 hE, hE (.opq false l15_7 c15_8)]; kernel_rfl
theorem T15_5b (hE : FX x15 D m E) (G5) : S15_5b D m (e15_5 G5) = e15_5 (E c15_5b [.lp v15_5 G5, .blk 0, .sj v15_4 c15_4, .sj v15_2 c15_2]) := by unfold S15_5b; rw [T15_7 hE G5, hE c15_5b]; kernel_rfl
theorem T15_5 (hE : FX x15 D m E) : S15_5 D m = e15_5 (nrec (fun _ => none) (fun _ G5 st => E c15_5b [.lp v15_5 G5, .blk 0, .sj v15_4 c15_4, .sj v15_2 c15_2] st) m) :=
  nrec_emb e15_5 (fun _ _ _ _ => none) (fun g => S15_5b D m g) (fun G5 st => E c15_5b [.lp v15_5 G5, .blk 0, .sj v15_4 c15_4, .sj v15_2 c15_2] st) rfl (fun g => T15_5b hE g) m
theorem T15_3 (hE : FX x15 D m E) : S15_3 D m = e15_3 (E c15_3 [.sj v15_2 c15_2]) := by unfold S15_3; rw [T15_5 hE, hE c15_3]; kernel_rfl
theorem T15_1 (hE : FX x15 D m E) : S15_1 D m = e15_1 (E c15_1 []) := by unfold S15_1; rw [T15_3 hE, T15_2 hE, hE c15_1]; kernel_rfl
theorem T15_9 (hE : FX x15 D m E) : S15_9 D m = e15_9 (E c15_9 [.sj v15_1 c15_1]) := by unfold S15_9; rw [hE c15_9]; kernel_rfl
theorem T15_0 (hE : FX x15 D m E) : S15_0 D m = e15_0 (E c15_0 []) := by unfold S15_0; rw [T15_9 hE, T15_1 hE, hE c15_0]; kernel_rfl
theorem T15_10 (hE : FX x15 D m E) : S15_10 D m = e15_10 (E c15_e []) := by unfold S15_10; rw [T15_0 hE, hE c15_e]; kernel_rfl
theorem X15 : XTie S15 x15 := X_of fun D m E hE args h u => by unfold S15; rw [T15_10 hE]; kernel_rfl
/- 19 -/
def c19_e : XC := (.sO [.o ⟨(some p6), .recover, none, []⟩ .v, .P p7 (.tassert 68 (.agg [(kI 0), (kI 0)]) true q6) .v, .mv p5 q7 .v, .P p8 (.ext q5 0) .v, .P p9 (.ext q5 1) .b, .al p3 (.new [(kI 0), (kI 0)]), .ss 2 q3 q8, .mv p4 q9 .b] (.sO [.mv p10 q4 .b] (.cond q10 (.s (.ops true (XL.of [.fa p11 0 q3, .ld p12 q11 tI, .fa p13 1 q3, .ld p14 q13 tI, .o ⟨none, (.e (.store q0 (.c .nils))), none, [⟨none, .cell q11, p12⟩, ⟨none, .cell q13, p14⟩]⟩ .v, .o ⟨none, (.e (.store q1 q12)), none, [⟨none, .cell q13, p14⟩]⟩ .v, .st q2 q14]))) (.s .skip))))
def x19 : XFn := ⟨[.v, .v, .v], true, [], c19_e⟩
def e19_0 (k : St → Res2) (t0 t1 t2 : AV) (h : HP) (u : AMode) : Res2 := k ⟨mkT [(p0, t0), (p1, t1), (p2, t2)], h, [], u⟩
def S19_0 (D : CallD) (m : Nat) (t0 t1 t2 : AV) (h : HP) (u : AMode) : Res2 :=
 recC u fun t6 u1 =>
 obQ (evP (.tassert 68 (.agg [(kI 0), (kI 0)]) true (.c t6)) .leaf) fun t7 =>
 extC t7 0 fun t8 =>
 extC t7 1 fun vt9 => asB vt9 fun t9 =>
 let t3 := AV.ptr (HP.nxQ h) 0
 let h2 := HP.newQ h (.cells true [(kI 0), (kI 0)])
 stsC 2 t3 t8 h2 fun h3 =>
 br t9 (
 let t11 := (AV.ptr (HP.nxQ h) (Nat.add 0 0))
 ldI t11 h3 fun t12 =>
 let t13 := (AV.ptr (HP.nxQ h) (Nat.add 0 1))
 ldI t13 h3 fun t14 =>
 stoC t0 (.nils : AV) h3 fun h4 =>
 br (againE (.store q0 (.c .nils)) [⟨none, .cell q11, p12⟩, ⟨none, .cell q13, p14⟩] (mkT [(p0, t0), (p14, (vI t14)), (p13, t13), (p12, (vI t12)), (p11, t11)]) h4) (
 stoC t1 (vI t12) h4 fun h5 =>
 br (againE (.store q1 q12) [⟨none, .cell q13, p14⟩] (mkT [(p1, t1), (p14, (vI t14)), (p13, t13)]) h5) (
 stoC t2 (vI t14) h5 fun h6 =>
 some (.ret (.tup []) h6, u1)) none) none) (
 some (.ret (.tup []) h3, u1))
def S19 : SFn := fun D m args h u => popV args fun t0 args => popV args fun t1 args => popV args fun t2 args => endA args (S19_0 D m t0 t1 t2 h u)
theorem T19_0 (hE : FX x19 D m E) : S19_0 D m = e19_0 (E c19_e []) := by unfold S19_0; rw [hE c19_e]; kernel_rfl
theorem X19 : XTie S19 x19 := X_of fun D m E hE args h u => by unfold S19; rw [T19_0 hE]; kernel_rfl
/- 20 -/
def v20_0 : List Pos := [p1]
def c20_0 : XC := (.sO [.mv p44 q1 tI, .mv p4 q44 tI] (.s .ret))
def v20_2 : List Pos := [p0, p1, p6]
def c20_2 : XC := (.s (.oX [.mv p40 q1 tI, .mv p41 q6 tI, .bn p42 .add q41 (ci 4) tI, .bn p43 .add q40 q42 tI, .mv p1 q43 tI]))
def v20_1 : List Pos := [p0, p1]
def c20_1b : XC := (.seq (.seq (.oX [.mv p7 q1 tI, .mv p8 q0 .s, .P p9 (.lens q8) tI, .bn p10 .lss q7 q9 .b]) (.cond q10 .skip (.exit 0))) (.block 1 (.sO [.mv p11 q0 .s, .mv p12 q1 tI, .P p13 (.slice .str q11 (some q12) none none) .s, .mv p5 q13 .s] (.block 2 (.sO [.mv p16 q5 .s, .P p17 (.idxs q16 (ci 0)) tC, .cl p18 32 [(.c (.str [32, 9, 10, 13])), q17] tI, .bn p19 .geq q18 (ci 0) .b, .mv p15 q19 .b] (.cond q15 (.s (.oX [.mv p20 q1 tI, .bn p21 .add q20 (ci 1) tI, .mv p1 q21 tI])) (.sO [.mv p23 q5 .s, .cl p24 33 [q23, (.c (.str [47, 47]))] .b, .mv p22 q24 .b] (.cond q22 (.s (.oX [.mv p25 q1 tI, .mv p26 q5 .s, .cl p27 34 [q26, (.c (.fn 35 [] []))] tI, .bn p28 .add q25 q27 tI, .mv p1 q28 tI])) (.sO [.mv p30 q5 .s, .cl p31 33 [q30, (.c (.str [47, 42]))] .b, .mv p29 q31 .b] (.cond q29 (.sO [.mv p32 q5 .s, .P p33 (.slice .str q32 (some (ci 2)) none none) .s, .cl p34 18 [q33, (.c (.str [42, 47]))] tI, .mv p6 q34 tI] (.sj v20_2 (.sO [.mv p35 q6 tI, .bn p36 .lss q35 (ci 0) .b] (.cond q36 (.s (.oX [.mv p37 q1 tI, .P p38 (.build [(kI 0), (kI 0)] [⟨0, 1, q37⟩, ⟨1, 1, (ci 10)⟩]) .v, .P p39 (.mkif 68 q38) .v, .o ⟨none, (.panic q39), none, []⟩ .v])) (.s .skip))) c20_2)) (.sO [.mv p14 q1 tI, .mv p4 q14 tI] (.s .ret))))))))))))
def c20_e : XC := (.sO [.mv p4 (ci 0) tI] (.sj v20_0 (.block 0 (.loop v20_1 c20_1b)) c20_0))
def x20 : XFn := ⟨[.s, tI], false, [(.tmp p4)], c20_e⟩
def e20_0 (k t1 h) := kN k [(p1, (vI t1))] h
def S20_0 (D : CallD) (m : Nat) (t1 : Int) (h : HP) : Res2 :=
 some (.ret (vI t1) h, .no)
def e20_2 (k t0 t1 t6 h) := kN k [(p0, (vS t0)), (p1, (vI t1)), (p6, (vI t6))] h
def S20_2 (D : CallD) (m : Nat) (g1 : LN → Int → HP → Res2) (t0 : LN) (t1 t6 : Int) (h : HP) : Res2 :=
 let t42 := wrQ .i64 (addQ t6 (Int.ofNat 4))
 let t43 := wrQ .i64 (addQ t1 t42)
 g1 t0 t43 h
def e20_1 (k t0 t1 h) := kN k [(p0, (vS t0)), (p1, (vI t1))] h
def S20_1b (D : CallD) (m : Nat) (g1 : LN → Int → HP → Res2) (t0 : LN) (t1 : Int) (h : HP) : Res2 :=
 let t9 := Int.ofNat (lenL t0)
 let t10 := ltQ t1 t9
 br t10 (
 slC (vS t0) (some (vI t1)) none fun vt13 => asS vt13 fun t13 =>
 ixC (vS t13) (vI (Int.ofNat 0)) fun vt17 => asI .u8 vt17 fun t17 =>
 cal D 32 [(vS ([32, 9, 10, 13] : LN)), (vC t17)] h fun t18 h4 =>
 asI .i64 t18 fun t18a =>
 let t19 := leQ (Int.ofNat 0) t18a
 br t19 (
 let t21 := wrQ .i64 (addQ t1 (Int.ofNat 1))
 g1 t0 t21 h4) (
 cal D 33 [(vS t13), (vS ([47, 47] : LN))] h4 fun t24 h5 =>
 asB t24 fun t24a =>
 br t24a (
 cal D 34 [(vS t13), ((.fn 35 [] []) : AV)] h5 fun t27 h6 =>
 asI .i64 t27 fun t27a =>
 let t28 := wrQ .i64 (addQ t1 t27a)
 g1 t0 t28 h6) (
 cal D 33 [(vS t13), (vS ([47, 42] : LN))] h5 fun t31 h7 =>
 asB t31 fun t31a =>
 br t31a (
 slC (vS t13) (some (vI (Int.ofNat 2))) none fun vt33 => asS vt33 fun t33 =>
 cal D 18 [(vS t33), (vS ([42, 47] : LN))] h7 fun t34 h8 =>
 asI .i64 t34 fun t34a =>
 let t36 := ltQ t34a (Int.ofNat 0)
 br t36 (
 let t38 := (AV.agg [(vI t1), (vI (Int.ofNat 10))])
 let t39 := (AV.iface 68 t38)
 some (.pan [(.iface 68 t38, false)] h8, .no)) (
 S20_2 D m g1 t0 t1 t34a h8)) (
 some (.ret (vI t1) h7, .no))))) (
 S20_0 D m t1 h)
def S20_1 (D : CallD) (m : Nat) : LN → Int → HP → Res2 := nrec (fun _ _ _ => none) (fun _ g => S20_1b D m g) m
def e20_3 (k t0 t1 h) := kN k [(p0, (vS t0)), (p1, (vI t1))] h
def S20_3 (D : CallD) (m : Nat) (t0 : LN) (t1 : Int) (h : HP) : Res2 :=
 S20_1 D m t0 t1 h
def S20 : SFn := fun D m args h u => nou u <| popS args fun t0 args => popI .i64 args fun t1 args => endA args (S20_3 D m t0 t1 h)
theorem T20_0 (hE : FX x20 D m E) : S20_0 D m = e20_0 (E c20_0 []) := by unfold S20_0; rw [hE c20_0]; kernel_rfl
theorem T20_2 (hE : FX x20 D m E) (G1) : S20_2 D m (e20_1 G1) = e20_2 (E c20_2 [.blk 2, .blk 1, .lp v20_1 G1, .blk 0, .sj v20_0 c20_0]) := by unfold S20_2; rw [hE c20_2]; kernel_rfl
theorem T20_1b (hE : FX x20 D m E) (G1) : S20_1b D m (e20_1 G1) = e20_1 (E c20_1b [.lp v20_1 G1, .blk 0, .sj v20_0 c20_0]) := by unfold S20_1b; rw [T20_2 hE G1, T20_0 hE, hE c20_1b]; kernel_rfl
theorem T20_1 (hE : FX x20 D m E) : S20_1 D m = e20_1 (nrec (fun _ => none) (fun _ G1 st => E c20_1b [.lp v20_1 G1, .blk 0, .sj v20_0 c20_0] st) m) :=
  nrec_emb e20_1 (fun _ _ _ => none) (fun g => S20_1b D m g) (fun G1 st => E c20_1b [.lp v20_1 G1, .blk 0, .sj v20_0 c20_0] st) rfl (fun g => T20_1b hE g) m
theorem T20_3 (hE : FX x20 D m E) : S20_3 D m = e20_3 (E c20_e []) := by unfold S20_3; rw [T20_1 hE, hE c20_e]; kernel_rfl
theorem X20 : XTie S20 x20 := X_of fun D m E hE args h u => by unfold S20; rw [T20_3 hE]; kernel_rfl
/- 21 -/
def v21_1 : List Pos := [p1, p4, p5, p6, p7]
def c21_1 : XC := (.sO [.mv p55 q6 tI, .mv p56 q5 .s, .mv p57 q7 tI, .P p58 (.slice .str q56 none (some q57) none) .s, .mv p59 q1 tI, .P p60 (.build [(kI 0), (.str []), (kI 0)] [⟨0, 1, q55⟩, ⟨1, 1, q58⟩, ⟨2, 1, q59⟩]) .v, .ss 3 q4 q60] (.s .ret))
def v21_0 : List Pos := [p1, p4, p5, p6, p7]
def c21_0 : XC := (.sj v21_1 (.sO [.mv p50 q6 tI, .bn p51 .eql q50 (ci 0) .b] (.cond q51 (.s (.oX [.mv p52 q1 tI, .P p53 (.build [(kI 0), (kI 0)] [⟨0, 1, q52⟩, ⟨1, 1, (ci 10)⟩]) .v, .P p54 (.mkif 68 q53) .v, .o ⟨none, (.panic q54), none, []⟩ .v])) (.s .skip))) c21_1)
def c21_3 : XC := (.cond q49 (.s (.oX [.mv p7 (ci 2) tI])) (.s .skip))
def l21_2 : XL := (XL.of [.mv p45 q44 .b, .ge p45 (XL.of [.G p45 true p46 (.mov q5) .s, .G p45 true p47 (.idxs q46 (ci 1)) tC, .G p45 true p48 (.bin .neq q47 (.c (.int .u8 (.ofNat 32)))) .b, .P p49 (.pick q45 q48 (cb false)) .b]) p49 .b])
def c21_e : XC := (.sO [.al p4 (.new [(kI 0), (.str []), (kI 0)])] (.sO [.mv p9 q0 .s, .mv p10 q1 tI, .P p11 (.slice .str q9 (some q10) none none) .s, .mv p5 q11 .s] (.sO [.mv p6 (ci 0) tI, .mv p7 (ci 0) tI] (.sj v21_0 (.sO [.mv p12 q5 .s, .P p13 (.idxs q12 (ci 0)) tC, .mv p8 q13 tC] (.block 0 (.sO [.mv p15 q8 tC, .cl p16 36 [q15] .b, .mv p14 q16 .b] (.cond q14 (.sO [.mv p17 q5 .s, .cl p18 34 [q17, (.c (.fn 37 [] []))] tI, .mv p7 q18 tI] (.sO [.mv p6 (ci 1) tI] (.sO [.mv p19 q5 .s, .mv p20 q7 tI, .P p21 (.slice .str q19 none (some q20) none) .s, .cl p22 39 [q21] .b] (.cond q22 (.s (.oX [.mv p6 (ci 5) tI])) (.sO [.mv p23 q7 tI, .bn p24 .gtr q23 (ci 40) .b] (.cond q24 (.s (.oX [.mv p6 (ci 0) tI])) (.s .skip))))))) (.sO [.mv p26 q8 tC, .cl p27 38 [q26] .b, .mv p25 q27 .b] (.cond q25 (.s (.oX [.mv p29 q5 .s, .cl p30 40 [q29] .v, .mv p28 q30 .v, .P p31 (.ext q28 0) tI, .P p32 (.ext q28 1) tI, .mv p6 q31 tI, .mv p7 q32 tI])) (.sO [.mv p34 q8 tC, .cl p35 32 [(.c (.str [43, 45, 42, 47, 37, 38, 124, 94, 126, 33, 60, 62, 61, 40, 41, 123, 125, 91, 93, 59, 44])), q34] tI, .bn p36 .geq q35 (ci 0) .b, .mv p33 q36 .b] (.cond q33 (.sO [.mv p6 (ci 4) tI, .mv p7 (ci 1) tI] (.opq false (XL.pre [.mv p37 q5 .s, .P p38 (.lens q37) tI, .bn p39 .gtr q38 (ci 1) .b, .mv p40 q39 .b, .sp p40, .G p40 true p41 (.mov q5) .s, .G p40 true p42 (.slice .str q41 none (some (ci 2)) none) .s, .o ⟨(some p43), (.call (.fn 11) [(.c (.str [60, 60, 32, 62, 62, 32, 60, 61, 32, 62, 61, 32, 61, 61, 32, 33, 61, 32, 38, 38, 32, 124, 124])), q42]), (some (p40, true)), []⟩ .b, .P p44 (.pick q40 q43 (cb false)) .b, .jn p40 [p1, p4, p5, p6, p7, p44]] l21_2) c21_3)) (.s .skip))))))))) c21_0))))
def x21 : XFn := ⟨[.s, tI], false, [(.cells 3 p4)], c21_e⟩
def e21_1 (k t1 t4 t5 t6 t7 h) := kN k [(p1, (vI t1)), (p4, t4), (p5, (vS t5)), (p6, (vI t6)), (p7, (vI t7))] h
def S21_1 (D : CallD) (m : Nat) (t1 : Int) (t4 : AV) (t5 : LN) (t6 t7 : Int) (h : HP) : Res2 :=
 slC (vS t5) none (some (vI t7)) fun vt58 => asS vt58 fun t58 =>
 let t60 := (AV.agg [(vI t6), (vS t58), (vI t1)])
 stsC 3 t4 t60 h fun h6 =>
 cellsC 3 t4 h6 fun t4a =>
 some (.ret t4a h6, .no)
def e21_0 (k t1 t4 t5 t6 t7 h) := kN k [(p1, (vI t1)), (p4, t4), (p5, (vS t5)), (p6, (vI t6)), (p7, (vI t7))] h
def S21_0 (D : CallD) (m : Nat) (t1 : Int) (t4 : AV) (t5 : LN) (t6 t7 : Int) (h : HP) : Res2 :=
 let t51 := eqQ t6 (Int.ofNat 0)
 br t51 (
 let t53 := (AV.agg [(vI t1), (vI (Int.ofNat 10))])
 let t54 := (AV.iface 68 t53)
 some (.pan [(.iface 68 t53, false)] h, .no)) (
 S21_1 D m t1 t4 t5 t6 t7 h)
def e21_2 (k t1 t4 t5 t6 t7 t44 h) := kN k [(p1, (vI t1)), (p4, t4), (p5, (vS t5)), (p6, (vI t6)), (p7, (vI t7)), (p44, (vB t44))] h
def S21_2 (D : CallD) (m : Nat) (t1 : Int) (t4 : AV) (t5 : LN) (t6 t7 : Int) (t44 : Bool) (h : HP) : Res2 :=
 obB (brV t44 (
 ixCV (vS t5) (vI (Int.ofNat 1)) fun vt47 => asIV .u8 vt47 fun t47 =>
 let t48 := notQ (eqQ t47 (Int.ofNat 32))
 some (vB t48)) (
 some (vB false))) fun t49 =>
 br t49 (
 S21_0 D m t1 t4 t5 t6 (Int.ofNat 2) h) (
 S21_0 D m t1 t4 t5 t6 t7 h)
def e21_4 (k t0 t1 h) := kN k [(p0, (vS t0)), (p1, (vI t1))] h
def S21_4 (D : CallD) (m : Nat) (t0 : LN) (t1 : Int) (h : HP) : Res2 :=
 let t4 := AV.ptr (HP.nxQ h) 0
 let h5 := HP.newQ h (.cells true [(kI 0), (.str []), (kI 0)])
 slC (vS t0) (some (vI t1)) none fun vt11 => asS vt11 fun t11 =>
 ixC (vS t11) (vI (Int.ofNat 0)) fun vt13 => asI .u8 vt13 fun t13 =>
 cal D 36 [(vC t13)] h5 fun t16 h7 =>
 asB t16 fun t16a =>
 br t16a (
 cal D 34 [(vS t11), ((.fn 37 [] []) : AV)] h7 fun t18 h8 =>
 asI .i64 t18 fun t18a =>
 slC (vS t11) none (some (vI t18a)) fun vt21 => asS vt21 fun t21 =>
 cal D 39 [(vS t21)] h8 fun t22 h9 =>
 asB t22 fun t22a =>
 br t22a (
 S21_0 D m t1 t4 t11 (Int.ofNat 5) t18a h9) (
 let t24 := ltQ (Int.ofNat 40) t18a
 br t24 (
 S21_0 D m t1 t4 t11 (Int.ofNat 0) t18a h9) (
 S21_0 D m t1 t4 t11 (Int.ofNat 1) t18a h9))) (
 cal D 38 [(vC t13)] h7 fun t27 h10 =>
 asB t27 fun t27a =>
 br t27a (
 cal D 40 [(vS t11)] h10 fun t30 h11 =>
 extC t30 0 fun vt31 => asI .i64 vt31 fun t31 =>
 extC t30 1 fun vt32 => asI .i64 vt32 fun t32 =>
 S21_0 D m t1 t4 t11 t31 t32 h11) (
 cal D 32 [(vS ([43, 45, 42, 47, 37, 38, 124, 94, 126, 33, 60, 62, 61, 40, 41, 123, 125, 91, 93, 59, 44] : LN)), (vC t13)] h10 fun t35 h12 =>
 asI .i64 t35 fun t35a =>
 let t36 := leQ (Int.ofNat 0) t35a
 br t36 (
 let t38 := Int.ofNat (lenL t11)
 let t39 := ltQ (Int.ofNat 1) t38
 br t39 (
 slC (vS t11) none (some (vI (Int.ofNat 2))) fun vt42 => asS vt42 fun t42 =>
 cal D 11 [(vS ([60, 60, 32, 62, 62, 32, 60, 61, 32, 62, 61, 32, 61, 61, 32, 33, 61, 32, 38, 38, 32, 124, 124] : LN)), (vS t42)] h12 fun t43 h13 =>
 asB t43 fun t43a =>
 S21_2 D m t1 t4 t11 (Int.ofNat 4) (Int.ofNat 1) t43a h13) (
 S21_2 D m t1 t4 t11 (Int.ofNat 4) (Int.ofNat 1) false h12)) (
 S21_0 D m t1 t4 t11 (Int.ofNat 0) (Int.ofNat 0) h12)))
def S21 : SFn := fun D m args h u => nou u <| popS args fun t0 args => popI .i64 args fun t1 args => endA args (S21_4 D m t0 t1 h)
theorem T21_1 (hE : FX x21 D m E) : S21_1 D m = e21_1 (E c21_1 []) := by unfold S21_1; rw [hE c21_1]; kernel_rfl
theorem T21_0 (hE : FX x21 D m E) : S21_0 D m = e21_0 (E c21_0 []) := by unfold S21_0; rw [T21_1 hE, hE c21_0]; kernel_rfl
theorem T21_2 (hE : FX x21 D m E) : S21_2 D m = e21_2 (E (.opq false l21_2 c21_3) [.blk 0, .sj v21_0 c21_0]) := by unfold S21_2; rw [T21_0 hE, hE (.opq false l21_2 c21_3)]; kernel_rfl
theorem T21_4 (hE : FX x21 D m E) : S21_4 D m = e21_4 (E c21_e []) := by unfold S21_4; rw [T21_0 hE, T21_2 hE, hE c21_e]; kernel_rfl
theorem X21 : XTie S21 x21 := X_of fun D m E hE args h u => by unfold S21; rw [T21_4 hE]; kernel_rfl
/- 22 -/
def c22_e : XC := (.sO [.mv p4 (cb false) .b] (.seq (.seq (.oX [.mv p5 q0 .v, .mv p6 q1 .s, .al p7 (.bsl [(.str [])] 1 [⟨0, 1, q6⟩]), .cl p8 26 [q5, q7] .b]) (.cond q8 (.seq (.oX [.mv p9 q0 .v, .P p10 (.nilck q9) .v, .fa p11 1 q10, .ld p12 q11 tI, .bn p13 .add q12 (ci 1) tI, .P p14 (.nilck q9) .v, .fa p15 1 q14, .st q15 q13]) (.seq (.oX [.mv p4 (cb true) .b]) .ret)) .skip)) (.sO [.mv p4 (cb false) .b] (.s .ret))))
def x22 : XFn := ⟨[.v, .s], false, [(.tmp p4)], c22_e⟩
def e22_0 (k t0 t1 h) := kN k [(p0, t0), (p1, (vS t1))] h
def S22_0 (D : CallD) (m : Nat) (t0 : AV) (t1 : LN) (h : HP) : Res2 :=
 let t7 := AV.slice (HP.nxQ h) 0 1 (.exact 1)
 let h1 := HP.newQ h (.cells true [(vS t1)])
 cal D 26 [t0, t7] h1 fun t8 h2 =>
 asB t8 fun t8a =>
 br t8a (
 nilckC t0 fun t10 =>
 faC 1 t10 fun t11 =>
 ldI t11 h2 fun t12 =>
 let t13 := wrQ .i64 (addQ t12 (Int.ofNat 1))
 nilckC t0 fun t14 =>
 faC 1 t14 fun t15 =>
 stoC t15 (vI t13) h2 fun h3 =>
 some (.ret (vB true) h3, .no)) (
 some (.ret (vB false) h2, .no))
def S22 : SFn := fun D m args h u => nou u <| popV args fun t0 args => popS args fun t1 args => endA args (S22_0 D m t0 t1 h)
theorem T22_0 (hE : FX x22 D m E) : S22_0 D m = e22_0 (E c22_e []) := by unfold S22_0; rw [hE c22_e]; kernel_rfl
theorem X22 : XTie S22 x22 := X_of fun D m E hE args h u => by unfold S22; rw [T22_0 hE]; kernel_rfl
/- 23 -/
def c23_e : XC := (.sO [.mv p2 (ci 0) tI] (.seq (.block 0 (.seq (.oX [.mv p4 q0 .v, .cl p5 22 [q4, (.c (.str [105, 110, 116]))] .b, .mv p3 q5 .b]) (.cond q3 (.seq (.seq (.oX [.mv p6 q0 .v, .cl p7 22 [q6, (.c (.str [42]))] .b]) (.cond q7 (.seq (.oX [.mv p2 (ci 3) tI]) .ret) .skip)) (.seq (.oX [.mv p2 (ci 1) tI]) .ret)) (.seq (.oX [.mv p9 q0 .v, .cl p10 22 [q9, (.c (.str [100, 111, 117, 98, 108, 101]))] .b, .mv p8 q10 .b]) (.cond q8 (.seq (.seq (.oX [.mv p11 q0 .v, .cl p12 22 [q11, (.c (.str [42]))] .b]) (.cond q12 (.seq (.oX [.mv p2 (ci 4) tI]) .ret) .skip)) (.seq (.oX [.mv p2 (ci 2) tI]) .ret)) .skip))))) (.sO [.mv p13 q0 .v, .cl p14 28 [q13, (.c (.str [118, 111, 105, 100]))] .v] (.sO [.mv p2 (ci 0) tI] (.s .ret)))))
def x23 : XFn := ⟨[.v], false, [(.tmp p2)], c23_e⟩
def e23_0 (k t0 h) := kN k [(p0, t0)] h
def S23_0 (D : CallD) (m : Nat) (t0 : AV) (h : HP) : Res2 :=
 cal D 22 [t0, (vS ([105, 110, 116] : LN))] h fun t5 h1 =>
 asB t5 fun t5a =>
 br t5a (
 cal D 22 [t0, (vS ([42] : LN))] h1 fun t7 h2 =>
 asB t7 fun t7a =>
 br t7a (
 some (.ret (vI (Int.ofNat 3)) h2, .no)) (
 some (.ret (vI (Int.ofNat 1)) h2, .no))) (
 cal D 22 [t0, (vS ([100, 111, 117, 98, 108, 101] : LN))] h1 fun t10 h3 =>
 asB t10 fun t10a =>
 br t10a (
 cal D 22 [t0, (vS ([42] : LN))] h3 fun t12 h4 =>
 asB t12 fun t12a =>
 br t12a (
 some (.ret (vI (Int.ofNat 4)) h4, .no)) (
 some (.ret (vI (Int.ofNat 2)) h4, .no))) (
 cal D 28 [t0, (vS ([118, 111, 105, 100] : LN))] h3 fun t14 h5 =>
 some (.ret (vI (Int.ofNat 0)) h5, .no)))
def S23 : SFn := fun D m args h u => nou u <| popV args fun t0 args => endA args (S23_0 D m t0 h)
theorem T23_0 (hE : FX x23 D m E) : S23_0 D m = e23_0 (E c23_e []) := by unfold S23_0; rw [hE c23_e]; kernel_rfl
theorem X23 : XTie S23 x23 := X_of fun D m E hE args h u => by unfold S23; rw [T23_0 hE]; kernel_rfl
/- 24 -/
def v24_0 : List Pos := [p0, p5]
def c24_0 : XC := (.sO [.mv p14 q0 .v, .P p15 (.nilck q14) .v, .fa p16 1 q15, .ld p17 q16 tI, .bn p18 .add q17 (ci 1) tI, .P p19 (.nilck q14) .v, .fa p20 1 q19, .st q20 q18] (.sO [.fa p21 1 q5, .ld p22 q21 .s, .mv p4 q22 .s] (.s .ret)))
def c24_e : XC := (.sO [.mv p4 (.c (.str [])) .s] (.sO [.mv p6 q0 .v, .cl p7 14 [q6] .v, .al p5 (.new [(kI 0), (.str []), (kI 0)]), .ss 3 q5 q7] (.sj v24_0 (.sO [.fa p8 0 q5, .ld p9 q8 tI, .mv p10 q1 tI, .bn p11 .neq q9 q10 .b] (.cond q11 (.s (.oX [.mv p12 q0 .v, .cl p13 41 [q12, (ci 11)] .v])) (.s .skip))) c24_0)))
def x24 : XFn := ⟨[.v, tI], false, [(.tmp p4)], c24_e⟩
def e24_0 (k t0 t5 h) := kN k [(p0, t0), (p5, t5)] h
def S24_0 (D : CallD) (m : Nat) (t0 t5 : AV) (h : HP) : Res2 :=
 nilckC t0 fun t15 =>
 faC 1 t15 fun t16 =>
 ldI t16 h fun t17 =>
 let t18 := wrQ .i64 (addQ t17 (Int.ofNat 1))
 nilckC t0 fun t19 =>
 faC 1 t19 fun t20 =>
 stoC t20 (vI t18) h fun h5 =>
 faC 1 t5 fun t21 =>
 ldS t21 h5 fun t22 =>
 some (.ret (vS t22) h5, .no)
def e24_1 (k t0 t1 h) := kN k [(p0, t0), (p1, (vI t1))] h
def S24_1 (D : CallD) (m : Nat) (t0 : AV) (t1 : Int) (h : HP) : Res2 :=
 cal D 14 [t0] h fun t7 h2 =>
 let t5 := AV.ptr (HP.nxQ h2) 0
 let h3 := HP.newQ h2 (.cells true [(kI 0), (.str []), (kI 0)])
 stsC 3 t5 t7 h3 fun h4 =>
 let t8 := (AV.ptr (HP.nxQ h2) (Nat.add 0 0))
 ldI t8 h4 fun t9 =>
 let t11 := notQ (eqQ t9 t1)
 br t11 (
 cal D 41 [t0, (vI (Int.ofNat 11))] h4 fun t13 h6 =>
 S24_0 D m t0 t5 h6) (
 S24_0 D m t0 t5 h4)
def S24 : SFn := fun D m args h u => nou u <| popV args fun t0 args => popI .i64 args fun t1 args => endA args (S24_1 D m t0 t1 h)
theorem T24_0 (hE : FX x24 D m E) : S24_0 D m = e24_0 (E c24_0 []) := by unfold S24_0; rw [hE c24_0]; kernel_rfl
theorem T24_1 (hE : FX x24 D m E) : S24_1 D m = e24_1 (E c24_e []) := by unfold S24_1; rw [T24_0 hE, hE c24_e]; kernel_rfl
theorem X24 : XTie S24 x24 := X_of fun D m E hE args h u => by unfold S24; rw [T24_1 hE]; kernel_rfl
/- 25 -/
def v25_1 : List Pos := [p0]
def c25_1 : XC := (.s (.oX [.mv p64 q0 .v, .cl p65 28 [q64, (.c (.str [41]))] .v]))
def v25_3 : List Pos := [p0, p1]
def c25_3 : XC := (.s (.oX [.mv p34 q0 .v, .cl p35 22 [q34, (.c (.str [44]))] .b, .mv p4 q35 .b]))
def v25_4 : List Pos := [p0, p1]
def c25_4 : XC := (.sO [.mv p44 q0 .v, .cl p45 14 [q44] .v, .P p46 (.field 2 1 false q45) tI, .P p47 (.build [(.str []), (kI 0), (kI 0)] [⟨2, 1, q46⟩]) .v, .al p5 (.new [(.str []), (kI 0), (kI 0)]), .ss 3 q5 q47] (.sO [.mv p48 q0 .v, .cl p49 23 [q48] tI, .fa p50 1 q5, .st q50 q49] (.sO [.mv p51 q0 .v, .cl p52 24 [q51, (ci 1)] .s, .fa p53 0 q5, .st q53 q52] (.s (.ops true (XL.of [.mv p54 q1 .v, .mv p55 q1 .v, .P p56 (.nilck q55) .v, .fa p57 8 q56, .ld p58 q57 .v, .L p59 (.cells 3 q5) .v, .al p60 (.bsl [(.str []), (kI 0), (kI 0)] 1 [⟨0, 3, q59⟩]), .o ⟨(some p61), (.e (.app 3 32 q58 q60)), none, []⟩ .v, .P p62 (.nilck q54) .v, .fa p63 8 q62, .st q63 q61]))))))
def v25_2 : List Pos := [p0, p1, p4]
def c25_2b : XC := (.seq (.seq (.oX [.mv p33 q4 .b]) (.cond q33 .skip (.exit 0))) (.sj v25_3 (.block 1 (.sj v25_4 (.sO [.mv p36 q1 .v, .P p37 (.nilck q36) .v, .fa p38 8 q37, .ld p39 q38 .v, .P p40 (.lenl q39) tI, .bn p41 .eql q40 (ci 8) .b] (.cond q41 (.s (.oX [.mv p42 q0 .v, .cl p43 41 [q42, (ci 5)] .v])) (.s .skip))) c25_4)) c25_3))
def v25_0 : List Pos := [p0, p1]
def c25_0 : XC := (.seq (.seq (.oX [.mv p31 q0 .v, .cl p32 22 [q31, (.c (.str [41]))] .b]) (.cond q32 .ret .skip)) (.sj v25_1 (.sO [.mv p4 (cb true) .b] (.block 0 (.loop v25_2 c25_2b))) c25_1))
def c25_e : XC := (.sj v25_0 (.seq (.ops true (XL.of [.mv p6 q0 .v, .al p7 (.bsl [(.str [])] 1 [⟨0, 1, (.c (.str [118, 111, 105, 100]))⟩]), .cl p8 26 [q6, q7] .b, .mv p9 q8 .b, .ge p9 (XL.of [.G p9 true p10 (.mov q0) .v, .G p9 true p11 (.nilck q10) .v, .G p9 true p12 (.faddr 0 q11) .v, .o ⟨(some p13), (.l (.cell q12)), (some (p9, true)), []⟩ .v, .G p9 true p14 (.mov q0) .v, .G p9 true p15 (.nilck q14) .v, .G p9 true p16 (.faddr 1 q15) .v, .o ⟨(some p17), (.l (.cell q16)), (some (p9, true)), []⟩ tI, .G p9 true p18 (.bin .add q17 (ci 1)) tI, .G p9 true p19 (.iaddr (.sl 3) q13 q18) .v, .G p9 true p20 (.faddr 1 q19) .v, .o ⟨(some p21), (.l (.cell q20)), (some (p9, true)), []⟩ .s, .G p9 true p22 (.bin .eql q21 (.c (.str [41]))) .b, .P p23 (.pick q9 q22 (cb false)) .b]) p23 .b])) (.cond q23 (.s (.oX [.mv p24 q0 .v, .P p25 (.nilck q24) .v, .fa p26 1 q25, .ld p27 q26 tI, .bn p28 .add q27 (ci 1) tI, .P p29 (.nilck q24) .v, .fa p30 1 q29, .st q30 q28])) (.s .skip))) c25_0)
def x25 : XFn := ⟨[.v, .v], false, [], c25_e⟩
def e25_1 (k t0 h) := kN k [(p0, t0)] h
def S25_1 (D : CallD) (m : Nat) (t0 : AV) (h : HP) : Res2 :=
 cal D 28 [t0, (vS ([41] : LN))] h fun t65 h7 =>
 some (.ret (.tup []) h7, .no)
def e25_3 (k t0 t1 h) := kN k [(p0, t0), (p1, t1)] h
def S25_3 (D : CallD) (m : Nat) (g2 : AV → AV → Bool → HP → Res2) (t0 t1 : AV) (h : HP) : Res2 :=
 cal D 22 [t0, (vS ([44] : LN))] h fun t35 h8 =>
 asB t35 fun t35a =>
 g2 t0 t1 t35a h8
def e25_4 (k t0 t1 h) := kN k [(p0, t0), (p1, t1)] h
def S25_4 (D : CallD) (m : Nat) (g2 : AV → AV → Bool → HP → Res2) (t0 t1 : AV) (h : HP) : Res2 :=
 cal D 14 [t0] h fun t45 h9 =>
 fldC 2 1 false t45 fun vt46 => asI .i64 vt46 fun t46 =>
 let t47 := (AV.agg [(vS ([] : LN)), (vI (Int.ofNat 0)), (vI t46)])
 let t5 := AV.ptr (HP.nxQ h9) 0
 let h10 := HP.newQ h9 (.cells true [(.str []), (kI 0), (kI 0)])
 stsC 3 t5 t47 h10 fun h11 =>
 cal D 23 [t0] h11 fun t49 h12 =>
 asI .i64 t49 fun t49a =>
 let t50 := (AV.ptr (HP.nxQ h9) (Nat.add 0 1))
 stoC t50 (vI t49a) h12 fun h13 =>
 cal D 24 [t0, (vI (Int.ofNat 1))] h13 fun t52 h14 =>
 asS t52 fun t52a =>
 let t53 := (AV.ptr (HP.nxQ h9) (Nat.add 0 0))
 stoC t53 (vS t52a) h14 fun h15 =>
 nilckC t1 fun t56 =>
 faC 8 t56 fun t57 =>
 cellC t57 h15 fun t58 =>
 cellsC 3 t5 h15 fun t59 =>
 obQ (evA (.bsl [(.str []), (kI 0), (kI 0)] 1 [⟨0, 3, (.c t59)⟩]) .leaf) fun r16 =>
 let t60 := vkV r16.2 (HP.nxQ h15)
 let h17 := HP.newQ h15 r16.1
 eff (.app 3 32 (.c t58) (.c t60)) h17 fun t61 h18 =>
 nilckC t1 fun t62 =>
 faC 8 t62 fun t63 =>
 stoC t63 t61 h18 fun h19 =>
 S25_3 D m g2 t0 t1 h19
def e25_2 (k t0 t1 t4 h) := kN k [(p0, t0), (p1, t1), (p4, (vB t4))] h
def S25_2b (D : CallD) (m : Nat) (g2 : AV → AV → Bool → HP → Res2) (t0 t1 : AV) (t4 : Bool) (h : HP) : Res2 :=
 br t4 (
 nilckC t1 fun t37 =>
 faC 8 t37 fun t38 =>
 cellC t38 h fun t39 =>
 lenC t39 fun vt40 => asI .i64 vt40 fun t40 =>
 let t41 := eqQ t40 (Int.ofNat 8)
 br t41 (
 cal D 41 [t0, (vI (Int.ofNat 5))] h fun t43 h20 =>
 S25_4 D m g2 t0 t1 h20) (
 S25_4 D m g2 t0 t1 h)) (
 S25_1 D m t0 h)
def S25_2 (D : CallD) (m : Nat) : AV → AV → Bool → HP → Res2 := nrec (fun _ _ _ _ => none) (fun _ g => S25_2b D m g) m
def e25_0 (k t0 t1 h) := kN k [(p0, t0), (p1, t1)] h
def S25_0 (D : CallD) (m : Nat) (t0 t1 : AV) (h : HP) : Res2 :=
 cal D 22 [t0, (vS ([41] : LN))] h fun t32 h6 =>
 asB t32 fun t32a =>
 br t32a (
 some (.ret (.tup []) h6, .no)) (
 S25_2 D m t0 t1 true h6)
def e25_5 (k t0 t1 h) := kN k [(p0, t0), (p1, t1)] h
def S25_5 (D : CallD) (m : Nat) (t0 t1 : AV) (h : HP) : Res2 :=
 let t7 := AV.slice (HP.nxQ h) 0 1 (.exact 1)
 let h21 := HP.newQ h (.cells true [(vS ([118, 111, 105, 100] : LN))])
 cal D 26 [t0, t7] h21 fun t8 h22 =>
 asB t8 fun t8a =>
 obB (brV t8a (
 nilckCV t0 fun t11 =>
 faCV 0 t11 fun t12 =>
 cellCV t12 h22 fun t13 =>
 nilckCV t0 fun t15 =>
 faCV 1 t15 fun t16 =>
 ldIV t16 h22 fun t17 =>
 let t18 := wrQ .i64 (addQ t17 (Int.ofNat 1))
 iasCV 3 t13 (vI t18) fun t19 =>
 faCV 1 t19 fun t20 =>
 ldSV t20 h22 fun t21 =>
 let t22 := eqL t21 ([41] : LN)
 some (vB t22)) (
 some (vB false))) fun t23 =>
 br t23 (
 nilckC t0 fun t25 =>
 faC 1 t25 fun t26 =>
 ldI t26 h22 fun t27 =>
 let t28 := wrQ .i64 (addQ t27 (Int.ofNat 1))
 nilckC t0 fun t29 =>
 faC 1 t29 fun t30 =>
 stoC t30 (vI t28) h22 fun h23 =>
 S25_0 D m t0 t1 h23) (
 S25_0 D m t0 t1 h22)
def S25 : SFn := fun D m args h u => nou u <| popV args fun t0 args => popV args fun t1 args => endA args (S25_5 D m t0 t1 h)
theorem T25_1 (hE : FX x25 D m E) : S25_1 D m = e25_1 (E c25_1 []) := by unfold S25_1; rw [hE c25_1]; kernel_rfl
theorem T25_3 (hE : FX x25 D m E) (G2) : S25_3 D m (e25_2 G2) = e25_3 (E c25_3 [.lp v25_2 G2, .blk 0, .sj v25_1 c25_1]) := by unfold S25_3; rw [hE c25_3]; kernel_rfl
theorem T25_4 (hE : FX x25 D m E) (G2) : S25_4 D m (e25_2 G2) = e25_4 (E c25_4 [.blk 1, .sj v25_3 c25_3, .lp v25_2 G2, .blk 0, .sj v25_1 c25_1]) := by unfold S25_4; rw [T25_3 hE G2, hE c25_4]; kernel_rfl
theorem T25_2b (hE : FX x25 D m E) (G2) : S25_2b D m (e25_2 G2) = e25_2 (E c25_2b [.lp v25_2 G2, .blk 0, .sj v25_1 c25_1]) := by unfold S25_2b; rw [T25_4 hE G2, T25_1 hE, hE c25_2b]; kernel_rfl
theorem T25_2 (hE : FX x25 D m E) : S25_2 D m = e25_2 (nrec (fun _ => none) (fun _ G2 st => E c25_2b [.lp v25_2 G2, .blk 0, .sj v25_1 c25_1] st) m) :=
  nrec_emb e25_2 (fun _ _ _ _ => none) (fun g => S25_2b D m g) (fun G2 st => E c25_2b [.lp v25_2 G2, .blk 0, .sj v25_1 c25_1] st) rfl (fun g => T25_2b hE g) m
theorem T25_0 (hE : FX x25 D m E) : S25_0 D m = e25_0 (E c25_0 []) := by unfold S25_0; rw [T25_2 hE, hE c25_0]; kernel_rfl
theorem T25_5 (hE : FX x25 D m E) : S25_5 D m = e25_5 (E c25_e []) := by unfold S25_5; rw [T25_0 hE, hE c25_e]; kernel_rfl
theorem X25 : XTie S25 x25 := X_of fun D m E hE args h u => by unfold S25; rw [T25_5 hE]; kernel_rfl
/- 26 -/
def v26_0 : List Pos := []
def c26_0 : XC := (.sO [.mv p4 (cb false) .b] (.s .ret))
def v26_1 : List Pos := [p5, p10, p11, p12]
def c26_1b : XC := (.sO [.bn p13 .lss q12 q11 .b] (.seq (.cond q13 .skip (.exit 0)) (.seq (.block 1 (.seq (.oX [.P p14 (.iaddr (.sl 1) q10 q12) .v, .ld p15 q14 .s, .mv p7 q15 .s]) (.seq (.oX [.fa p16 0 q5, .ld p17 q16 tI, .bn p18 .eql q17 (ci 4) .b, .mv p19 q18 .b, .ge p19 (XL.of [.G p19 false p20 (.faddr 0 q5) .v, .o ⟨(some p21), (.l (.cell q20)), (some (p19, false)), []⟩ tI, .G p19 false p22 (.bin .eql q21 (ci 5)) .b, .P p23 (.pick q19 (cb true) q22) .b]) p23 .b, .mv p24 q23 .b, .ge p24 (XL.of [.G p24 true p25 (.faddr 1 q5) .v, .o ⟨(some p26), (.l (.cell q25)), (some (p24, true)), []⟩ .s, .G p24 true p27 (.mov q7) .s, .G p24 true p28 (.bin .eql q26 q27) .b, .P p29 (.pick q24 q28 (cb false)) .b]) p29 .b]) (.cond q29 (.seq (.oX [.mv p4 (cb true) .b]) .ret) .skip)))) (.s (.oX [.bn p30 .add q12 (ci 1) tI, .mv p12 q30 tI])))))
def c26_e : XC := (.sO [.mv p4 (cb false) .b] (.sO [.mv p8 q0 .v, .cl p9 14 [q8] .v, .al p5 (.new [(kI 0), (.str []), (kI 0)]), .ss 3 q5 q9] (.sj v26_0 (.sO [.mv p10 q1 .v, .P p11 (.lenl q10) tI, .mv p12 (ci 0) tI] (.block 0 (.loop v26_1 c26_1b))) c26_0)))
def x26 : XFn := ⟨[.v, .v], false, [(.tmp p4)], c26_e⟩
def e26_0 (k h) := kN k [] h
def S26_0 (D : CallD) (m : Nat) (h : HP) : Res2 :=
 some (.ret (vB false) h, .no)
def e26_1 (k t5 t10 t11 t12 h) := kN k [(p5, t5), (p10, t10), (p11, (vI t11)), (p12, (vI t12))] h
def S26_1b (D : CallD) (m : Nat) (g1 : AV → AV → Int → Int → HP → Res2) (t5 t10 : AV) (t11 t12 : Int) (h : HP) : Res2 :=
 let t13 := ltQ t12 t11
 br t13 (
 iasC 1 t10 (vI t12) fun t14 =>
 ldS t14 h fun t15 =>
 faC 0 t5 fun t16 =>
 ldI t16 h fun t17 =>
 let t18 := eqQ t17 (Int.ofNat 4)
 obB (brV t18 (
 some (vB true)) (
 faCV 0 t5 fun t20 =>
 ldIV t20 h fun t21 =>
 let t22 := eqQ t21 (Int.ofNat 5)
 some (vB t22))) fun t23 =>
 obB (brV t23 (
 faCV 1 t5 fun t25 =>
 ldSV t25 h fun t26 =>
 let t28 := eqL t26 t15
 some (vB t28)) (
 some (vB false))) fun t29 =>
 br t29 (
 some (.ret (vB true) h, .no)) (
 let t30 := wrQ .i64 (addQ t12 (Int.ofNat 1))
 g1 t5 t10 t11 t30 h)) (
 S26_0 D m h)
def S26_1 (D : CallD) (m : Nat) : AV → AV → Int → Int → HP → Res2 := nrec (fun _ _ _ _ _ => none) (fun _ g => S26_1b D m g) m
def e26_2 (k t0 t1 h) := kN k [(p0, t0), (p1, t1)] h
def S26_2 (D : CallD) (m : Nat) (t0 t1 : AV) (h : HP) : Res2 :=
 cal D 14 [t0] h fun t9 h3 =>
 let t5 := AV.ptr (HP.nxQ h3) 0
 let h4 := HP.newQ h3 (.cells true [(kI 0), (.str []), (kI 0)])
 stsC 3 t5 t9 h4 fun h5 =>
 lenC t1 fun vt11 => asI .i64 vt11 fun t11 =>
 S26_1 D m t5 t1 t11 (Int.ofNat 0) h5
def S26 : SFn := fun D m args h u => nou u <| popV args fun t0 args => popV args fun t1 args => endA args (S26_2 D m t0 t1 h)
theorem T26_0 (hE : FX x26 D m E) : S26_0 D m = e26_0 (E c26_0 []) := by unfold S26_0; rw [hE c26_0]; kernel_rfl
theorem T26_1b (hE : FX x26 D m E) (G1) : S26_1b D m (e26_1 G1) = e26_1 (E c26_1b [.lp v26_1 G1, .blk 0, .sj v26_0 c26_0]) := by unfold S26_1b; rw [T26_0 hE, hE c26_1b]; kernel_rfl
theorem T26_1 (hE : FX x26 D m E) : S26_1 D m = e26_1 (nrec (fun _ => none) (fun _ G1 st => E c26_1b [.lp v26_1 G1, .blk 0, .sj v26_0 c26_0] st) m) :=
  nrec_emb e26_1 (fun _ _ _ _ _ => none) (fun g => S26_1b D m g) (fun G1 st => E c26_1b [.lp v26_1 G1, .blk 0, .sj v26_0 c26_0] st) rfl (fun g => T26_1b hE g) m
theorem T26_2 (hE : FX x26 D m E) : S26_2 D m = e26_2 (E c26_e []) := by unfold S26_2; rw [T26_1 hE, hE c26_e]; kernel_rfl
theorem X26 : XTie S26 x26 := X_of fun D m E hE args h u => by unfold S26; rw [T26_2 hE]; kernel_rfl
/- 27 -/
def v27_0 : List Pos := [p2, p3]
def c27_0 : XC := (.sO [.L p20 (.cells 7 q3) .v, .ss 7 q2 q20] (.s .ret))
def v27_1 : List Pos := [p0, p2, p3]
def c27_1b : XC := (.seq (.seq (.oX [.mv p10 q0 .v, .cl p11 22 [q10, (.c (.str [125]))] .b, .P p12 (.un .not q11) .b]) (.cond q12 .skip (.exit 0))) (.block 1 (.s (.ops true (XL.of [.fa p13 2 q3, .ld p14 q13 .v, .mv p15 q0 .v, .o ⟨(some p16), (.call (.fn 42) [q15]), none, [⟨none, .cell q13, p14⟩]⟩ .v, .al p17 (.bsl [(kI 0), .nils, .nils, (.str []), (kI 0), (kI 0), (kI 0)] 1 [⟨0, 7, q16⟩]), .o ⟨(some p18), (.e (.app 7 96 q14 q17)), none, []⟩ .v, .fa p19 2 q3, .st q19 q18])))))
def c27_e : XC := (.sO [.al p2 (.new [(kI 0), .nils, .nils, (.str []), (kI 0), (kI 0), (kI 0)])] (.sO [.mv p4 q0 .v, .cl p5 14 [q4] .v, .P p6 (.field 2 1 false q5) tI, .P p7 (.build [(kI 0), .nils, .nils, (.str []), (kI 0), (kI 0), (kI 0)] [⟨0, 1, (ci 1)⟩, ⟨6, 1, q6⟩]) .v, .al p3 (.new [(kI 0), .nils, .nils, (.str []), (kI 0), (kI 0), (kI 0)]), .ss 7 q3 q7] (.sO [.mv p8 q0 .v, .cl p9 28 [q8, (.c (.str [123]))] .v] (.sj v27_0 (.block 0 (.loop v27_1 c27_1b)) c27_0))))
def x27 : XFn := ⟨[.v], false, [(.cells 7 p2)], c27_e⟩
def e27_0 (k t2 t3 h) := kN k [(p2, t2), (p3, t3)] h
def S27_0 (D : CallD) (m : Nat) (t2 t3 : AV) (h : HP) : Res2 :=
 cellsC 7 t3 h fun t20 =>
 stsC 7 t2 t20 h fun h8 =>
 cellsC 7 t2 h8 fun t2a =>
 some (.ret t2a h8, .no)
def e27_1 (k t0 t2 t3 h) := kN k [(p0, t0), (p2, t2), (p3, t3)] h
def S27_1b (D : CallD) (m : Nat) (g1 : AV → AV → AV → HP → Res2) (t0 t2 t3 : AV) (h : HP) : Res2 :=
 cal D 22 [t0, (vS ([125] : LN))] h fun t11 h9 =>
 asB t11 fun t11a =>
 let t12 := !t11a
 br t12 (
 faC 2 t3 fun t13 =>
 cellC t13 h9 fun t14 =>
 cal D 42 [t0] h9 fun t16 h10 =>
 br (again [⟨none, .cell q13, p14⟩] (mkT [(p14, t14), (p13, t13)]) h10) (
 obQ (evA (.bsl [(kI 0), .nils, .nils, (.str []), (kI 0), (kI 0), (kI 0)] 1 [⟨0, 7, (.c t16)⟩]) .leaf) fun r11 =>
 let t17 := vkV r11.2 (HP.nxQ h10)
 let h12 := HP.newQ h10 r11.1
 eff (.app 7 96 (.c t14) (.c t17)) h12 fun t18 h13 =>
 faC 2 t3 fun t19 =>
 stoC t19 t18 h13 fun h14 =>
 g1 t0 t2 t3 h14) none) (
 S27_0 D m t2 t3 h9)
def S27_1 (D : CallD) (m : Nat) : AV → AV → AV → HP → Res2 := nrec (fun _ _ _ _ => none) (fun _ g => S27_1b D m g) m
def e27_2 (k t0 h) := kN k [(p0, t0)] h
def S27_2 (D : CallD) (m : Nat) (t0 : AV) (h : HP) : Res2 :=
 let t2 := AV.ptr (HP.nxQ h) 0
 let h3 := HP.newQ h (.cells true [(kI 0), .nils, .nils, (.str []), (kI 0), (kI 0), (kI 0)])
 cal D 14 [t0] h3 fun t5 h4 =>
 fldC 2 1 false t5 fun vt6 => asI .i64 vt6 fun t6 =>
 let t7 := (AV.agg [(vI (Int.ofNat 1)), (.nils : AV), (.nils : AV), (vS ([] : LN)), (vI (Int.ofNat 0)), (vI (Int.ofNat 0)), (vI t6)])
 let t3 := AV.ptr (HP.nxQ h4) 0
 let h5 := HP.newQ h4 (.cells true [(kI 0), .nils, .nils, (.str []), (kI 0), (kI 0), (kI 0)])
 stsC 7 t3 t7 h5 fun h6 =>
 cal D 28 [t0, (vS ([123] : LN))] h6 fun t9 h7 =>
 S27_1 D m t0 t2 t3 h7
def S27 : SFn := fun D m args h u => nou u <| popV args fun t0 args => endA args (S27_2 D m t0 h)
theorem T27_0 (hE : FX x27 D m E) : S27_0 D m = e27_0 (E c27_0 []) := by unfold S27_0; rw [hE c27_0]; kernel_rfl
theorem T27_1b (hE : FX x27 D m E) (G1) : S27_1b D m (e27_1 G1) = e27_1 (E c27_1b [.lp v27_1 G1, .blk 0, .sj v27_0 c27_0]) := by unfold S27_1b; rw [T27_0 hE, hE c27_1b]; kernel_rfl
theorem T27_1 (hE : FX x27 D m E) : S27_1 D m = e27_1 (nrec (fun _ => none) (fun _ G1 st => E c27_1b [.lp v27_1 G1, .blk 0, .sj v27_0 c27_0] st) m) :=
  nrec_emb e27_1 (fun _ _ _ _ => none) (fun g => S27_1b D m g) (fun G1 st => E c27_1b [.lp v27_1 G1, .blk 0, .sj v27_0 c27_0] st) rfl (fun g => T27_1b hE g) m
theorem T27_2 (hE : FX x27 D m E) : S27_2 D m = e27_2 (E c27_e []) := by unfold S27_2; rw [T27_1 hE, hE c27_e]; kernel_rfl
theorem X27 : XTie S27 x27 := X_of fun D m E hE args h u => by unfold S27; rw [T27_2 hE]; kernel_rfl
/- 28 -/
def c28_e : XC := (.sO [.mv p4 q0 .v, .mv p5 q1 .s, .cl p6 22 [q4, q5] .b, .P p7 (.un .not q6) .b] (.cond q7 (.s (.oX [.mv p8 q0 .v, .cl p9 41 [q8, (ci 11)] .v])) (.s .skip)))
def x28 : XFn := ⟨[.v, .s], false, [], c28_e⟩
def e28_0 (k t0 t1 h) := kN k [(p0, t0), (p1, (vS t1))] h
def S28_0 (D : CallD) (m : Nat) (t0 : AV) (t1 : LN) (h : HP) : Res2 :=
 cal D 22 [t0, (vS t1)] h fun t6 h1 =>
 asB t6 fun t6a =>
 let t7 := !t6a
 br t7 (
 cal D 41 [t0, (vI (Int.ofNat 11))] h1 fun t9 h2 =>
 some (.ret (.tup []) h2, .no)) (
 some (.ret (.tup []) h1, .no))
def S28 : SFn := fun D m args h u => nou u <| popV args fun t0 args => popS args fun t1 args => endA args (S28_0 D m t0 t1 h)
theorem T28_0 (hE : FX x28 D m E) : S28_0 D m = e28_0 (E c28_e []) := by unfold S28_0; rw [hE c28_e]; kernel_rfl
theorem X28 : XTie S28 x28 := X_of fun D m E hE args h u => by unfold S28; rw [T28_0 hE]; kernel_rfl
/- 29 -/
def v29_0 : List Pos := [p0, p4]
def c29_0 : XC := (.sO [.mv p27 q0 .v, .cl p28 28 [q27, (.c (.str [93]))] .v] (.sO [.mv p29 q4 tI, .mv p2 q29 tI] (.s .ret)))
def c29_e : XC := (.sO [.mv p2 (ci 0) tI] (.seq (.seq (.oX [.mv p6 q0 .v, .cl p7 22 [q6, (.c (.str [91]))] .b, .P p8 (.un .not q7) .b]) (.cond q8 (.seq (.oX [.mv p2 (ci 0) tI]) .ret) .skip)) (.sO [.mv p9 q0 .v, .cl p10 14 [q9] .v, .P p11 (.field 2 1 false q10) tI, .mv p3 q11 tI] (.sO [.mv p13 q0 .v, .cl p14 24 [q13, (ci 2)] .s, .cl p15 43 [q14] .v, .mv p12 q15 .v, .P p16 (.ext q12 0) tI, .P p17 (.ext q12 1) .v, .mv p4 q16 tI, .mv p5 q17 .v] (.sj v29_0 (.sO [.mv p18 q4 tI, .bn p19 .lss q18 (ci 1) .b, .mv p20 q19 .b, .ge p20 (XL.of [.G p20 false p21 (.mov q4) tI, .G p20 false p22 (.bin .gtr q21 (ci 1000)) .b, .P p23 (.pick q20 (cb true) q22) .b]) p23 .b] (.cond q23 (.s (.oX [.mv p24 q3 tI, .P p25 (.build [(kI 0), (kI 0)] [⟨0, 1, q24⟩, ⟨1, 1, (ci 1)⟩]) .v, .P p26 (.mkif 53 q25) .v, .o ⟨none, (.panic q26), none, []⟩ .v])) (.s .skip))) c29_0)))))
def x29 : XFn := ⟨[.v], false, [(.tmp p2)], c29_e⟩
def e29_0 (k t0 t4 h) := kN k [(p0, t0), (p4, (vI t4))] h
def S29_0 (D : CallD) (m : Nat) (t0 : AV) (t4 : Int) (h : HP) : Res2 :=
 cal D 28 [t0, (vS ([93] : LN))] h fun t28 h6 =>
 some (.ret (vI t4) h6, .no)
def e29_1 (k t0 h) := kN k [(p0, t0)] h
def S29_1 (D : CallD) (m : Nat) (t0 : AV) (h : HP) : Res2 :=
 cal D 22 [t0, (vS ([91] : LN))] h fun t7 h2 =>
 asB t7 fun t7a =>
 let t8 := !t7a
 br t8 (
 some (.ret (vI (Int.ofNat 0)) h2, .no)) (
 cal D 14 [t0] h2 fun t10 h3 =>
 fldC 2 1 false t10 fun vt11 => asI .i64 vt11 fun t11 =>
 cal D 24 [t0, (vI (Int.ofNat 2))] h3 fun t14 h4 =>
 asS t14 fun t14a =>
 cal D 43 [(vS t14a)] h4 fun t15 h5 =>
 extC t15 0 fun vt16 => asI .i64 vt16 fun t16 =>
 extC t15 1 fun t17 =>
 let t19 := ltQ t16 (Int.ofNat 1)
 obB (brV t19 (
 some (vB true)) (
 let t22 := ltQ (Int.ofNat 1000) t16
 some (vB t22))) fun t23 =>
 br t23 (
 let t25 := (AV.agg [(vI t11), (vI (Int.ofNat 1))])
 let t26 := (AV.iface 53 t25)
 some (.pan [(.iface 53 t25, false)] h5, .no)) (
 S29_0 D m t0 t16 h5))
def S29 : SFn := fun D m args h u => nou u <| popV args fun t0 args => endA args (S29_1 D m t0 h)
theorem T29_0 (hE : FX x29 D m E) : S29_0 D m = e29_0 (E c29_0 []) := by unfold S29_0; rw [hE c29_0]; kernel_rfl
theorem T29_1 (hE : FX x29 D m E) : S29_1 D m = e29_1 (E c29_e []) := by unfold S29_1; rw [T29_0 hE, hE c29_e]; kernel_rfl
theorem X29 : XTie S29 x29 := X_of fun D m E hE args h u => by unfold S29; rw [T29_1 hE]; kernel_rfl
/- 30 -/
def c30_e : XC := (.sO [.al p1 (.box q0), .al p2 (.new [(kI 0), (.str []), (.str []), (.int .u32 (.ofNat 0)), (.int .u64 (.ofNat 0)), .nils, (kI 0), (kI 0)])] (.sO [.ld p4 q1 .v, .cl p5 44 [q4] .v] (.sO [.P p6 (.mkfn 45 [] [q1]) .v, .o ⟨none, (.defer (.val q6) []), none, []⟩ .v] (.sO [.ld p7 q1 .v, .cl p8 46 [q7, (ci 0)] .v, .al p3 (.new [(kI 0), (.str []), (.str []), (.int .u32 (.ofNat 0)), (.int .u64 (.ofNat 0)), .nils, (kI 0), (kI 0)]), .ss 8 q3 q8] (.seq (.seq (.oX [.ld p9 q1 .v, .cl p10 22 [q9, (.c (.str [61]))] .b]) (.cond q10 (.seq (.ops true (XL.of [.L p11 (.cells 8 q3) .v, .ld p12 q1 .v, .fa p15 7 q3, .ld p16 q15 tI, .o ⟨(some p13), (.call (.fn 30) [q12]), none, [⟨none, .cells 8 q3, p11⟩, ⟨none, .cell q15, p16⟩]⟩ .v, .al p14 (.bsl [(kI 0), (.str []), (.str []), (.int .u32 (.ofNat 0)), (.int .u64 (.ofNat 0)), .nils, (kI 0), (kI 0), (kI 0), (.str []), (.str []), (.int .u32 (.ofNat 0)), (.int .u64 (.ofNat 0)), .nils, (kI 0), (kI 0)] 2 [⟨0, 8, q11⟩, ⟨8, 8, q13⟩]), .P p17 (.build [(kI 0), (.str []), (.str []), (.int .u32 (.ofNat 0)), (.int .u64 (.ofNat 0)), .nils, (kI 0), (kI 0)] [⟨0, 1, (ci 6)⟩, ⟨5, 1, q14⟩, ⟨7, 1, q16⟩]) .v, .ss 8 q2 q17])) .ret) .skip)) (.sO [.L p18 (.cells 8 q3) .v, .ss 8 q2 q18] (.s .ret)))))))
def x30 : XFn := ⟨[.v], false, [(.cells 8 p2)], c30_e⟩
def e30_0 (k t0 h) := kN k [(p0, t0)] h
def S30_0 (D : CallD) (m : Nat) (t0 : AV) (h : HP) : Res2 :=
 let t1 := AV.ptr (HP.nxQ h) 0
 let h1 := HP.newQ h (.cells true (AV.cells t0))
 let t2 := AV.ptr (HP.nxQ h1) 0
 let h2 := HP.newQ h1 (.cells true [(kI 0), (.str []), (.str []), (.int .u32 (.ofNat 0)), (.int .u64 (.ofNat 0)), .nils, (kI 0), (kI 0)])
 cellC t1 h2 fun t4 =>
 calC D 44 [t4] h2 (fun t5 h3 =>
 let t6 := (AV.fn 45 [] [t1])
 let d4 : List ADef := ⟨45, [t1]⟩ :: []
 cellC t1 h3 fun t7 =>
 calC D 46 [t7, (vI (Int.ofNat 0))] h3 (fun t8 h5 =>
 let t3 := AV.ptr (HP.nxQ h5) 0
 let h6 := HP.newQ h5 (.cells true [(kI 0), (.str []), (.str []), (.int .u32 (.ofNat 0)), (.int .u64 (.ofNat 0)), .nils, (kI 0), (kI 0)])
 stsC 8 t3 t8 h6 fun h7 =>
 cellC t1 h7 fun t9 =>
 calC D 22 [t9, (vS ([61] : LN))] h7 (fun t10 h8 =>
 asB t10 fun t10a =>
 br t10a (
 cellsC 8 t3 h8 fun t11 =>
 cellC t1 h8 fun t12 =>
 let t15 := (AV.ptr (HP.nxQ h5) (Nat.add 0 7))
 ldI t15 h8 fun t16 =>
 calC D 30 [t12] h8 (fun t13 h9 =>
 br (again [⟨none, .cells 8 q3, p11⟩, ⟨none, .cell q15, p16⟩] (mkT [(p16, (vI t16)), (p15, t15), (p11, t11), (p3, t3)]) h9) (
 obQ (evA (.bsl [(kI 0), (.str []), (.str []), (.int .u32 (.ofNat 0)), (.int .u64 (.ofNat 0)), .nils, (kI 0), (kI 0), (kI 0), (.str []), (.str []), (.int .u32 (.ofNat 0)), (.int .u64 (.ofNat 0)), .nils, (kI 0), (kI 0)] 2 [⟨0, 8, (.c t11)⟩, ⟨8, 8, (.c t13)⟩]) .leaf) fun r10 =>
 let t14 := vkV r10.2 (HP.nxQ h9)
 let h11 := HP.newQ h9 r10.1
 obQ (evP (.build [(kI 0), (.str []), (.str []), (.int .u32 (.ofNat 0)), (.int .u64 (.ofNat 0)), .nils, (kI 0), (kI 0)] [⟨0, 1, (.c (vI (Int.ofNat 6)))⟩, ⟨5, 1, (.c t14)⟩, ⟨7, 1, (.c (vI t16))⟩]) .leaf) fun t17 =>
 stsC 8 t2 t17 h11 fun h12 =>
 XFn.endOf x30 D (.ret ⟨(mkT [(p2, t2)]), h12, d4, .no⟩)) none) (fun ch9 gh9 => XFn.endOf x30 D (.panic ch9 ⟨(mkT [(p2, t2)]), gh9, d4, .no⟩))) (
 cellsC 8 t3 h8 fun t18 =>
 stsC 8 t2 t18 h8 fun h13 =>
 XFn.endOf x30 D (.ret ⟨(mkT [(p2, t2)]), h13, d4, .no⟩))) (fun ch8 gh8 => XFn.endOf x30 D (.panic ch8 ⟨(mkT [(p2, t2)]), gh8, d4, .no⟩))) (fun ch5 gh5 => XFn.endOf x30 D (.panic ch5 ⟨(mkT [(p2, t2)]), gh5, d4, .no⟩))) (fun ch3 gh3 => XFn.endOf x30 D (.panic ch3 ⟨(mkT [(p2, t2)]), gh3, [], .no⟩))
def S30 : SFn := fun D m args h u => nou u <| popV args fun t0 args => endA args (S30_0 D m t0 h)
theorem T30_0 (hE : FX x30 D m E) : S30_0 D m = e30_0 (E c30_e []) := by unfold S30_0; rw [hE c30_e]; kernel_rfl
theorem X30 : XTie S30 x30 := X_of fun D m E hE args h u => by unfold S30; rw [T30_0 hE]; kernel_rfl
/- 32 -/
def c32_e : XC := (.sO [.mv p4 (ci 0) tI] (.sO [.mv p5 q0 .s, .mv p6 q1 tC, .cl p7 47 [q5, q6] tI, .mv p4 q7 tI] (.s .ret)))
def x32 : XFn := ⟨[.s, tC], false, [(.tmp p4)], c32_e⟩
def e32_0 (k t0 t1 h) := kN k [(p0, (vS t0)), (p1, (vC t1))] h
def S32_0 (D : CallD) (m : Nat) (t0 : LN) (t1 : Int) (h : HP) : Res2 :=
 cal D 47 [(vS t0), (vC t1)] h fun t7 h1 =>
 asI .i64 t7 fun t7a =>
 some (.ret (vI t7a) h1, .no)
def S32 : SFn := fun D m args h u => nou u <| popS args fun t0 args => popI .u8 args fun t1 args => endA args (S32_0 D m t0 t1 h)
theorem T32_0 (hE : FX x32 D m E) : S32_0 D m = e32_0 (E c32_e []) := by unfold S32_0; rw [hE c32_e]; kernel_rfl
theorem X32 : XTie S32 x32 := X_of fun D m E hE args h u => by unfold S32; rw [T32_0 hE]; kernel_rfl
/- 33 -/
def c33_e : XC := (.sO [.mv p4 (cb false) .b] (.sO [.mv p5 q0 .s, .mv p6 q1 .s, .cl p7 51 [q5, q6] .b, .mv p4 q7 .b] (.s .ret)))
def x33 : XFn := ⟨[.s, .s], false, [(.tmp p4)], c33_e⟩
def e33_0 (k t0 t1 h) := kN k [(p0, (vS t0)), (p1, (vS t1))] h
def S33_0 (D : CallD) (m : Nat) (t0 t1 : LN) (h : HP) : Res2 :=
 cal D 51 [(vS t0), (vS t1)] h fun t7 h1 =>
 asB t7 fun t7a =>
 some (.ret (vB t7a) h1, .no)
def S33 : SFn := fun D m args h u => nou u <| popS args fun t0 args => popS args fun t1 args => endA args (S33_0 D m t0 t1 h)
theorem T33_0 (hE : FX x33 D m E) : S33_0 D m = e33_0 (E c33_e []) := by unfold S33_0; rw [hE c33_e]; kernel_rfl
theorem X33 : XTie S33 x33 := X_of fun D m E hE args h u => by unfold S33; rw [T33_0 hE]; kernel_rfl
/- 34 -/
def v34_0 : List Pos := [p5]
def c34_0 : XC := (.sO [.mv p19 q5 tI, .mv p4 q19 tI] (.s .ret))
def v34_2 : List Pos := [p0, p1, p5]
def c34_2 : XC := (.block 1 (.s (.oX [.mv p17 q5 tI, .bn p18 .add q17 (ci 1) tI, .mv p5 q18 tI])))
def c34_4 : XC := (.cond q16 (.s .skip) (.s (.exit 0)))
def l34_3 : XL := (XL.of [])
def v34_1 : List Pos := [p0, p1, p5]
def c34_1b : XC := (.sj v34_2 (.opq false (XL.pre [.mv p6 q5 tI, .mv p7 q0 .s, .P p8 (.lens q7) tI, .bn p9 .lss q6 q8 .b, .mv p10 q9 .b, .sp p10, .G p10 true p11 (.mov q1) .v, .G p10 true p12 (.mov q0) .s, .G p10 true p13 (.mov q5) tI, .G p10 true p14 (.idxs q12 q13) tC, .o ⟨(some p15), (.call (.val q11) [q14]), (some (p10, true)), []⟩ .b, .P p16 (.pick q10 q15 (cb false)) .b, .jn p10 [p0, p1, p5, p16]] l34_3) c34_4) c34_2)
def c34_e : XC := (.sO [.mv p4 (ci 0) tI] (.sO [.mv p5 (ci 0) tI] (.sj v34_0 (.block 0 (.loop v34_1 c34_1b)) c34_0)))
def x34 : XFn := ⟨[.s, .v], false, [(.tmp p4)], c34_e⟩
def e34_0 (k t5 h) := kN k [(p5, (vI t5))] h
def S34_0 (D : CallD) (m : Nat) (t5 : Int) (h : HP) : Res2 :=
 some (.ret (vI t5) h, .no)
def e34_2 (k t0 t1 t5 h) := kN k [(p0, (vS t0)), (p1, t1), (p5, (vI t5))] h
def S34_2 (D : CallD) (m : Nat) (g1 : LN → AV → Int → HP → Res2) (t0 : LN) (t1 : AV) (t5 : Int) (h : HP) : Res2 :=
 let t18 := wrQ .i64 (addQ t5 (Int.ofNat 1))
 g1 t0 t1 t18 h
def e34_3 (k t0 t1 t5 t16 h) := kN k [(p0, (vS t0)), (p1, t1), (p5, (vI t5)), (p16, (vB t16))] h
def S34_3 (D : CallD) (m : Nat) (g1 : LN → AV → Int → HP → Res2) (t0 : LN) (t1 : AV) (t5 : Int) (t16 : Bool) (h : HP) : Res2 :=
 br t16 (
 S34_2 D m g1 t0 t1 t5 h) (
 S34_0 D m t5 h)
def e34_1 (k t0 t1 t5 h) := kN k [(p0, (vS t0)), (p1, t1), (p5, (vI t5))] h
def S34_1b (D : CallD) (m : Nat) (g1 : LN → AV → Int → HP → Res2) (t0 : LN) (t1 : AV) (t5 : Int) (h : HP) : Res2 :=
 let t8 := Int.ofNat (lenL t0)
 let t9 := ltQ t5 t8
 br t9 (
 ixC (vS t0) (vI t5) fun vt14 => asI .u8 vt14 fun t14 =>
 obQ (target .leaf (.val (.c t1)) [(.c (vC t14))]) fun qh6 =>
 calC D qh6.1 qh6.2 h (fun t15 h6 =>
 asB t15 fun t15a =>
 S34_3 D m g1 t0 t1 t5 t15a h6) (panN)) (
 S34_3 D m g1 t0 t1 t5 false h)
def S34_1 (D : CallD) (m : Nat) : LN → AV → Int → HP → Res2 := nrec (fun _ _ _ _ => none) (fun _ g => S34_1b D m g) m
def e34_5 (k t0 t1 h) := kN k [(p0, (vS t0)), (p1, t1)] h
def S34_5 (D : CallD) (m : Nat) (t0 : LN) (t1 : AV) (h : HP) : Res2 :=
 S34_1 D m t0 t1 (Int.ofNat 0) h
def S34 : SFn := fun D m args h u => nou u <| popS args fun t0 args => popV args fun t1 args => endA args (S34_5 D m t0 t1 h)
theorem T34_0 (hE : FX x34 D m E) : S34_0 D m = e34_0 (E c34_0 []) := by unfold S34_0; rw [hE c34_0]; kernel_rfl
theorem T34_2 (hE : FX x34 D m E) (G1) : S34_2 D m (e34_1 G1) = e34_2 (E c34_2 [.lp v34_1 G1, .blk 0, .sj v34_0 c34_0]) := by unfold S34_2; rw [hE c34_2]; kernel_rfl
theorem T34_3 (hE : FX x34 D m E) (G1) : S34_3 D m (e34_1 G1) = e34_3 (E (.opq false l34_3 c34_4) [.sj v34_2 c34_2, .lp v34_1 G1, .blk 0, .sj v34_0 c34_0]) := by unfold S34_3; rw [T34_2 hE G1, T34_0 hE, hE (.opq false l34_3 c34_4)]; kernel_rfl
theorem T34_1b (hE : FX x34 D m E) (G1) : S34_1b D m (e34_1 G1) = e34_1 (E c34_1b [.lp v34_1 G1, .blk 0, .sj v34_0 c34_0]) := by unfold S34_1b; rw [T34_3 hE G1, hE c34_1b]; kernel_rfl
theorem T34_1 (hE : FX x34 D m E) : S34_1 D m = e34_1 (nrec (fun _ => none) (fun _ G1 st => E c34_1b [.lp v34_1 G1, .blk 0, .sj v34_0 c34_0] st) m) :=
  nrec_emb e34_1 (fun _ _ _ _ => none) (fun g => S34_1b D m g) (fun G1 st => E c34_1b [.lp v34_1 G1, .blk 0, .sj v34_0 c34_0] st) rfl (fun g => T34_1b hE g) m
theorem T34_5 (hE : FX x34 D m E) : S34_5 D m = e34_5 (E c34_e []) := by unfold S34_5; rw [T34_1 hE, hE c34_e]; kernel_rfl
theorem X34 : XTie S34 x34 := X_of fun D m E hE args h u => by unfold S34; rw [T34_5 hE]; kernel_rfl
/- 36 -/
def c36_e : XC := (.sO [.mv p2 (cb false) .b] (.sO [.mv p3 q0 tC, .bn p4 .eql q3 (.c (.int .u8 (.ofNat 95))) .b, .mv p5 q4 .b, .ge p5 (XL.of [.G p5 false p6 (.mov q0) tC, .G p5 false p7 (.bin .or q6 (.c (.int .u8 (.ofNat 32)))) tC, .G p5 false p8 (.bin .geq q7 (.c (.int .u8 (.ofNat 97)))) .b, .G p5 false p9 (.mov q8) .b, .ge p9 (XL.of [.G p9 true p10 (.mov q0) tC, .G p9 true p11 (.bin .or q10 (.c (.int .u8 (.ofNat 32)))) tC, .G p9 true p12 (.bin .leq q11 (.c (.int .u8 (.ofNat 122)))) .b, .G p5 false p13 (.pick q9 q12 (cb false)) .b]) p13 .b, .P p14 (.pick q5 (cb true) q13) .b]) p14 .b, .mv p2 q14 .b] (.s .ret)))
def x36 : XFn := ⟨[tC], false, [(.tmp p2)], c36_e⟩
def e36_0 (k t0 h) := kN k [(p0, (vC t0))] h
def S36_0 (D : CallD) (m : Nat) (t0 : Int) (h : HP) : Res2 :=
 let t4 := eqQ t0 (Int.ofNat 95)
 obB (brV t4 (
 some (vB true)) (
 obIV .u8 (intBin .or .u8 t0 (Int.ofNat 32)) fun t7 =>
 let t8 := leQ (Int.ofNat 97) t7
 obBV (brV t8 (
 obIV .u8 (intBin .or .u8 t0 (Int.ofNat 32)) fun t11 =>
 let t12 := leQ t11 (Int.ofNat 122)
 some (vB t12)) (
 some (vB false))) fun t13 =>
 some (vB t13))) fun t14 =>
 some (.ret (vB t14) h, .no)
def S36 : SFn := fun D m args h u => nou u <| popI .u8 args fun t0 args => endA args (S36_0 D m t0 h)
theorem T36_0 (hE : FX x36 D m E) : S36_0 D m = e36_0 (E c36_e []) := by unfold S36_0; rw [hE c36_e]; kernel_rfl
theorem X36 : XTie S36 x36 := X_of fun D m E hE args h u => by unfold S36; rw [T36_0 hE]; kernel_rfl
/- 37 -/
def c37_1 : XC := (.s .ret)
def l37_0 : XL := (XL.of [.mv p2 q8 .b])
def c37_e : XC := (.sO [.mv p2 (cb false) .b] (.opq false (XL.pre [.mv p3 q0 tC, .cl p4 36 [q3] .b, .mv p5 q4 .b, .sp p5, .G p5 false p6 (.mov q0) tC, .o ⟨(some p7), (.call (.fn 38) [q6]), (some (p5, false)), []⟩ .b, .P p8 (.pick q5 (cb true) q7) .b, .jn p5 [p8]] l37_0) c37_1))
def x37 : XFn := ⟨[tC], false, [(.tmp p2)], c37_e⟩
def e37_0 (k t8 h) := kN k [(p8, (vB t8))] h
def S37_0 (D : CallD) (m : Nat) (t8 : Bool) (h : HP) : Res2 :=
 some (.ret (vB t8) h, .no)
def e37_2 (k t0 h) := kN k [(p0, (vC t0))] h
def S37_2 (D : CallD) (m : Nat) (t0 : Int) (h : HP) : Res2 :=
 cal D 36 [(vC t0)] h fun t4 h3 =>
 asB t4 fun t4a =>
 br t4a (
 S37_0 D m true h3) (
 cal D 38 [(vC t0)] h3 fun t7 h4 =>
 asB t7 fun t7a =>
 S37_0 D m t7a h4)
def S37 : SFn := fun D m args h u => nou u <| popI .u8 args fun t0 args => endA args (S37_2 D m t0 h)
theorem T37_0 (hE : FX x37 D m E) : S37_0 D m = e37_0 (E (.opq false l37_0 c37_1) []) := by unfold S37_0; rw [hE (.opq false l37_0 c37_1)]; kernel_rfl
theorem T37_2 (hE : FX x37 D m E) : S37_2 D m = e37_2 (E c37_e []) := by unfold S37_2; rw [T37_0 hE, hE c37_e]; kernel_rfl
theorem X37 : XTie S37 x37 := X_of fun D m E hE args h u => by unfold S37; rw [T37_2 hE]; kernel_rfl
/- 38 -/
def c38_e : XC := (.sO [.mv p2 (cb false) .b] (.sO [.mv p3 q0 tC, .bn p4 .geq q3 (.c (.int .u8 (.ofNat 48))) .b, .mv p5 q4 .b, .ge p5 (XL.of [.G p5 true p6 (.mov q0) tC, .G p5 true p7 (.bin .leq q6 (.c (.int .u8 (.ofNat 57)))) .b, .P p8 (.pick q5 q7 (cb false)) .b]) p8 .b, .mv p2 q8 .b] (.s .ret)))
def x38 : XFn := ⟨[tC], false, [(.tmp p2)], c38_e⟩
def e38_0 (k t0 h) := kN k [(p0, (vC t0))] h
def S38_0 (D : CallD) (m : Nat) (t0 : Int) (h : HP) : Res2 :=
 let t4 := leQ (Int.ofNat 48) t0
 obB (brV t4 (
 let t7 := leQ t0 (Int.ofNat 57)
 some (vB t7)) (
 some (vB false))) fun t8 =>
 some (.ret (vB t8) h, .no)
def S38 : SFn := fun D m args h u => nou u <| popI .u8 args fun t0 args => endA args (S38_0 D m t0 h)
theorem T38_0 (hE : FX x38 D m E) : S38_0 D m = e38_0 (E c38_e []) := by unfold S38_0; rw [hE c38_e]; kernel_rfl
theorem X38 : XTie S38 x38 := X_of fun D m E hE args h u => by unfold S38; rw [T38_0 hE]; kernel_rfl
/- 39 -/
def v39_0 : List Pos := []
def c39_0 : XC := (.sO [.mv p2 (cb false) .b] (.s .ret))
def v39_1 : List Pos := [p4]
def c39_1 : XC := (.cond q4 (.sO [.mv p2 (cb true) .b] (.s .ret)) (.s .skip))
def c39_e : XC := (.sO [.mv p2 (cb false) .b] (.sj v39_0 (.sO [.mv p3 q0 .s] (.block 0 (.sj v39_1 (.sO [.bn p5 .eql q3 (.c (.str [105, 110, 116])) .b, .mv p4 q5 .b] (.cond q4 (.s .skip) (.sO [.bn p6 .eql q3 (.c (.str [100, 111, 117, 98, 108, 101])) .b, .mv p4 q6 .b] (.cond q4 (.s .skip) (.sO [.bn p7 .eql q3 (.c (.str [118, 111, 105, 100])) .b, .mv p4 q7 .b] (.cond q4 (.s .skip) (.sO [.bn p8 .eql q3 (.c (.str [115, 116, 97, 116, 105, 99])) .b, .mv p4 q8 .b] (.cond q4 (.s .skip) (.sO [.bn p9 .eql q3 (.c (.str [101, 120, 116, 101, 114, 110])) .b, .mv p4 q9 .b] (.cond q4 (.s .skip) (.sO [.bn p10 .eql q3 (.c (.str [105, 102])) .b, .mv p4 q10 .b] (.cond q4 (.s .skip) (.sO [.bn p11 .eql q3 (.c (.str [101, 108, 115, 101])) .b, .mv p4 q11 .b] (.cond q4 (.s .skip) (.sO [.bn p12 .eql q3 (.c (.str [119, 104, 105, 108, 101])) .b, .mv p4 q12 .b] (.cond q4 (.s .skip) (.sO [.bn p13 .eql q3 (.c (.str [114, 101, 116, 117, 114, 110])) .b, .mv p4 q13 .b] (.cond q4 (.s .skip) (.sO [.bn p14 .eql q3 (.c (.str [98, 114, 101, 97, 107])) .b, .mv p4 q14 .b] (.cond q4 (.s .skip) (.s (.oX [.bn p15 .eql q3 (.c (.str [99, 111, 110, 116, 105, 110, 117, 101])) .b, .mv p4 q15 .b])))))))))))))))))))))) c39_1))) c39_0))
def x39 : XFn := ⟨[.s], false, [(.tmp p2)], c39_e⟩
def e39_0 (k h) := kN k [] h
def S39_0 (D : CallD) (m : Nat) (h : HP) : Res2 :=
 some (.ret (vB false) h, .no)
def e39_1 (k t4 h) := kN k [(p4, (vB t4))] h
def S39_1 (D : CallD) (m : Nat) (t4 : Bool) (h : HP) : Res2 :=
 br t4 (
 some (.ret (vB true) h, .no)) (
 S39_0 D m h)
def e39_2 (k t0 h) := kN k [(p0, (vS t0))] h
def S39_2 (D : CallD) (m : Nat) (t0 : LN) (h : HP) : Res2 :=
 let t5 := eqL t0 ([105, 110, 116] : LN)
 br t5 (
 S39_1 D m t5 h) (
 let t6 := eqL t0 ([100, 111, 117, 98, 108, 101] : LN)
 br t6 (
 S39_1 D m t6 h) (
 let t7 := eqL t0 ([118, 111, 105, 100] : LN)
 br t7 (
 S39_1 D m t7 h) (
 let t8 := eqL t0 ([115, 116, 97, 116, 105, 99] : LN)
 br t8 (
 S39_1 D m t8 h) (
 let t9 := eqL t0 ([101, 120, 116, 101, 114, 110] : LN)
 br t9 (
 S39_1 D m t9 h) (
 let t10 := eqL t0 ([105, 102] : LN)
 br t10 (
 S39_1 D m t10 h) (
 let t11 := eqL t0 ([101, 108, 115, 101] : LN)
 br t11 (
 S39_1 D m t11 h) (
 let t12 := eqL t0 ([119, 104, 105, 108, 101] : LN)
 br t12 (
 S39_1 D m t12 h) (
 let t13 := eqL t0 ([114, 101, 116, 117, 114, 110] : LN)
 br t13 (
 S39_1 D m t13 h) (
 let t14 := eqL t0 ([98, 114, 101, 97, 107] : LN)
 br t14 (
 S39_1 D m t14 h) (
 let t15 := eqL t0 ([99, 111, 110, 116, 105, 110, 117, 101] : LN)
 S39_1 D m t15 h))))))))))
def S39 : SFn := fun D m args h u => nou u <| popS args fun t0 args => endA args (S39_2 D m t0 h)
theorem T39_0 (hE : FX x39 D m E) : S39_0 D m = e39_0 (E c39_0 []) := by unfold S39_0; rw [hE c39_0]; kernel_rfl
theorem T39_1 (hE : FX x39 D m E) : S39_1 D m = e39_1 (E c39_1 [.blk 0, .sj v39_0 c39_0]) := by unfold S39_1; rw [T39_0 hE, hE c39_1]; kernel_rfl
theorem T39_2 (hE : FX x39 D m E) : S39_2 D m = e39_2 (E c39_e []) := by unfold S39_2; rw [T39_1 hE, hE c39_e]; kernel_rfl
theorem X39 : XTie S39 x39 := X_of fun D m E hE args h u => by unfold S39; rw [T39_2 hE]; kernel_rfl
/- 40 -/
def v40_1 : List Pos := [p0, p4, p5]
def c40_1 : XC := (.seq (.seq (.oX [.mv p82 q5 tI, .bn p83 .eql q82 (ci 3) .b]) (.cond q83 (.seq (.seq (.oX [.mv p85 q0 .s, .mv p86 q4 tI, .P p87 (.slice .str q85 none (some q86) none) .s, .cl p88 52 [q87] .v, .mv p84 q88 .v, .P p89 (.ext q84 0) (.i .u64), .P p90 (.ext q84 1) tI, .mv p6 q89 (.i .u64), .mv p7 q90 tI]) (.seq (.oX [.mv p91 q7 tI, .bn p92 .neq q91 (ci 0) .b]) (.cond q92 (.seq (.oX [.mv p2 (ci 0) tI, .mv p3 (ci 0) tI]) .ret) .skip))) (.seq (.oX [.mv p93 q5 tI, .mv p94 q4 tI, .mv p2 q93 tI, .mv p3 q94 tI]) .ret)) .skip)) (.seq (.seq (.oX [.mv p96 q0 .s, .mv p97 q4 tI, .P p98 (.slice .str q96 none (some q97) none) .s, .cl p99 53 [q98, (ci 10), (ci 32)] .v, .mv p95 q99 .v, .P p100 (.ext q95 0) (.i .u64), .P p101 (.ext q95 1) .v, .mv p8 q100 (.i .u64), .mv p9 q101 .v]) (.seq (.oX [.mv p102 q9 .v, .P p103 (.eqn .ifc true q102 (.c .nili)) .b, .mv p104 q103 .b, .ge p104 (XL.of [.G p104 false p105 (.mov q4) tI, .G p104 false p106 (.bin .gtr q105 (ci 10)) .b, .P p107 (.pick q104 (cb true) q106) .b]) p107 .b]) (.cond q107 (.seq (.oX [.mv p2 (ci 0) tI, .mv p3 (ci 0) tI]) .ret) .skip))) (.sO [.mv p108 q5 tI, .mv p109 q4 tI, .mv p2 q108 tI, .mv p3 q109 tI] (.s .ret))))
def c40_3 : XC := (.cond q81 (.sO [.mv p2 (ci 0) tI, .mv p3 (ci 0) tI] (.s .ret)) (.s .skip))
def l40_2 : XL := (XL.of [])
def v40_0 : List Pos := [p0, p4, p5]
def c40_0 : XC := (.sj v40_1 (.opq false (XL.pre [.mv p66 q4 tI, .mv p67 q0 .s, .P p68 (.lens q67) tI, .bn p69 .lss q66 q68 .b, .mv p70 q69 .b, .sp p70, .G p70 true p71 (.mov q0) .s, .G p70 true p72 (.mov q4) tI, .G p70 true p73 (.idxs q71 q72) tC, .o ⟨(some p74), (.call (.fn 36) [q73]), (some (p70, true)), []⟩ .b, .G p70 true p75 (.mov q74) .b, .ge p75 (XL.of [.G p75 false p76 (.mov q0) .s, .G p75 false p77 (.mov q4) tI, .G p75 false p78 (.idxs q76 q77) tC, .G p75 false p79 (.bin .eql q78 (.c (.int .u8 (.ofNat 46)))) .b, .G p70 true p80 (.pick q75 (cb true) q79) .b]) p80 .b, .P p81 (.pick q70 q80 (cb false)) .b, .jn p70 [p0, p4, p5, p81]] l40_2) c40_3) c40_1)
def v40_4 : List Pos := [p0, p4, p5]
def c40_4 : XC := (.s (.oX [.mv p60 q4 tI, .mv p61 q0 .s, .mv p62 q4 tI, .P p63 (.slice .str q61 (some q62) none none) .s, .cl p64 34 [q63, (.c (.fn 38 [] []))] tI, .bn p65 .add q60 q64 tI, .mv p4 q65 tI]))
def c40_e : XC := (.sO [.mv p2 (ci 0) tI, .mv p3 (ci 0) tI] (.sO [.mv p10 q0 .s, .cl p11 34 [q10, (.c (.fn 38 [] []))] tI, .mv p4 q11 tI] (.sO [.mv p5 (ci 2) tI] (.sj v40_0 (.sO [.mv p12 q4 tI, .mv p13 q0 .s, .P p14 (.lens q13) tI, .bn p15 .lss q12 q14 .b, .mv p16 q15 .b, .ge p16 (XL.of [.G p16 true p17 (.mov q0) .s, .G p16 true p18 (.mov q4) tI, .G p16 true p19 (.idxs q17 q18) tC, .G p16 true p20 (.bin .eql q19 (.c (.int .u8 (.ofNat 46)))) .b, .P p21 (.pick q16 q20 (cb false)) .b]) p21 .b] (.cond q21 (.sO [.mv p5 (ci 3) tI] (.sO [.mv p22 q4 tI, .mv p23 q0 .s, .mv p24 q4 tI, .bn p25 .add q24 (ci 1) tI, .P p26 (.slice .str q23 (some q25) none none) .s, .cl p27 34 [q26, (.c (.fn 38 [] []))] tI, .bn p28 .add (ci 1) q27 tI, .bn p29 .add q22 q28 tI, .mv p4 q29 tI] (.sO [.mv p30 q4 tI, .mv p31 q0 .s, .P p32 (.lens q31) tI, .bn p33 .lss q30 q32 .b, .mv p34 q33 .b, .ge p34 (XL.of [.G p34 true p35 (.mov q0) .s, .G p34 true p36 (.mov q4) tI, .G p34 true p37 (.idxs q35 q36) tC, .G p34 true p38 (.bin .eql q37 (.c (.int .u8 (.ofNat 101)))) .b, .P p39 (.pick q34 q38 (cb false)) .b]) p39 .b] (.cond q39 (.sO [.mv p40 q4 tI, .bn p41 .add q40 (ci 1) tI, .mv p4 q41 tI] (.sj v40_4 (.sO [.mv p42 q4 tI, .mv p43 q0 .s, .P p44 (.lens q43) tI, .bn p45 .lss q42 q44 .b, .mv p46 q45 .b, .ge p46 (XL.of [.G p46 true p47 (.mov q0) .s, .G p46 true p48 (.mov q4) tI, .G p46 true p49 (.idxs q47 q48) tC, .G p46 true p50 (.bin .eql q49 (.c (.int .u8 (.ofNat 43)))) .b, .G p46 true p51 (.mov q50) .b, .ge p51 (XL.of [.G p51 false p52 (.mov q0) .s, .G p51 false p53 (.mov q4) tI, .G p51 false p54 (.idxs q52 q53) tC, .G p51 false p55 (.bin .eql q54 (.c (.int .u8 (.ofNat 45)))) .b, .G p46 true p56 (.pick q51 (cb true) q55) .b]) p56 .b, .P p57 (.pick q46 q56 (cb false)) .b]) p57 .b] (.cond q57 (.s (.oX [.mv p58 q4 tI, .bn p59 .add q58 (ci 1) tI, .mv p4 q59 tI])) (.s .skip))) c40_4)) (.s .skip))))) (.s .skip))) c40_0))))
def x40 : XFn := ⟨[.s], false, [(.tmp p2), (.tmp p3)], c40_e⟩
def e40_1 (k t0 t4 t5 h) := kN k [(p0, (vS t0)), (p4, (vI t4)), (p5, (vI t5))] h
def S40_1 (D : CallD) (m : Nat) (t0 : LN) (t4 t5 : Int) (h : HP) : Res2 :=
 let t83 := eqQ t5 (Int.ofNat 3)
 br t83 (
 slC (vS t0) none (some (vI t4)) fun vt87 => asS vt87 fun t87 =>
 cal D 52 [(vS t87)] h fun t88 h7 =>
 extC t88 0 fun vt89 => asI .u64 vt89 fun t89 =>
 extC t88 1 fun vt90 => asI .i64 vt90 fun t90 =>
 let t92 := notQ (eqQ t90 (Int.ofNat 0))
 br t92 (
 some (.ret (.tup [(vI (Int.ofNat 0)), (vI (Int.ofNat 0))]) h7, .no)) (
 some (.ret (.tup [(vI t5), (vI t4)]) h7, .no))) (
 slC (vS t0) none (some (vI t4)) fun vt98 => asS vt98 fun t98 =>
 cal D 53 [(vS t98), (vI (Int.ofNat 10)), (vI (Int.ofNat 32))] h fun t99 h8 =>
 extC t99 0 fun vt100 => asI .u64 vt100 fun t100 =>
 extC t99 1 fun t101 =>
 obB (evP (.eqn .ifc true (.c t101) (.c (.nili : AV))) .leaf) fun t103 =>
 obB (brV t103 (
 some (vB true)) (
 let t106 := ltQ (Int.ofNat 10) t4
 some (vB t106))) fun t107 =>
 br t107 (
 some (.ret (.tup [(vI (Int.ofNat 0)), (vI (Int.ofNat 0))]) h8, .no)) (
 some (.ret (.tup [(vI t5), (vI t4)]) h8, .no)))
def e40_2 (k t0 t4 t5 t81 h) := kN k [(p0, (vS t0)), (p4, (vI t4)), (p5, (vI t5)), (p81, (vB t81))] h
def S40_2 (D : CallD) (m : Nat) (t0 : LN) (t4 t5 : Int) (t81 : Bool) (h : HP) : Res2 :=
 br t81 (
 some (.ret (.tup [(vI (Int.ofNat 0)), (vI (Int.ofNat 0))]) h, .no)) (
 S40_1 D m t0 t4 t5 h)
def e40_0 (k t0 t4 t5 h) := kN k [(p0, (vS t0)), (p4, (vI t4)), (p5, (vI t5))] h
def S40_0 (D : CallD) (m : Nat) (t0 : LN) (t4 t5 : Int) (h : HP) : Res2 :=
 let t68 := Int.ofNat (lenL t0)
 let t69 := ltQ t4 t68
 br t69 (
 ixC (vS t0) (vI t4) fun vt73 => asI .u8 vt73 fun t73 =>
 cal D 36 [(vC t73)] h fun t74 h9 =>
 asB t74 fun t74a =>
 obB (brV t74a (
 some (vB true)) (
 ixCV (vS t0) (vI t4) fun vt78 => asIV .u8 vt78 fun t78 =>
 let t79 := eqQ t78 (Int.ofNat 46)
 some (vB t79))) fun t80 =>
 S40_2 D m t0 t4 t5 t80 h9) (
 S40_2 D m t0 t4 t5 false h)
def e40_4 (k t0 t4 t5 h) := kN k [(p0, (vS t0)), (p4, (vI t4)), (p5, (vI t5))] h
def S40_4 (D : CallD) (m : Nat) (t0 : LN) (t4 t5 : Int) (h : HP) : Res2 :=
 slC (vS t0) (some (vI t4)) none fun vt63 => asS vt63 fun t63 =>
 cal D 34 [(vS t63), ((.fn 38 [] []) : AV)] h fun t64 h11 =>
 asI .i64 t64 fun t64a =>
 let t65 := wrQ .i64 (addQ t4 t64a)
 S40_0 D m t0 t65 t5 h11
def e40_5 (k t0 h) := kN k [(p0, (vS t0))] h
def S40_5 (D : CallD) (m : Nat) (t0 : LN) (h : HP) : Res2 :=
 cal D 34 [(vS t0), ((.fn 38 [] []) : AV)] h fun t11 h6 =>
 asI .i64 t11 fun t11a =>
 let t14 := Int.ofNat (lenL t0)
 let t15 := ltQ t11a t14
 obB (brV t15 (
 ixCV (vS t0) (vI t11a) fun vt19 => asIV .u8 vt19 fun t19 =>
 let t20 := eqQ t19 (Int.ofNat 46)
 some (vB t20)) (
 some (vB false))) fun t21 =>
 br t21 (
 let t25 := wrQ .i64 (addQ t11a (Int.ofNat 1))
 slC (vS t0) (some (vI t25)) none fun vt26 => asS vt26 fun t26 =>
 cal D 34 [(vS t26), ((.fn 38 [] []) : AV)] h6 fun t27 h10 =>
 asI .i64 t27 fun t27a =>
 let t28 := wrQ .i64 (addQ (Int.ofNat 1) t27a)
 let t29 := wrQ .i64 (addQ t11a t28)
 let t32 := Int.ofNat (lenL t0)
 let t33 := ltQ t29 t32
 obB (brV t33 (
 ixCV (vS t0) (vI t29) fun vt37 => asIV .u8 vt37 fun t37 =>
 let t38 := eqQ t37 (Int.ofNat 101)
 some (vB t38)) (
 some (vB false))) fun t39 =>
 br t39 (
 let t41 := wrQ .i64 (addQ t29 (Int.ofNat 1))
 let t44 := Int.ofNat (lenL t0)
 let t45 := ltQ t41 t44
 obB (brV t45 (
 ixCV (vS t0) (vI t41) fun vt49 => asIV .u8 vt49 fun t49 =>
 let t50 := eqQ t49 (Int.ofNat 43)
 obBV (brV t50 (
 some (vB true)) (
 ixCV (vS t0) (vI t41) fun vt54 => asIV .u8 vt54 fun t54 =>
 let t55 := eqQ t54 (Int.ofNat 45)
 some (vB t55))) fun t56 =>
 some (vB t56)) (
 some (vB false))) fun t57 =>
 br t57 (
 let t59 := wrQ .i64 (addQ t41 (Int.ofNat 1))
 S40_4 D m t0 t59 (Int.ofNat 3) h10) (
 S40_4 D m t0 t41 (Int.ofNat 3) h10)) (
 S40_0 D m t0 t29 (Int.ofNat 3) h10)) (
 S40_0 D m t0 t11a (Int.ofNat 2) h6)
def S40 : SFn := fun D m args h u => nou u <| popS args fun t0 args => endA args (S40_5 D m t0 h)
theorem T40_1 (hE : FX x40 D m E) : S40_1 D m = e40_1 (E c40_1 []) := by unfold S40_1; rw [hE c40_1]; kernel_rfl
theorem T40_2 (hE : FX x40 D m E) : S40_2 D m = e40_2 (E (.opq false l40_2 c40_3) [.sj v40_1 c40_1]) := by unfold S40_2; rw [T40_1 hE, hE (.opq false l40_2 c40_3)]; kernel_rfl
theorem T40_0 (hE : FX x40 D m E) : S40_0 D m = e40_0 (E c40_0 []) := by unfold S40_0; rw [T40_2 hE, hE c40_0]; kernel_rfl
theorem T40_4 (hE : FX x40 D m E) : S40_4 D m = e40_4 (E c40_4 [.sj v40_0 c40_0]) := by unfold S40_4; rw [T40_0 hE, hE c40_4]; kernel_rfl
theorem T40_5 (hE : FX x40 D m E) : S40_5 D m = e40_5 (E c40_e []) := by unfold S40_5; rw [T40_4 hE, T40_0 hE, hE c40_e]; kernel_rfl
theorem X40 : XTie S40 x40 := X_of fun D m E hE args h u => by unfold S40; rw [T40_5 hE]; kernel_rfl
/- 41 -/
def c41_e : XC := (.s (.oX [.mv p4 q0 .v, .cl p5 14 [q4] .v, .P p6 (.field 2 1 false q5) tI, .mv p7 q1 tI, .P p8 (.build [(kI 0), (kI 0)] [⟨0, 1, q6⟩, ⟨1, 1, q7⟩]) .v, .P p9 (.mkif 53 q8) .v, .o ⟨none, (.panic q9), none, []⟩ .v]))
def x41 : XFn := ⟨[.v, tI], false, [], c41_e⟩
def e41_0 (k t0 t1 h) := kN k [(p0, t0), (p1, (vI t1))] h
def S41_0 (D : CallD) (m : Nat) (t0 : AV) (t1 : Int) (h : HP) : Res2 :=
 cal D 14 [t0] h fun t5 h1 =>
 fldC 2 1 false t5 fun vt6 => asI .i64 vt6 fun t6 =>
 let t8 := (AV.agg [(vI t6), (vI t1)])
 let t9 := (AV.iface 53 t8)
 some (.pan [(.iface 53 t8, false)] h1, .no)
def S41 : SFn := fun D m args h u => nou u <| popV args fun t0 args => popI .i64 args fun t1 args => endA args (S41_0 D m t0 t1 h)
theorem T41_0 (hE : FX x41 D m E) : S41_0 D m = e41_0 (E c41_e []) := by unfold S41_0; rw [hE c41_e]; kernel_rfl
theorem X41 : XTie S41 x41 := X_of fun D m E hE args h u => by unfold S41; rw [T41_0 hE]; kernel_rfl
/- 42 -/
def v42_0 : List Pos := [p1, p2, p3]
def c42_0 : XC := (.sO [.ld p98 q1 .v, .cl p99 28 [q98, (.c (.str [59]))] .v] (.sO [.L p100 (.cells 7 q3) .v, .ss 7 q2 q100] (.s .ret)))
def v42_1 : List Pos := [p2, p3]
def c42_1 : XC := (.sO [.L p44 (.cells 7 q3) .v, .ss 7 q2 q44] (.s .ret))
def c42_e : XC := (.sO [.al p1 (.box q0), .al p2 (.new [(kI 0), .nils, .nils, (.str []), (kI 0), (kI 0), (kI 0)])] (.sO [.ld p4 q1 .v, .cl p5 44 [q4] .v] (.sO [.P p6 (.mkfn 54 [] [q1]) .v, .o ⟨none, (.defer (.val q6) []), none, []⟩ .v] (.sO [.ld p7 q1 .v, .cl p8 14 [q7] .v, .P p9 (.field 2 1 false q8) tI, .P p10 (.build [(kI 0), .nils, .nils, (.str []), (kI 0), (kI 0), (kI 0)] [⟨6, 1, q9⟩]) .v, .al p3 (.new [(kI 0), .nils, .nils, (.str []), (kI 0), (kI 0), (kI 0)]), .ss 7 q3 q10] (.sj v42_0 (.block 0 (.sO [.ld p16 q1 .v, .al p17 (.bsl [(.str [])] 1 [⟨0, 1, (.c (.str [123]))⟩]), .cl p18 26 [q16, q17] .b, .mv p15 q18 .b] (.cond q15 (.sO [.ld p19 q1 .v, .cl p20 27 [q19] .v, .ss 7 q2 q20] (.s .ret)) (.sO [.ld p22 q1 .v, .cl p23 22 [q22, (.c (.str [105, 102]))] .b, .mv p21 q23 .b] (.cond q21 (.sO [.ld p24 q1 .v, .cl p25 55 [q24] .v, .fa p26 0 q3, .st q26 (ci 2), .fa p27 1 q3, .st q27 q25] (.seq (.ops true (XL.of [.fa p28 2 q3, .ld p29 q28 .v, .ld p30 q1 .v, .o ⟨(some p31), (.call (.fn 42) [q30]), none, [⟨none, .cell q28, p29⟩]⟩ .v, .al p32 (.bsl [(kI 0), .nils, .nils, (.str []), (kI 0), (kI 0), (kI 0)] 1 [⟨0, 7, q31⟩]), .o ⟨(some p33), (.e (.app 7 96 q29 q32)), none, []⟩ .v, .fa p34 2 q3, .st q34 q33])) (.sj v42_1 (.sO [.ld p35 q1 .v, .cl p36 22 [q35, (.c (.str [101, 108, 115, 101]))] .b] (.cond q36 (.s (.ops true (XL.of [.fa p37 2 q3, .ld p38 q37 .v, .ld p39 q1 .v, .o ⟨(some p40), (.call (.fn 42) [q39]), none, [⟨none, .cell q37, p38⟩]⟩ .v, .al p41 (.bsl [(kI 0), .nils, .nils, (.str []), (kI 0), (kI 0), (kI 0)] 1 [⟨0, 7, q40⟩]), .o ⟨(some p42), (.e (.app 7 96 q38 q41)), none, []⟩ .v, .fa p43 2 q3, .st q43 q42]))) (.s .skip))) c42_1))) (.sO [.ld p46 q1 .v, .cl p47 22 [q46, (.c (.str [119, 104, 105, 108, 101]))] .b, .mv p45 q47 .b] (.cond q45 (.sO [.ld p48 q1 .v, .cl p49 55 [q48] .v, .fa p50 0 q3, .st q50 (ci 3), .fa p51 1 q3, .st q51 q49] (.seq (.ops true (XL.of [.fa p52 2 q3, .ld p53 q52 .v, .ld p54 q1 .v, .o ⟨(some p55), (.call (.fn 42) [q54]), none, [⟨none, .cell q52, p53⟩]⟩ .v, .al p56 (.bsl [(kI 0), .nils, .nils, (.str []), (kI 0), (kI 0), (kI 0)] 1 [⟨0, 7, q55⟩]), .o ⟨(some p57), (.e (.app 7 96 q53 q56)), none, []⟩ .v, .fa p58 2 q3, .st q58 q57])) (.sO [.L p59 (.cells 7 q3) .v, .ss 7 q2 q59] (.s .ret)))) (.sO [.ld p61 q1 .v, .al p62 (.bsl [(.str []), (.str []), (.str [])] 3 [⟨0, 1, (.c (.str [105, 110, 116]))⟩, ⟨1, 1, (.c (.str [100, 111, 117, 98, 108, 101]))⟩, ⟨2, 1, (.c (.str [118, 111, 105, 100]))⟩]), .cl p63 26 [q61, q62] .b, .mv p60 q63 .b] (.cond q60 (.sO [.ld p64 q1 .v, .cl p65 23 [q64] tI, .fa p66 0 q3, .st q66 (ci 8), .fa p67 4 q3, .st q67 q65] (.sO [.ld p68 q1 .v, .cl p69 24 [q68, (ci 1)] .s, .fa p70 3 q3, .st q70 q69] (.sO [.ld p71 q1 .v, .cl p72 29 [q71] tI, .fa p73 5 q3, .st q73 q72] (.sO [.ld p74 q1 .v, .cl p75 22 [q74, (.c (.str [61]))] .b] (.cond q75 (.s (.ops true (XL.of [.fa p76 1 q3, .ld p77 q76 .v, .ld p78 q1 .v, .o ⟨(some p79), (.call (.fn 30) [q78]), none, [⟨none, .cell q76, p77⟩]⟩ .v, .al p80 (.bsl [(kI 0), (.str []), (.str []), (.int .u32 (.ofNat 0)), (.int .u64 (.ofNat 0)), .nils, (kI 0), (kI 0)] 1 [⟨0, 8, q79⟩]), .o ⟨(some p81), (.e (.app 8 96 q77 q80)), none, []⟩ .v, .fa p82 1 q3, .st q82 q81]))) (.s .skip)))))) (.sO [.ld p84 q1 .v, .cl p85 22 [q84, (.c (.str [98, 114, 101, 97, 107]))] .b, .mv p83 q85 .b] (.cond q83 (.s (.oX [.fa p86 0 q3, .st q86 (ci 5)])) (.sO [.ld p88 q1 .v, .cl p89 22 [q88, (.c (.str [99, 111, 110, 116, 105, 110, 117, 101]))] .b, .mv p87 q89 .b] (.cond q87 (.s (.oX [.fa p90 0 q3, .st q90 (ci 6)])) (.sO [.ld p92 q1 .v, .cl p93 22 [q92, (.c (.str [114, 101, 116, 117, 114, 110]))] .b, .mv p91 q93 .b] (.cond q91 (.sO [.fa p94 0 q3, .st q94 (ci 4)] (.s (.oX [.ld p95 q1 .v, .cl p96 56 [q95] .v, .fa p97 1 q3, .st q97 q96]))) (.sO [.fa p11 0 q3, .st q11 (ci 7)] (.s (.oX [.ld p12 q1 .v, .cl p13 56 [q12] .v, .fa p14 1 q3, .st q14 q13])))))))))))))))))) c42_0)))))
def x42 : XFn := ⟨[.v], false, [(.cells 7 p2)], c42_e⟩
def e42_0 (k : St → Res2) (t1 t2 t3 : AV) (h : HP) (df : List ADef) : Res2 := k ⟨mkT [(p1, t1), (p2, t2), (p3, t3)], h, df, .no⟩
def S42_0 (D : CallD) (m : Nat) (t1 t2 t3 : AV) (h : HP) (df : List ADef) : Res2 :=
 cellC t1 h fun t98 =>
 calC D 28 [t98, (vS ([59] : LN))] h (fun t99 h10 =>
 cellsC 7 t3 h10 fun t100 =>
 stsC 7 t2 t100 h10 fun h11 =>
 XFn.endOf x42 D (.ret ⟨(mkT [(p2, t2)]), h11, df, .no⟩)) (fun ch10 gh10 => XFn.endOf x42 D (.panic ch10 ⟨(mkT [(p2, t2)]), gh10, df, .no⟩))
def e42_1 (k : St → Res2) (t2 t3 : AV) (h : HP) (df : List ADef) : Res2 := k ⟨mkT [(p2, t2), (p3, t3)], h, df, .no⟩
def S42_1 (D : CallD) (m : Nat) (t2 t3 : AV) (h : HP) (df : List ADef) : Res2 :=
 cellsC 7 t3 h fun t44 =>
 stsC 7 t2 t44 h fun h25 =>
 XFn.endOf x42 D (.ret ⟨(mkT [(p2, t2)]), h25, df, .no⟩)
def e42_2 (k t0 h) := kN k [(p0, t0)] h
def S42_2 (D : CallD) (m : Nat) (t0 : AV) (h : HP) : Res2 :=
 let t1 := AV.ptr (HP.nxQ h) 0
 let h3 := HP.newQ h (.cells true (AV.cells t0))
 let t2 := AV.ptr (HP.nxQ h3) 0
 let h4 := HP.newQ h3 (.cells true [(kI 0), .nils, .nils, (.str []), (kI 0), (kI 0), (kI 0)])
 cellC t1 h4 fun t4 =>
 calC D 44 [t4] h4 (fun t5 h5 =>
 let t6 := (AV.fn 54 [] [t1])
 let d6 : List ADef := ⟨54, [t1]⟩ :: []
 cellC t1 h5 fun t7 =>
 calC D 14 [t7] h5 (fun t8 h7 =>
 fldC 2 1 false t8 fun vt9 => asI .i64 vt9 fun t9 =>
 let t10 := (AV.agg [(vI (Int.ofNat 0)), (.nils : AV), (.nils : AV), (vS ([] : LN)), (vI (Int.ofNat 0)), (vI (Int.ofNat 0)), (vI t9)])
 let t3 := AV.ptr (HP.nxQ h7) 0
 let h8 := HP.newQ h7 (.cells true [(kI 0), .nils, .nils, (.str []), (kI 0), (kI 0), (kI 0)])
 stsC 7 t3 t10 h8 fun h9 =>
 cellC t1 h9 fun t16 =>
 let t17 := AV.slice (HP.nxQ h9) 0 1 (.exact 1)
 let h12 := HP.newQ h9 (.cells true [(vS ([123] : LN))])
 calC D 26 [t16, t17] h12 (fun t18 h13 =>
 asB t18 fun t18a =>
 br t18a (
 cellC t1 h13 fun t19 =>
 calC D 27 [t19] h13 (fun t20 h14 =>
 stsC 7 t2 t20 h14 fun h15 =>
 XFn.endOf x42 D (.ret ⟨(mkT [(p2, t2)]), h15, d6, .no⟩)) (fun ch14 gh14 => XFn.endOf x42 D (.panic ch14 ⟨(mkT [(p2, t2)]), gh14, d6, .no⟩))) (
 cellC t1 h13 fun t22 =>
 calC D 22 [t22, (vS ([105, 102] : LN))] h13 (fun t23 h16 =>
 asB t23 fun t23a =>
 br t23a (
 cellC t1 h16 fun t24 =>
 calC D 55 [t24] h16 (fun t25 h17 =>
 let t26 := (AV.ptr (HP.nxQ h7) (Nat.add 0 0))
 stoC t26 (vI (Int.ofNat 2)) h17 fun h18 =>
 let t27 := (AV.ptr (HP.nxQ h7) (Nat.add 0 1))
 stoC t27 t25 h18 fun h19 =>
 let t28 := (AV.ptr (HP.nxQ h7) (Nat.add 0 2))
 cellC t28 h19 fun t29 =>
 cellC t1 h19 fun t30 =>
 calC D 42 [t30] h19 (fun t31 h20 =>
 br (again [⟨none, .cell q28, p29⟩] (mkT [(p29, t29), (p28, t28)]) h20) (
 obQ (evA (.bsl [(kI 0), .nils, .nils, (.str []), (kI 0), (kI 0), (kI 0)] 1 [⟨0, 7, (.c t31)⟩]) .leaf) fun r21 =>
 let t32 := vkV r21.2 (HP.nxQ h20)
 let h22 := HP.newQ h20 r21.1
 eff (.app 7 96 (.c t29) (.c t32)) h22 fun t33 h23 =>
 let t34 := (AV.ptr (HP.nxQ h7) (Nat.add 0 2))
 stoC t34 t33 h23 fun h24 =>
 cellC t1 h24 fun t35 =>
 calC D 22 [t35, (vS ([101, 108, 115, 101] : LN))] h24 (fun t36 h26 =>
 asB t36 fun t36a =>
 br t36a (
 let t37 := (AV.ptr (HP.nxQ h7) (Nat.add 0 2))
 cellC t37 h26 fun t38 =>
 cellC t1 h26 fun t39 =>
 calC D 42 [t39] h26 (fun t40 h27 =>
 br (again [⟨none, .cell q37, p38⟩] (mkT [(p38, t38), (p37, t37)]) h27) (
 obQ (evA (.bsl [(kI 0), .nils, .nils, (.str []), (kI 0), (kI 0), (kI 0)] 1 [⟨0, 7, (.c t40)⟩]) .leaf) fun r28 =>
 let t41 := vkV r28.2 (HP.nxQ h27)
 let h29 := HP.newQ h27 r28.1
 eff (.app 7 96 (.c t38) (.c t41)) h29 fun t42 h30 =>
 let t43 := (AV.ptr (HP.nxQ h7) (Nat.add 0 2))
 stoC t43 t42 h30 fun h31 =>
 S42_1 D m t2 t3 h31 d6) none) (fun ch27 gh27 => XFn.endOf x42 D (.panic ch27 ⟨(mkT [(p2, t2)]), gh27, d6, .no⟩))) (
 S42_1 D m t2 t3 h26 d6)) (fun ch26 gh26 => XFn.endOf x42 D (.panic ch26 ⟨(mkT [(p2, t2)]), gh26, d6, .no⟩))) none) (fun ch20 gh20 => XFn.endOf x42 D (.panic ch20 ⟨(mkT [(p2, t2)]), gh20, d6, .no⟩))) (fun ch17 gh17 => XFn.endOf x42 D (.panic ch17 ⟨(mkT [(p2, t2)]), gh17, d6, .no⟩))) (
 cellC t1 h16 fun t46 =>
 calC D 22 [t46, (vS ([119, 104, 105, 108, 101] : LN))] h16 (fun t47 h32 =>
 asB t47 fun t47a =>
 br t47a (
 cellC t1 h32 fun t48 =>
 calC D 55 [t48] h32 (fun t49 h33 =>
 let t50 := (AV.ptr (HP.nxQ h7) (Nat.add 0 0))
 stoC t50 (vI (Int.ofNat 3)) h33 fun h34 =>
 let t51 := (AV.ptr (HP.nxQ h7) (Nat.add 0 1))
 stoC t51 t49 h34 fun h35 =>
 let t52 := (AV.ptr (HP.nxQ h7) (Nat.add 0 2))
 cellC t52 h35 fun t53 =>
 cellC t1 h35 fun t54 =>
 calC D 42 [t54] h35 (fun t55 h36 =>
 br (again [⟨none, .cell q52, p53⟩] (mkT [(p53, t53), (p52, t52)]) h36) (
 obQ (evA (.bsl [(kI 0), .nils, .nils, (.str []), (kI 0), (kI 0), (kI 0)] 1 [⟨0, 7, (.c t55)⟩]) .leaf) fun r37 =>
 let t56 := vkV r37.2 (HP.nxQ h36)
 let h38 := HP.newQ h36 r37.1
 eff (.app 7 96 (.c t53) (.c t56)) h38 fun t57 h39 =>
 let t58 := (AV.ptr (HP.nxQ h7) (Nat.add 0 2))
 stoC t58 t57 h39 fun h40 =>
 cellsC 7 t3 h40 fun t59 =>
 stsC 7 t2 t59 h40 fun h41 =>
 XFn.endOf x42 D (.ret ⟨(mkT [(p2, t2)]), h41, d6, .no⟩)) none) (fun ch36 gh36 => XFn.endOf x42 D (.panic ch36 ⟨(mkT [(p2, t2)]), gh36, d6, .no⟩))) (fun ch33 gh33 => XFn.endOf x42 D (.panic ch33 ⟨(mkT [(p2, t2)]), gh33, d6, .no⟩))) (
 cellC t1 h32 fun t61 =>
 let t62 := AV.slice (HP.nxQ h32) 0 3 (.exact 3)
 let h42 := HP.newQ h32 (.cells true [(vS ([105, 110, 116] : LN)), (vS ([100, 111, 117, 98, 108, 101] : LN)), (vS ([118, 111, 105, 100] : LN))])
 calC D 26 [t61, t62] h42 (fun t63 h43 =>
 asB t63 fun t63a =>
 br t63a (
 cellC t1 h43 fun t64 =>
 calC D 23 [t64] h43 (fun t65 h44 =>
 asI .i64 t65 fun t65a =>
 let t66 := (AV.ptr (HP.nxQ h7) (Nat.add 0 0))
 stoC t66 (vI (Int.ofNat 8)) h44 fun h45 =>
 let t67 := (AV.ptr (HP.nxQ h7) (Nat.add 0 4))
 stoC t67 (vI t65a) h45 fun h46 =>
 cellC t1 h46 fun t68 =>
 calC D 24 [t68, (vI (Int.ofNat 1))] h46 (fun t69 h47 =>
 asS t69 fun t69a =>
 let t70 := (AV.ptr (HP.nxQ h7) (Nat.add 0 3))
 stoC t70 (vS t69a) h47 fun h48 =>
 cellC t1 h48 fun t71 =>
 calC D 29 [t71] h48 (fun t72 h49 =>
 asI .i64 t72 fun t72a =>
 let t73 := (AV.ptr (HP.nxQ h7) (Nat.add 0 5))
 stoC t73 (vI t72a) h49 fun h50 =>
 cellC t1 h50 fun t74 =>
 calC D 22 [t74, (vS ([61] : LN))] h50 (fun t75 h51 =>
 asB t75 fun t75a =>
 br t75a (
 let t76 := (AV.ptr (HP.nxQ h7) (Nat.add 0 1))
 cellC t76 h51 fun t77 =>
 cellC t1 h51 fun t78 =>
 calC D 30 [t78] h51 (fun t79 h52 =>
 br (again [⟨none, .cell q76, p77⟩] (mkT [(p77, t77), (p76, t76)]) h52) (
 obQ (evA (.bsl [(kI 0), (.str []), (.str []), (.int .u32 (.ofNat 0)), (.int .u64 (.ofNat 0)), .nils, (kI 0), (kI 0)] 1 [⟨0, 8, (.c t79)⟩]) .leaf) fun r53 =>
 let t80 := vkV r53.2 (HP.nxQ h52)
 let h54 := HP.newQ h52 r53.1
 eff (.app 8 96 (.c t77) (.c t80)) h54 fun t81 h55 =>
 let t82 := (AV.ptr (HP.nxQ h7) (Nat.add 0 1))
 stoC t82 t81 h55 fun h56 =>
 S42_0 D m t1 t2 t3 h56 d6) none) (fun ch52 gh52 => XFn.endOf x42 D (.panic ch52 ⟨(mkT [(p2, t2)]), gh52, d6, .no⟩))) (
 S42_0 D m t1 t2 t3 h51 d6)) (fun ch51 gh51 => XFn.endOf x42 D (.panic ch51 ⟨(mkT [(p2, t2)]), gh51, d6, .no⟩))) (fun ch49 gh49 => XFn.endOf x42 D (.panic ch49 ⟨(mkT [(p2, t2)]), gh49, d6, .no⟩))) (fun ch47 gh47 => XFn.endOf x42 D (.panic ch47 ⟨(mkT [(p2, t2)]), gh47, d6, .no⟩))) (fun ch44 gh44 => XFn.endOf x42 D (.panic ch44 ⟨(mkT [(p2, t2)]), gh44, d6, .no⟩))) (
 cellC t1 h43 fun t84 =>
 calC D 22 [t84, (vS ([98, 114, 101, 97, 107] : LN))] h43 (fun t85 h57 =>
 asB t85 fun t85a =>
 br t85a (
 let t86 := (AV.ptr (HP.nxQ h7) (Nat.add 0 0))
 stoC t86 (vI (Int.ofNat 5)) h57 fun h58 =>
 S42_0 D m t1 t2 t3 h58 d6) (
 cellC t1 h57 fun t88 =>
 calC D 22 [t88, (vS ([99, 111, 110, 116, 105, 110, 117, 101] : LN))] h57 (fun t89 h59 =>
 asB t89 fun t89a =>
 br t89a (
 let t90 := (AV.ptr (HP.nxQ h7) (Nat.add 0 0))
 stoC t90 (vI (Int.ofNat 6)) h59 fun h60 =>
 S42_0 D m t1 t2 t3 h60 d6) (
 cellC t1 h59 fun t92 =>
 calC D 22 [t92, (vS ([114, 101, 116, 117, 114, 110] : LN))] h59 (fun t93 h61 =>
 asB t93 fun t93a =>
 br t93a (
 let t94 := (AV.ptr (HP.nxQ h7) (Nat.add 0 0))
 stoC t94 (vI (Int.ofNat 4)) h61 fun h62 =>
 cellC t1 h62 fun t95 =>
 calC D 56 [t95] h62 (fun t96 h63 =>
 let t97 := (AV.ptr (HP.nxQ h7) (Nat.add 0 1))
 stoC t97 t96 h63 fun h64 =>
 S42_0 D m t1 t2 t3 h64 d6) (fun ch63 gh63 => XFn.endOf x42 D (.panic ch63 ⟨(mkT [(p2, t2)]), gh63, d6, .no⟩))) (
 let t11 := (AV.ptr (HP.nxQ h7) (Nat.add 0 0))
 stoC t11 (vI (Int.ofNat 7)) h61 fun h65 =>
 cellC t1 h65 fun t12 =>
 calC D 56 [t12] h65 (fun t13 h66 =>
 let t14 := (AV.ptr (HP.nxQ h7) (Nat.add 0 1))
 stoC t14 t13 h66 fun h67 =>
 S42_0 D m t1 t2 t3 h67 d6) (fun ch66 gh66 => XFn.endOf x42 D (.panic ch66 ⟨(mkT [(p2, t2)]), gh66, d6, .no⟩)))) (fun ch61 gh61 => XFn.endOf x42 D (.panic ch61 ⟨(mkT [(p2, t2)]), gh61, d6, .no⟩)))) (fun ch59 gh59 => XFn.endOf x42 D (.panic ch59 ⟨(mkT [(p2, t2)]), gh59, d6, .no⟩)))) (fun ch57 gh57 => XFn.endOf x42 D (.panic ch57 ⟨(mkT [(p2, t2)]), gh57, d6, .no⟩)))) (fun ch43 gh43 => XFn.endOf x42 D (.panic ch43 ⟨(mkT [(p2, t2)]), gh43, d6, .no⟩)))) (fun ch32 gh32 => XFn.endOf x42 D (.panic ch32 ⟨(mkT [(p2, t2)]), gh32, d6, .no⟩)))) (fun ch16 gh16 => XFn.endOf x42 D (.panic ch16 ⟨(mkT [(p2, t2)]), gh16, d6, .no⟩)))) (fun ch13 gh13 => XFn.endOf x42 D (.panic ch13 ⟨(mkT [(p2, t2)]), gh13, d6, .no⟩))) (fun ch7 gh7 => XFn.endOf x42 D (.panic ch7 ⟨(mkT [(p2, t2)]), gh7, d6, .no⟩))) (fun ch5 gh5 => XFn.endOf x42 D (.panic ch5 ⟨(mkT [(p2, t2)]), gh5, [], .no⟩))
def S42 : SFn := fun D m args h u => nou u <| popV args fun t0 args => endA args (S42_2 D m t0 h)
theorem T42_0 (hE : FX x42 D m E) : S42_0 D m = e42_0 (E c42_0 []) := by unfold S42_0; rw [hE c42_0]; kernel_rfl
theorem T42_1 (hE : FX x42 D m E) : S42_1 D m = e42_1 (E c42_1 [.blk 0, .sj v42_0 c42_0]) := by unfold S42_1; rw [hE c42_1]; kernel_rfl
theorem T42_2 (hE : FX x42 D m E) : S42_2 D m = e42_2 (E c42_e []) := by unfold S42_2; rw [T42_1 hE, T42_0 hE, hE c42_e]; kernel_rfl
theorem X42 : XTie S42 x42 := X_of fun D m E hE args h u => by unfold S42; rw [T42_2 hE]; kernel_rfl
/- 43 -/
def c43_e : XC := (.sO [.mv p2 (ci 0) tI, .mv p3 (.c .nili) .v] (.sO [.mv p7 q0 .s, .cl p8 57 [q7] .v, .mv p6 q8 .v, .P p9 (.ext q6 0) tI, .P p10 (.ext q6 1) .v, .mv p4 q9 tI, .mv p5 q10 .v] (.seq (.seq (.oX [.mv p11 q5 .v, .P p12 (.eqn .ifc true q11 (.c .nili)) .b]) (.cond q12 (.seq (.oX [.mv p13 q4 tI, .mv p14 q0 .s, .mv p15 q5 .v, .cl p16 58 [(.c (.str [65, 116, 111, 105])), q14, (ci 0), (ci 0), q15] .v, .mv p2 q13 tI, .mv p3 q16 .v]) .ret) .skip)) (.sO [.mv p17 q4 tI, .mv p2 q17 tI, .mv p3 (.c .nili) .v] (.s .ret)))))
def x43 : XFn := ⟨[.s], false, [(.tmp p2), (.tmp p3)], c43_e⟩
def e43_0 (k t0 h) := kN k [(p0, (vS t0))] h
def S43_0 (D : CallD) (m : Nat) (t0 : LN) (h : HP) : Res2 :=
 cal D 57 [(vS t0)] h fun t8 h1 =>
 extC t8 0 fun vt9 => asI .i64 vt9 fun t9 =>
 extC t8 1 fun t10 =>
 obB (evP (.eqn .ifc true (.c t10) (.c (.nili : AV))) .leaf) fun t12 =>
 br t12 (
 cal D 58 [(vS ([65, 116, 111, 105] : LN)), (vS t0), (vI (Int.ofNat 0)), (vI (Int.ofNat 0)), t10] h1 fun t16 h2 =>
 some (.ret (.tup [(vI t9), t16]) h2, .no)) (
 some (.ret (.tup [(vI t9), (.nili : AV)]) h1, .no))
def S43 : SFn := fun D m args h u => nou u <| popS args fun t0 args => endA args (S43_0 D m t0 h)
theorem T43_0 (hE : FX x43 D m E) : S43_0 D m = e43_0 (E c43_e []) := by unfold S43_0; rw [hE c43_e]; kernel_rfl
theorem X43 : XTie S43 x43 := X_of fun D m E hE args h u => by unfold S43; rw [T43_0 hE]; kernel_rfl
/- 44 -/
def v44_0 : List Pos := [p0]
def c44_0 : XC := (.s (.oX [.mv p9 q0 .v, .P p10 (.nilck q9) .v, .fa p11 2 q10, .ld p12 q11 tI, .bn p13 .add q12 (ci 1) tI, .P p14 (.nilck q9) .v, .fa p15 2 q14, .st q15 q13]))
def c44_e : XC := (.sj v44_0 (.sO [.mv p2 q0 .v, .P p3 (.nilck q2) .v, .fa p4 2 q3, .ld p5 q4 tI, .bn p6 .eql q5 (ci 40) .b] (.cond q6 (.s (.oX [.mv p7 q0 .v, .cl p8 41 [q7, (ci 12)] .v])) (.s .skip))) c44_0)
def x44 : XFn := ⟨[.v], false, [], c44_e⟩
def e44_0 (k t0 h) := kN k [(p0, t0)] h
def S44_0 (D : CallD) (m : Nat) (t0 : AV) (h : HP) : Res2 :=
 nilckC t0 fun t10 =>
 faC 2 t10 fun t11 =>
 ldI t11 h fun t12 =>
 let t13 := wrQ .i64 (addQ t12 (Int.ofNat 1))
 nilckC t0 fun t14 =>
 faC 2 t14 fun t15 =>
 stoC t15 (vI t13) h fun h2 =>
 some (.ret (.tup []) h2, .no)
def e44_1 (k t0 h) := kN k [(p0, t0)] h
def S44_1 (D : CallD) (m : Nat) (t0 : AV) (h : HP) : Res2 :=
 nilckC t0 fun t3 =>
 faC 2 t3 fun t4 =>
 ldI t4 h fun t5 =>
 let t6 := eqQ t5 (Int.ofNat 40)
 br t6 (
 cal D 41 [t0, (vI (Int.ofNat 12))] h fun t8 h3 =>
 S44_0 D m t0 h3) (
 S44_0 D m t0 h)
def S44 : SFn := fun D m args h u => nou u <| popV args fun t0 args => endA args (S44_1 D m t0 h)
theorem T44_0 (hE : FX x44 D m E) : S44_0 D m = e44_0 (E c44_0 []) := by unfold S44_0; rw [hE c44_0]; kernel_rfl
theorem T44_1 (hE : FX x44 D m E) : S44_1 D m = e44_1 (E c44_e []) := by unfold S44_1; rw [T44_0 hE, hE c44_e]; kernel_rfl
theorem X44 : XTie S44 x44 := X_of fun D m E hE args h u => by unfold S44; rw [T44_1 hE]; kernel_rfl
/- 45 -/
def c45_e : XC := (.s (.oX [.ld p1 q0 .v, .P p2 (.nilck q1) .v, .fa p3 2 q2, .ld p4 q3 tI, .bn p5 .sub q4 (ci 1) tI, .P p6 (.nilck q1) .v, .fa p7 2 q6, .st q7 q5]))
def x45 : XFn := ⟨[.v], true, [], c45_e⟩
def e45_0 (k : St → Res2) (t0 : AV) (h : HP) (u : AMode) : Res2 := k ⟨mkT [(p0, t0)], h, [], u⟩
def S45_0 (D : CallD) (m : Nat) (t0 : AV) (h : HP) (u : AMode) : Res2 :=
 cellC t0 h fun t1 =>
 nilckC t1 fun t2 =>
 faC 2 t2 fun t3 =>
 ldI t3 h fun t4 =>
 let t5 := wrQ .i64 (t4 - (Int.ofNat 1))
 nilckC t1 fun t6 =>
 faC 2 t6 fun t7 =>
 stoC t7 (vI t5) h fun h1 =>
 some (.ret (.tup []) h1, u)
def S45 : SFn := fun D m args h u => popV args fun t0 args => endA args (S45_0 D m t0 h u)
theorem T45_0 (hE : FX x45 D m E) : S45_0 D m = e45_0 (E c45_e []) := by unfold S45_0; rw [hE c45_e]; kernel_rfl
theorem X45 : XTie S45 x45 := X_of fun D m E hE args h u => by unfold S45; rw [T45_0 hE]; kernel_rfl
/- 46 -/
def v46_0 : List Pos := [p4, p6]
def c46_0 : XC := (.sO [.L p45 (.cells 8 q6) .v, .ss 8 q4 q45] (.s .ret))
def v46_1 : List Pos := [p0, p1, p4, p5, p6]
def c46_1b : XC := (.seq (.seq (.oX [.mv p19 q0 .v, .mv p20 q5 .v, .mv p21 q1 tI, .P p22 (.iaddr (.sl 1) q20 q21) .v, .ld p23 q22 .v, .cl p24 26 [q19, q23] .b]) (.cond q24 .skip (.exit 0))) (.block 1 (.sO [.mv p25 q0 .v, .cl p26 14 [q25] .v, .P p27 (.field 1 1 false q26) .s, .mv p7 q27 .s] (.sO [.mv p28 q0 .v, .P p29 (.nilck q28) .v, .fa p30 1 q29, .ld p31 q30 tI, .bn p32 .add q31 (ci 1) tI, .P p33 (.nilck q28) .v, .fa p34 1 q33, .st q34 q32] (.s (.ops true (XL.of [.mv p35 q7 .s, .L p36 (.cells 8 q6) .v, .mv p37 q0 .v, .mv p38 q1 tI, .bn p39 .add q38 (ci 1) tI, .fa p42 7 q6, .ld p43 q42 tI, .o ⟨(some p40), (.call (.fn 46) [q37, q39]), none, [⟨none, .cells 8 q6, p36⟩, ⟨none, .cell q42, p43⟩]⟩ .v, .al p41 (.bsl [(kI 0), (.str []), (.str []), (.int .u32 (.ofNat 0)), (.int .u64 (.ofNat 0)), .nils, (kI 0), (kI 0), (kI 0), (.str []), (.str []), (.int .u32 (.ofNat 0)), (.int .u64 (.ofNat 0)), .nils, (kI 0), (kI 0)] 2 [⟨0, 8, q36⟩, ⟨8, 8, q40⟩]), .P p44 (.build [(kI 0), (.str []), (.str []), (.int .u32 (.ofNat 0)), (.int .u64 (.ofNat 0)), .nils, (kI 0), (kI 0)] [⟨0, 1, (ci 5)⟩, ⟨1, 1, q35⟩, ⟨5, 1, q41⟩, ⟨7, 1, q43⟩]) .v, .ss 8 q6 q44])))))))
def c46_e : XC := (.sO [.al p4 (.new [(kI 0), (.str []), (.str []), (.int .u32 (.ofNat 0)), (.int .u64 (.ofNat 0)), .nils, (kI 0), (kI 0)])] (.sO [.cl p8 59 [] .v, .mv p5 q8 .v] (.seq (.seq (.oX [.mv p9 q1 tI, .mv p10 q5 .v, .P p11 (.lenl q10) tI, .bn p12 .eql q9 q11 .b]) (.cond q12 (.seq (.oX [.mv p13 q0 .v, .cl p14 60 [q13] .v, .ss 8 q4 q14]) .ret) .skip)) (.sO [.mv p15 q0 .v, .mv p16 q1 tI, .bn p17 .add q16 (ci 1) tI, .cl p18 46 [q15, q17] .v, .al p6 (.new [(kI 0), (.str []), (.str []), (.int .u32 (.ofNat 0)), (.int .u64 (.ofNat 0)), .nils, (kI 0), (kI 0)]), .ss 8 q6 q18] (.sj v46_0 (.block 0 (.loop v46_1 c46_1b)) c46_0)))))
def x46 : XFn := ⟨[.v, tI], false, [(.cells 8 p4)], c46_e⟩
def e46_0 (k t4 t6 h) := kN k [(p4, t4), (p6, t6)] h
def S46_0 (D : CallD) (m : Nat) (t4 t6 : AV) (h : HP) : Res2 :=
 cellsC 8 t6 h fun t45 =>
 stsC 8 t4 t45 h fun h10 =>
 cellsC 8 t4 h10 fun t4a =>
 some (.ret t4a h10, .no)
def e46_1 (k t0 t1 t4 t5 t6 h) := kN k [(p0, t0), (p1, (vI t1)), (p4, t4), (p5, t5), (p6, t6)] h
def S46_1b (D : CallD) (m : Nat) (g1 : AV → Int → AV → AV → AV → HP → Res2) (t0 : AV) (t1 : Int) (t4 t5 t6 : AV) (h : HP) : Res2 :=
 iasC 1 t5 (vI t1) fun t22 =>
 cellC t22 h fun t23 =>
 cal D 26 [t0, t23] h fun t24 h11 =>
 asB t24 fun t24a =>
 br t24a (
 cal D 14 [t0] h11 fun t26 h12 =>
 fldC 1 1 false t26 fun vt27 => asS vt27 fun t27 =>
 nilckC t0 fun t29 =>
 faC 1 t29 fun t30 =>
 ldI t30 h12 fun t31 =>
 let t32 := wrQ .i64 (addQ t31 (Int.ofNat 1))
 nilckC t0 fun t33 =>
 faC 1 t33 fun t34 =>
 stoC t34 (vI t32) h12 fun h13 =>
 cellsC 8 t6 h13 fun t36 =>
 let t39 := wrQ .i64 (addQ t1 (Int.ofNat 1))
 faC 7 t6 fun t42 =>
 ldI t42 h13 fun t43 =>
 cal D 46 [t0, (vI t39)] h13 fun t40 h14 =>
 br (again [⟨none, .cells 8 q6, p36⟩, ⟨none, .cell q42, p43⟩] (mkT [(p43, (vI t43)), (p42, t42), (p36, t36), (p6, t6)]) h14) (
 obQ (evA (.bsl [(kI 0), (.str []), (.str []), (.int .u32 (.ofNat 0)), (.int .u64 (.ofNat 0)), .nils, (kI 0), (kI 0), (kI 0), (.str []), (.str []), (.int .u32 (.ofNat 0)), (.int .u64 (.ofNat 0)), .nils, (kI 0), (kI 0)] 2 [⟨0, 8, (.c t36)⟩, ⟨8, 8, (.c t40)⟩]) .leaf) fun r15 =>
 let t41 := vkV r15.2 (HP.nxQ h14)
 let h16 := HP.newQ h14 r15.1
 obQ (evP (.build [(kI 0), (.str []), (.str []), (.int .u32 (.ofNat 0)), (.int .u64 (.ofNat 0)), .nils, (kI 0), (kI 0)] [⟨0, 1, (.c (vI (Int.ofNat 5)))⟩, ⟨1, 1, (.c (vS t27))⟩, ⟨5, 1, (.c t41)⟩, ⟨7, 1, (.c (vI t43))⟩]) .leaf) fun t44 =>
 stsC 8 t6 t44 h16 fun h17 =>
 g1 t0 t1 t4 t5 t6 h17) none) (
 S46_0 D m t4 t6 h11)
def S46_1 (D : CallD) (m : Nat) : AV → Int → AV → AV → AV → HP → Res2 := nrec (fun _ _ _ _ _ _ => none) (fun _ g => S46_1b D m g) m
def e46_2 (k t0 t1 h) := kN k [(p0, t0), (p1, (vI t1))] h
def S46_2 (D : CallD) (m : Nat) (t0 : AV) (t1 : Int) (h : HP) : Res2 :=
 let t4 := AV.ptr (HP.nxQ h) 0
 let h3 := HP.newQ h (.cells true [(kI 0), (.str []), (.str []), (.int .u32 (.ofNat 0)), (.int .u64 (.ofNat 0)), .nils, (kI 0), (kI 0)])
 cal D 59 [] h3 fun t8 h4 =>
 lenC t8 fun vt11 => asI .i64 vt11 fun t11 =>
 let t12 := eqQ t1 t11
 br t12 (
 cal D 60 [t0] h4 fun t14 h5 =>
 stsC 8 t4 t14 h5 fun h6 =>
 cellsC 8 t4 h6 fun t4a =>
 some (.ret t4a h6, .no)) (
 let t17 := wrQ .i64 (addQ t1 (Int.ofNat 1))
 cal D 46 [t0, (vI t17)] h4 fun t18 h7 =>
 let t6 := AV.ptr (HP.nxQ h7) 0
 let h8 := HP.newQ h7 (.cells true [(kI 0), (.str []), (.str []), (.int .u32 (.ofNat 0)), (.int .u64 (.ofNat 0)), .nils, (kI 0), (kI 0)])
 stsC 8 t6 t18 h8 fun h9 =>
 S46_1 D m t0 t1 t4 t8 t6 h9)
def S46 : SFn := fun D m args h u => nou u <| popV args fun t0 args => popI .i64 args fun t1 args => endA args (S46_2 D m t0 t1 h)
theorem T46_0 (hE : FX x46 D m E) : S46_0 D m = e46_0 (E c46_0 []) := by unfold S46_0; rw [hE c46_0]; kernel_rfl
theorem T46_1b (hE : FX x46 D m E) (G1) : S46_1b D m (e46_1 G1) = e46_1 (E c46_1b [.lp v46_1 G1, .blk 0, .sj v46_0 c46_0]) := by unfold S46_1b; rw [T46_0 hE, hE c46_1b]; kernel_rfl
theorem T46_1 (hE : FX x46 D m E) : S46_1 D m = e46_1 (nrec (fun _ => none) (fun _ G1 st => E c46_1b [.lp v46_1 G1, .blk 0, .sj v46_0 c46_0] st) m) :=
  nrec_emb e46_1 (fun _ _ _ _ _ _ => none) (fun g => S46_1b D m g) (fun G1 st => E c46_1b [.lp v46_1 G1, .blk 0, .sj v46_0 c46_0] st) rfl (fun g => T46_1b hE g) m
theorem T46_2 (hE : FX x46 D m E) : S46_2 D m = e46_2 (E c46_e []) := by unfold S46_2; rw [T46_1 hE, hE c46_e]; kernel_rfl
theorem X46 : XTie S46 x46 := X_of fun D m E hE args h u => by unfold S46; rw [T46_2 hE]; kernel_rfl
/- 47 -/
def c47_e : XC := (.sO [.mv p4 (ci 0) tI] (.sO [.mv p5 q0 .s, .mv p6 q1 tC, .P p7 (.xt .ixbyte [q5, q6]) tI, .mv p4 q7 tI] (.s .ret)))
def x47 : XFn := ⟨[.s, tC], false, [(.tmp p4)], c47_e⟩
def e47_0 (k t0 t1 h) := kN k [(p0, (vS t0)), (p1, (vC t1))] h
def S47_0 (D : CallD) (m : Nat) (t0 : LN) (t1 : Int) (h : HP) : Res2 :=
 obI .i64 (evP (.xt .ixbyte [(.c (vS t0)), (.c (vC t1))]) .leaf) fun t7 =>
 some (.ret (vI t7) h, .no)
def S47 : SFn := fun D m args h u => nou u <| popS args fun t0 args => popI .u8 args fun t1 args => endA args (S47_0 D m t0 t1 h)
theorem T47_0 (hE : FX x47 D m E) : S47_0 D m = e47_0 (E c47_e []) := by unfold S47_0; rw [hE c47_e]; kernel_rfl
theorem X47 : XTie S47 x47 := X_of fun D m E hE args h u => by unfold S47; rw [T47_0 hE]; kernel_rfl
/- 51 -/
def c51_e : XC := (.sO [.mv p4 (cb false) .b] (.sO [.mv p5 q0 .s, .P p6 (.lens q5) tI, .mv p7 q1 .s, .P p8 (.lens q7) tI, .bn p9 .geq q6 q8 .b, .mv p10 q9 .b, .ge p10 (XL.of [.G p10 true p11 (.mov q0) .s, .G p10 true p12 (.mov q1) .s, .G p10 true p13 (.lens q12) tI, .G p10 true p14 (.slice .str q11 none (some q13) none) .s, .G p10 true p15 (.mov q1) .s, .G p10 true p16 (.bin .eql q14 q15) .b, .P p17 (.pick q10 q16 (cb false)) .b]) p17 .b, .mv p4 q17 .b] (.s .ret)))
def x51 : XFn := ⟨[.s, .s], false, [(.tmp p4)], c51_e⟩
def e51_0 (k t0 t1 h) := kN k [(p0, (vS t0)), (p1, (vS t1))] h
def S51_0 (D : CallD) (m : Nat) (t0 t1 : LN) (h : HP) : Res2 :=
 let t6 := Int.ofNat (lenL t0)
 let t8 := Int.ofNat (lenL t1)
 let t9 := leQ t8 t6
 obB (brV t9 (
 let t13 := Int.ofNat (lenL t1)
 slCV (vS t0) none (some (vI t13)) fun vt14 => asSV vt14 fun t14 =>
 let t16 := eqL t14 t1
 some (vB t16)) (
 some (vB false))) fun t17 =>
 some (.ret (vB t17) h, .no)
def S51 : SFn := fun D m args h u => nou u <| popS args fun t0 args => popS args fun t1 args => endA args (S51_0 D m t0 t1 h)
theorem T51_0 (hE : FX x51 D m E) : S51_0 D m = e51_0 (E c51_e []) := by unfold S51_0; rw [hE c51_e]; kernel_rfl
theorem X51 : XTie S51 x51 := X_of fun D m E hE args h u => by unfold S51; rw [T51_0 hE]; kernel_rfl
/- 53 -/
def c53_e : XC := (.sO [.mv p6 (.c (.int .u64 (.ofNat 0))) (.i .u64), .mv p7 (.c .nili) .v] (.sO [.mv p11 q0 .s, .mv p12 q1 tI, .mv p13 q2 tI, .cl p14 67 [q11, q12, q13] .v, .mv p10 q14 .v, .P p15 (.ext q10 0) (.i .u64), .P p16 (.ext q10 1) .v, .mv p8 q15 (.i .u64), .mv p9 q16 .v] (.seq (.seq (.oX [.mv p17 q9 .v, .P p18 (.eqn .ifc true q17 (.c .nili)) .b]) (.cond q18 (.seq (.oX [.mv p19 q8 (.i .u64), .mv p20 q0 .s, .mv p21 q1 tI, .mv p22 q2 tI, .mv p23 q9 .v, .cl p24 58 [(.c (.str [80, 97, 114, 115, 101, 85, 105, 110, 116])), q20, q21, q22, q23] .v, .mv p6 q19 (.i .u64), .mv p7 q24 .v]) .ret) .skip)) (.sO [.mv p25 q8 (.i .u64), .mv p6 q25 (.i .u64), .mv p7 (.c .nili) .v] (.s .ret)))))
def x53 : XFn := ⟨[.s, tI, tI], false, [(.tmp p6), (.tmp p7)], c53_e⟩
def e53_0 (k t0 t1 t2 h) := kN k [(p0, (vS t0)), (p1, (vI t1)), (p2, (vI t2))] h
def S53_0 (D : CallD) (m : Nat) (t0 : LN) (t1 t2 : Int) (h : HP) : Res2 :=
 cal D 67 [(vS t0), (vI t1), (vI t2)] h fun t14 h1 =>
 extC t14 0 fun vt15 => asI .u64 vt15 fun t15 =>
 extC t14 1 fun t16 =>
 obB (evP (.eqn .ifc true (.c t16) (.c (.nili : AV))) .leaf) fun t18 =>
 br t18 (
 cal D 58 [(vS ([80, 97, 114, 115, 101, 85, 105, 110, 116] : LN)), (vS t0), (vI t1), (vI t2), t16] h1 fun t24 h2 =>
 some (.ret (.tup [(AV.int .u64 t15), t24]) h2, .no)) (
 some (.ret (.tup [(AV.int .u64 t15), (.nili : AV)]) h1, .no))
def S53 : SFn := fun D m args h u => nou u <| popS args fun t0 args => popI .i64 args fun t1 args => popI .i64 args fun t2 args => endA args (S53_0 D m t0 t1 t2 h)
theorem T53_0 (hE : FX x53 D m E) : S53_0 D m = e53_0 (E c53_e []) := by unfold S53_0; rw [hE c53_e]; kernel_rfl
theorem X53 : XTie S53 x53 := X_of fun D m E hE args h u => by unfold S53; rw [T53_0 hE]; kernel_rfl
/- 54 -/
def c54_e : XC := (.s (.oX [.ld p1 q0 .v, .P p2 (.nilck q1) .v, .fa p3 2 q2, .ld p4 q3 tI, .bn p5 .sub q4 (ci 1) tI, .P p6 (.nilck q1) .v, .fa p7 2 q6, .st q7 q5]))
def x54 : XFn := ⟨[.v], true, [], c54_e⟩
def e54_0 (k : St → Res2) (t0 : AV) (h : HP) (u : AMode) : Res2 := k ⟨mkT [(p0, t0)], h, [], u⟩
def S54_0 (D : CallD) (m : Nat) (t0 : AV) (h : HP) (u : AMode) : Res2 :=
 cellC t0 h fun t1 =>
 nilckC t1 fun t2 =>
 faC 2 t2 fun t3 =>
 ldI t3 h fun t4 =>
 let t5 := wrQ .i64 (t4 - (Int.ofNat 1))
 nilckC t1 fun t6 =>
 faC 2 t6 fun t7 =>
 stoC t7 (vI t5) h fun h1 =>
 some (.ret (.tup []) h1, u)
def S54 : SFn := fun D m args h u => popV args fun t0 args => endA args (S54_0 D m t0 h u)
theorem T54_0 (hE : FX x54 D m E) : S54_0 D m = e54_0 (E c54_e []) := by unfold S54_0; rw [hE c54_e]; kernel_rfl
theorem X54 : XTie S54 x54 := X_of fun D m E hE args h u => by unfold S54; rw [T54_0 hE]; kernel_rfl
/- 56 -/
def c56_e : XC := (.sO [.mv p2 (.c .nils) .v] (.seq (.seq (.oX [.mv p3 q0 .v, .al p4 (.bsl [(.str [])] 1 [⟨0, 1, (.c (.str [59]))⟩]), .cl p5 26 [q3, q4] .b]) (.cond q5 (.seq (.oX [.mv p2 (.c .nils) .v]) .ret) .skip)) (.sO [.mv p6 q0 .v, .cl p7 30 [q6] .v, .al p8 (.bsl [(kI 0), (.str []), (.str []), (.int .u32 (.ofNat 0)), (.int .u64 (.ofNat 0)), .nils, (kI 0), (kI 0)] 1 [⟨0, 8, q7⟩]), .mv p2 q8 .v] (.s .ret))))
def x56 : XFn := ⟨[.v], false, [(.tmp p2)], c56_e⟩
def e56_0 (k t0 h) := kN k [(p0, t0)] h
def S56_0 (D : CallD) (m : Nat) (t0 : AV) (h : HP) : Res2 :=
 let t4 := AV.slice (HP.nxQ h) 0 1 (.exact 1)
 let h1 := HP.newQ h (.cells true [(vS ([59] : LN))])
 cal D 26 [t0, t4] h1 fun t5 h2 =>
 asB t5 fun t5a =>
 br t5a (
 some (.ret (.nils : AV) h2, .no)) (
 cal D 30 [t0] h2 fun t7 h3 =>
 obQ (evA (.bsl [(kI 0), (.str []), (.str []), (.int .u32 (.ofNat 0)), (.int .u64 (.ofNat 0)), .nils, (kI 0), (kI 0)] 1 [⟨0, 8, (.c t7)⟩]) .leaf) fun r4 =>
 let t8 := vkV r4.2 (HP.nxQ h3)
 let h5 := HP.newQ h3 r4.1
 some (.ret t8 h5, .no))
def S56 : SFn := fun D m args h u => nou u <| popV args fun t0 args => endA args (S56_0 D m t0 h)
theorem T56_0 (hE : FX x56 D m E) : S56_0 D m = e56_0 (E c56_e []) := by unfold S56_0; rw [hE c56_e]; kernel_rfl
theorem X56 : XTie S56 x56 := X_of fun D m E hE args h u => by unfold S56; rw [T56_0 hE]; kernel_rfl
/- 57 -/
def v57_0 : List Pos := [p0]
def c57_0 : XC := (.sO [.mv p71 q0 .s, .cl p72 68 [q71, (ci 10), (ci 0)] .v, .mv p70 q72 .v, .P p73 (.ext q70 0) tI, .P p74 (.ext q70 1) .v, .mv p9 q73 tI, .mv p10 q74 .v] (.sO [.mv p75 q9 tI, .mv p76 q10 .v, .mv p2 q75 tI, .mv p3 q76 .v] (.s .ret)))
def v57_3 : List Pos := [p6]
def c57_3 : XC := (.sO [.mv p69 q6 tI, .mv p2 q69 tI, .mv p3 (.c .nili) .v] (.s .ret))
def v57_2 : List Pos := [p5, p6]
def c57_2 : XC := (.sj v57_3 (.sO [.mv p64 q5 .s, .P p65 (.idxs q64 (ci 0)) tC, .bn p66 .eql q65 (.c (.int .u8 (.ofNat 45))) .b] (.cond q66 (.s (.oX [.mv p67 q6 tI, .P p68 (.un .neg q67) tI, .mv p6 q68 tI])) (.s .skip))) c57_3)
def v57_4 : List Pos := [p5, p6, p47, p48, p49]
def c57_4b : XC := (.sO [.bn p50 .lss q49 q48 .b] (.seq (.cond q50 .skip (.exit 0)) (.seq (.block 1 (.seq (.oX [.P p51 (.iaddr (.sl 1) q47 q49) .v, .ld p52 q51 tC, .mv p8 q52 tC]) (.seq (.oX [.mv p53 q8 tC, .bn p54 .sub q53 (.c (.int .u8 (.ofNat 48))) tC, .mv p8 q54 tC]) (.seq (.seq (.oX [.mv p55 q8 tC, .bn p56 .gtr q55 (.c (.int .u8 (.ofNat 9))) .b]) (.cond q56 (.seq (.oX [.P p57 (.mkif 110 (ci 2)) .v, .mv p2 (ci 0) tI, .mv p3 q57 .v]) .ret) .skip)) (.oX [.mv p58 q6 tI, .bn p59 .mul q58 (ci 10) tI, .mv p60 q8 tC, .P p61 (.conv (.ii .i64) q60) tI, .bn p62 .add q59 q61 tI, .mv p6 q62 tI]))))) (.s (.oX [.bn p63 .add q49 (ci 1) tI, .mv p49 q63 tI])))))
def v57_1 : List Pos := [p0, p5]
def c57_1 : XC := (.sO [.mv p6 (ci 0) tI] (.sj v57_2 (.sO [.mv p46 q0 .s, .o ⟨(some p47), (.e (.sb q46)), none, []⟩ .v, .P p48 (.lenl q47) tI, .mv p49 (ci 0) tI] (.block 0 (.loop v57_4 c57_4b))) c57_2))
def c57_e : XC := (.sO [.mv p2 (ci 0) tI, .mv p3 (.c .nili) .v] (.sO [.mv p11 q0 .s, .P p12 (.lens q11) tI, .mv p4 q12 tI] (.sj v57_0 (.sO [.mv p13 (cb false) .b, .ge p13 (XL.of [.G p13 true p14 (.mov q4) tI, .G p13 true p15 (.bin .lss (ci 0) q14) .b, .G p13 true p16 (.mov q15) .b, .ge p16 (XL.of [.G p16 true p17 (.mov q4) tI, .G p16 true p18 (.bin .lss q17 (ci 10)) .b, .G p13 true p19 (.pick q16 q18 (cb false)) .b]) p19 .b, .P p20 (.pick q13 q19 (cb false)) .b]) p20 .b, .mv p21 q20 .b, .ge p21 (XL.of [.G p21 false p22 (.mov (cb true)) .b, .ge p22 (XL.of [.G p22 true p23 (.mov q4) tI, .G p22 true p24 (.bin .lss (ci 0) q23) .b, .G p22 true p25 (.mov q24) .b, .ge p25 (XL.of [.G p25 true p26 (.mov q4) tI, .G p25 true p27 (.bin .lss q26 (ci 19)) .b, .G p22 true p28 (.pick q25 q27 (cb false)) .b]) p28 .b, .G p21 false p29 (.pick q22 q28 (cb false)) .b]) p29 .b, .P p30 (.pick q21 (cb true) q29) .b]) p30 .b] (.cond q30 (.sO [.mv p31 q0 .s, .mv p5 q31 .s] (.sj v57_1 (.sO [.mv p32 q0 .s, .P p33 (.idxs q32 (ci 0)) tC, .bn p34 .eql q33 (.c (.int .u8 (.ofNat 45))) .b, .mv p35 q34 .b, .ge p35 (XL.of [.G p35 false p36 (.mov q0) .s, .G p35 false p37 (.idxs q36 (ci 0)) tC, .G p35 false p38 (.bin .eql q37 (.c (.int .u8 (.ofNat 43)))) .b, .P p39 (.pick q35 (cb true) q38) .b]) p39 .b] (.cond q39 (.sO [.mv p40 q0 .s, .P p41 (.slice .str q40 (some (ci 1)) none none) .s, .mv p0 q41 .s] (.sO [.mv p42 q0 .s, .P p43 (.lens q42) tI, .bn p44 .lss q43 (ci 1) .b] (.cond q44 (.sO [.P p45 (.mkif 110 (ci 2)) .v, .mv p2 (ci 0) tI, .mv p3 q45 .v] (.s .ret)) (.s .skip)))) (.s .skip))) c57_1)) (.s .skip))) c57_0)))
def x57 : XFn := ⟨[.s], false, [(.tmp p2), (.tmp p3)], c57_e⟩
def e57_0 (k t0 h) := kN k [(p0, (vS t0))] h
def S57_0 (D : CallD) (m : Nat) (t0 : LN) (h : HP) : Res2 :=
 cal D 68 [(vS t0), (vI (Int.ofNat 10)), (vI (Int.ofNat 0))] h fun t72 h6 =>
 extC t72 0 fun vt73 => asI .i64 vt73 fun t73 =>
 extC t72 1 fun t74 =>
 some (.ret (.tup [(vI t73), t74]) h6, .no)
def e57_3 (k t6 h) := kN k [(p6, (vI t6))] h
def S57_3 (D : CallD) (m : Nat) (t6 : Int) (h : HP) : Res2 :=
 some (.ret (.tup [(vI t6), (.nili : AV)]) h, .no)
def e57_2 (k t5 t6 h) := kN k [(p5, (vS t5)), (p6, (vI t6))] h
def S57_2 (D : CallD) (m : Nat) (t5 : LN) (t6 : Int) (h : HP) : Res2 :=
 ixC (vS t5) (vI (Int.ofNat 0)) fun vt65 => asI .u8 vt65 fun t65 =>
 let t66 := eqQ t65 (Int.ofNat 45)
 br t66 (
 let t68 := IntKind.wrap .i64 (0 - t6)
 S57_3 D m t68 h) (
 S57_3 D m t6 h)
def e57_4 (k t5 t6 t47 t48 t49 h) := kN k [(p5, (vS t5)), (p6, (vI t6)), (p47, t47), (p48, (vI t48)), (p49, (vI t49))] h
def S57_4b (D : CallD) (m : Nat) (g4 : LN → Int → AV → Int → Int → HP → Res2) (t5 : LN) (t6 : Int) (t47 : AV) (t48 t49 : Int) (h : HP) : Res2 :=
 let t50 := ltQ t49 t48
 br t50 (
 iasC 1 t47 (vI t49) fun t51 =>
 ldC t51 h fun t52 =>
 let t54 := wrQ .u8 (t52 - (Int.ofNat 48))
 let t56 := ltQ (Int.ofNat 9) t54
 br t56 (
 let t57 := (AV.iface 110 (vI (Int.ofNat 2)))
 some (.ret (.tup [(vI (Int.ofNat 0)), t57]) h, .no)) (
 let t59 := wrQ .i64 (t6 * (Int.ofNat 10))
 let t61 := wrapF .i64 t54
 let t62 := wrQ .i64 (addQ t59 t61)
 let t63 := wrQ .i64 (addQ t49 (Int.ofNat 1))
 g4 t5 t62 t47 t48 t63 h)) (
 S57_2 D m t5 t6 h)
def S57_4 (D : CallD) (m : Nat) : LN → Int → AV → Int → Int → HP → Res2 := nrec (fun _ _ _ _ _ _ => none) (fun _ g => S57_4b D m g) m
def e57_1 (k t0 t5 h) := kN k [(p0, (vS t0)), (p5, (vS t5))] h
def S57_1 (D : CallD) (m : Nat) (t0 t5 : LN) (h : HP) : Res2 :=
 eff (.sb (.c (vS t0))) h fun t47 h7 =>
 lenC t47 fun vt48 => asI .i64 vt48 fun t48 =>
 S57_4 D m t5 (Int.ofNat 0) t47 t48 (Int.ofNat 0) h7
def e57_5 (k t0 h) := kN k [(p0, (vS t0))] h
def S57_5 (D : CallD) (m : Nat) (t0 : LN) (h : HP) : Res2 :=
 let t12 := Int.ofNat (lenL t0)
 obB (some (vB false)) fun t20 =>
 obB (brV t20 (
 some (vB true)) (
 obBV (let t24 := ltQ (Int.ofNat 0) t12
 obBV (brV t24 (
 let t27 := ltQ t12 (Int.ofNat 19)
 some (vB t27)) (
 some (vB false))) fun t28 =>
 some (vB t28)) fun t29 =>
 some (vB t29))) fun t30 =>
 br t30 (
 ixC (vS t0) (vI (Int.ofNat 0)) fun vt33 => asI .u8 vt33 fun t33 =>
 let t34 := eqQ t33 (Int.ofNat 45)
 obB (brV t34 (
 some (vB true)) (
 ixCV (vS t0) (vI (Int.ofNat 0)) fun vt37 => asIV .u8 vt37 fun t37 =>
 let t38 := eqQ t37 (Int.ofNat 43)
 some (vB t38))) fun t39 =>
 br t39 (
 slC (vS t0) (some (vI (Int.ofNat 1))) none fun vt41 => asS vt41 fun t41 =>
 let t43 := Int.ofNat (lenL t41)
 let t44 := ltQ t43 (Int.ofNat 1)
 br t44 (
 let t45 := (AV.iface 110 (vI (Int.ofNat 2)))
 some (.ret (.tup [(vI (Int.ofNat 0)), t45]) h, .no)) (
 S57_1 D m t41 t0 h)) (
 S57_1 D m t0 t0 h)) (
 S57_0 D m t0 h)
def S57 : SFn := fun D m args h u => nou u <| popS args fun t0 args => endA args (S57_5 D m t0 h)
theorem T57_0 (hE : FX x57 D m E) : S57_0 D m = e57_0 (E c57_0 []) := by unfold S57_0; rw [hE c57_0]; kernel_rfl
theorem T57_3 (hE : FX x57 D m E) : S57_3 D m = e57_3 (E c57_3 [.sj v57_0 c57_0]) := by unfold S57_3; rw [hE c57_3]; kernel_rfl
theorem T57_2 (hE : FX x57 D m E) : S57_2 D m = e57_2 (E c57_2 [.sj v57_0 c57_0]) := by unfold S57_2; rw [T57_3 hE, hE c57_2]; kernel_rfl
theorem T57_4b (hE : FX x57 D m E) (G4) : S57_4b D m (e57_4 G4) = e57_4 (E c57_4b [.lp v57_4 G4, .blk 0, .sj v57_2 c57_2, .sj v57_0 c57_0]) := by unfold S57_4b; rw [T57_2 hE, hE c57_4b]; kernel_rfl
theorem T57_4 (hE : FX x57 D m E) : S57_4 D m = e57_4 (nrec (fun _ => none) (fun _ G4 st => E c57_4b [.lp v57_4 G4, .blk 0, .sj v57_2 c57_2, .sj v57_0 c57_0] st) m) :=
  nrec_emb e57_4 (fun _ _ _ _ _ _ => none) (fun g => S57_4b D m g) (fun G4 st => E c57_4b [.lp v57_4 G4, .blk 0, .sj v57_2 c57_2, .sj v57_0 c57_0] st) rfl (fun g => T57_4b hE g) m
theorem T57_1 (hE : FX x57 D m E) : S57_1 D m = e57_1 (E c57_1 [.sj v57_0 c57_0]) := by unfold S57_1; rw [T57_4 hE, hE c57_1]; kernel_rfl
theorem T57_5 (hE : FX x57 D m E) : S57_5 D m = e57_5 (E c57_e []) := by unfold S57_5; rw [T57_1 hE, T57_0 hE, hE c57_e]; kernel_rfl
theorem X57 : XTie S57 x57 := X_of fun D m E hE args h u => by unfold S57; rw [T57_5 hE]; kernel_rfl
/- 59 -/
def c59_e : XC := (.sO [.mv p0 (.c .nils) .v] (.sO [.al p1 (.bsl [(.str [])] 1 [⟨0, 1, (.c (.str [124, 124]))⟩]), .al p2 (.bsl [(.str [])] 1 [⟨0, 1, (.c (.str [38, 38]))⟩]), .al p3 (.bsl [(.str [])] 1 [⟨0, 1, (.c (.str [124]))⟩]), .al p4 (.bsl [(.str [])] 1 [⟨0, 1, (.c (.str [94]))⟩]), .al p5 (.bsl [(.str [])] 1 [⟨0, 1, (.c (.str [38]))⟩]), .al p6 (.bsl [(.str []), (.str [])] 2 [⟨0, 1, (.c (.str [61, 61]))⟩, ⟨1, 1, (.c (.str [33, 61]))⟩]), .al p7 (.bsl [(.str []), (.str []), (.str []), (.str [])] 4 [⟨0, 1, (.c (.str [60]))⟩, ⟨1, 1, (.c (.str [60, 61]))⟩, ⟨2, 1, (.c (.str [62]))⟩, ⟨3, 1, (.c (.str [62, 61]))⟩]), .al p8 (.bsl [(.str []), (.str [])] 2 [⟨0, 1, (.c (.str [60, 60]))⟩, ⟨1, 1, (.c (.str [62, 62]))⟩]), .al p9 (.bsl [(.str []), (.str [])] 2 [⟨0, 1, (.c (.str [43]))⟩, ⟨1, 1, (.c (.str [45]))⟩]), .al p10 (.bsl [(.str []), (.str []), (.str [])] 3 [⟨0, 1, (.c (.str [42]))⟩, ⟨1, 1, (.c (.str [47]))⟩, ⟨2, 1, (.c (.str [37]))⟩]), .al p11 (.bsl [.nils, .nils, .nils, .nils, .nils, .nils, .nils, .nils, .nils, .nils] 10 [⟨0, 1, q1⟩, ⟨1, 1, q2⟩, ⟨2, 1, q3⟩, ⟨3, 1, q4⟩, ⟨4, 1, q5⟩, ⟨5, 1, q6⟩, ⟨6, 1, q7⟩, ⟨7, 1, q8⟩, ⟨8, 1, q9⟩, ⟨9, 1, q10⟩]), .mv p0 q11 .v] (.s .ret)))
def x59 : XFn := ⟨[], false, [(.tmp p0)], c59_e⟩
def e59_0 (k h) := kN k [] h
def S59_0 (D : CallD) (m : Nat) (h : HP) : Res2 :=
 let t1 := AV.slice (HP.nxQ h) 0 1 (.exact 1)
 let h1 := HP.newQ h (.cells true [(vS ([124, 124] : LN))])
 let t2 := AV.slice (HP.nxQ h1) 0 1 (.exact 1)
 let h2 := HP.newQ h1 (.cells true [(vS ([38, 38] : LN))])
 let t3 := AV.slice (HP.nxQ h2) 0 1 (.exact 1)
 let h3 := HP.newQ h2 (.cells true [(vS ([124] : LN))])
 let t4 := AV.slice (HP.nxQ h3) 0 1 (.exact 1)
 let h4 := HP.newQ h3 (.cells true [(vS ([94] : LN))])
 let t5 := AV.slice (HP.nxQ h4) 0 1 (.exact 1)
 let h5 := HP.newQ h4 (.cells true [(vS ([38] : LN))])
 let t6 := AV.slice (HP.nxQ h5) 0 2 (.exact 2)
 let h6 := HP.newQ h5 (.cells true [(vS ([61, 61] : LN)), (vS ([33, 61] : LN))])
 let t7 := AV.slice (HP.nxQ h6) 0 4 (.exact 4)
 let h7 := HP.newQ h6 (.cells true [(vS ([60] : LN)), (vS ([60, 61] : LN)), (vS ([62] : LN)), (vS ([62, 61] : LN))])
 let t8 := AV.slice (HP.nxQ h7) 0 2 (.exact 2)
 let h8 := HP.newQ h7 (.cells true [(vS ([60, 60] : LN)), (vS ([62, 62] : LN))])
 let t9 := AV.slice (HP.nxQ h8) 0 2 (.exact 2)
 let h9 := HP.newQ h8 (.cells true [(vS ([43] : LN)), (vS ([45] : LN))])
 let t10 := AV.slice (HP.nxQ h9) 0 3 (.exact 3)
 let h10 := HP.newQ h9 (.cells true [(vS ([42] : LN)), (vS ([47] : LN)), (vS ([37] : LN))])
 let t11 := AV.slice (HP.nxQ h10) 0 10 (.exact 10)
 let h11 := HP.newQ h10 (.cells true [t1, t2, t3, t4, t5, t6, t7, t8, t9, t10])
 some (.ret t11 h11, .no)
def S59 : SFn := fun D m args h u => nou u <| endA args (S59_0 D m h)
theorem T59_0 (hE : FX x59 D m E) : S59_0 D m = e59_0 (E c59_e []) := by unfold S59_0; rw [hE c59_e]; kernel_rfl
theorem X59 : XTie S59 x59 := X_of fun D m E hE args h u => by unfold S59; rw [T59_0 hE]; kernel_rfl
/- 60 -/
def v60_0 : List Pos := [p2, p5]
def c60_0 : XC := (.sO [.L p79 (.cells 8 q5) .v, .ss 8 q2 q79] (.s .ret))
def v60_1 : List Pos := [p1, p2, p5]
def c60_1b : XC := (.seq (.seq (.oX [.ld p68 q1 .v, .cl p69 22 [q68, (.c (.str [91]))] .b]) (.cond q69 .skip (.exit 0))) (.block 1 (.seq (.ops true (XL.of [.L p70 (.cells 8 q5) .v, .ld p71 q1 .v, .fa p74 7 q5, .ld p75 q74 tI, .o ⟨(some p72), (.call (.fn 30) [q71]), none, [⟨none, .cells 8 q5, p70⟩, ⟨none, .cell q74, p75⟩]⟩ .v, .al p73 (.bsl [(kI 0), (.str []), (.str []), (.int .u32 (.ofNat 0)), (.int .u64 (.ofNat 0)), .nils, (kI 0), (kI 0), (kI 0), (.str []), (.str []), (.int .u32 (.ofNat 0)), (.int .u64 (.ofNat 0)), .nils, (kI 0), (kI 0)] 2 [⟨0, 8, q70⟩, ⟨8, 8, q72⟩]), .P p76 (.build [(kI 0), (.str []), (.str []), (.int .u32 (.ofNat 0)), (.int .u64 (.ofNat 0)), .nils, (kI 0), (kI 0)] [⟨0, 1, (ci 8)⟩, ⟨5, 1, q73⟩, ⟨7, 1, q75⟩]) .v, .ss 8 q5 q76])) (.s (.oX [.ld p77 q1 .v, .cl p78 28 [q77, (.c (.str [93]))] .v])))))
def c60_e : XC := (.sO [.al p1 (.box q0), .al p2 (.new [(kI 0), (.str []), (.str []), (.int .u32 (.ofNat 0)), (.int .u64 (.ofNat 0)), .nils, (kI 0), (kI 0)])] (.sO [.ld p6 q1 .v, .cl p7 44 [q6] .v] (.sO [.P p8 (.mkfn 73 [] [q1]) .v, .o ⟨none, (.defer (.val q8) []), none, []⟩ .v] (.sO [.ld p9 q1 .v, .cl p10 14 [q9] .v, .al p3 (.new [(kI 0), (.str []), (kI 0)]), .ss 3 q3 q10] (.seq (.seq (.oX [.ld p11 q1 .v, .al p12 (.bsl [(.str []), (.str []), (.str []), (.str []), (.str [])] 5 [⟨0, 1, (.c (.str [45]))⟩, ⟨1, 1, (.c (.str [33]))⟩, ⟨2, 1, (.c (.str [126]))⟩, ⟨3, 1, (.c (.str [42]))⟩, ⟨4, 1, (.c (.str [38]))⟩]), .cl p13 26 [q11, q12] .b]) (.cond q13 (.seq (.oX [.ld p14 q1 .v, .P p15 (.nilck q14) .v, .fa p16 1 q15, .ld p17 q16 tI, .bn p18 .add q17 (ci 1) tI, .P p19 (.nilck q14) .v, .fa p20 1 q19, .st q20 q18]) (.seq (.ops true (XL.of [.fa p21 1 q3, .ld p22 q21 .s, .ld p23 q1 .v, .fa p26 2 q3, .ld p27 q26 tI, .o ⟨(some p24), (.call (.fn 60) [q23]), none, [⟨none, .cell q21, p22⟩, ⟨none, .cell q26, p27⟩]⟩ .v, .al p25 (.bsl [(kI 0), (.str []), (.str []), (.int .u32 (.ofNat 0)), (.int .u64 (.ofNat 0)), .nils, (kI 0), (kI 0)] 1 [⟨0, 8, q24⟩]), .P p28 (.build [(kI 0), (.str []), (.str []), (.int .u32 (.ofNat 0)), (.int .u64 (.ofNat 0)), .nils, (kI 0), (kI 0)] [⟨0, 1, (ci 4)⟩, ⟨1, 1, q22⟩, ⟨5, 1, q25⟩, ⟨7, 1, q27⟩]) .v, .ss 8 q2 q28])) .ret)) .skip)) (.seq (.seq (.ops true (XL.of [.ld p29 q1 .v, .al p30 (.bsl [(.str [])] 1 [⟨0, 1, (.c (.str [40]))⟩]), .cl p31 26 [q29, q30] .b, .mv p32 q31 .b, .ge p32 (XL.of [.o ⟨(some p33), (.l (.cell q1)), (some (p32, true)), []⟩ .v, .G p32 true p34 (.nilck q33) .v, .G p32 true p35 (.faddr 0 q34) .v, .o ⟨(some p36), (.l (.cell q35)), (some (p32, true)), []⟩ .v, .o ⟨(some p37), (.l (.cell q1)), (some (p32, true)), []⟩ .v, .G p32 true p38 (.nilck q37) .v, .G p32 true p39 (.faddr 1 q38) .v, .o ⟨(some p40), (.l (.cell q39)), (some (p32, true)), []⟩ tI, .G p32 true p41 (.bin .add q40 (ci 1)) tI, .G p32 true p42 (.iaddr (.sl 3) q36 q41) .v, .G p32 true p43 (.faddr 0 q42) .v, .o ⟨(some p44), (.l (.cell q43)), (some (p32, true)), []⟩ tI, .G p32 true p45 (.bin .eql q44 (ci 5)) .b, .P p46 (.pick q32 q45 (cb false)) .b]) p46 .b])) (.cond q46 (.seq (.oX [.ld p47 q1 .v, .P p48 (.nilck q47) .v, .fa p49 1 q48, .ld p50 q49 tI, .bn p51 .add q50 (ci 1) tI, .P p52 (.nilck q47) .v, .fa p53 1 q52, .st q53 q51]) (.seq (.oX [.ld p54 q1 .v, .cl p55 23 [q54] tI, .mv p4 q55 tI]) (.seq (.oX [.ld p56 q1 .v, .cl p57 28 [q56, (.c (.str [41]))] .v]) (.seq (.ops true (XL.of [.mv p58 q4 tI, .P p59 (.conv (.ii .u32) q58) tW, .ld p60 q1 .v, .fa p63 2 q3, .ld p64 q63 tI, .o ⟨(some p61), (.call (.fn 60) [q60]), none, [⟨none, .cell q63, p64⟩]⟩ .v, .al p62 (.bsl [(kI 0), (.str []), (.str []), (.int .u32 (.ofNat 0)), (.int .u64 (.ofNat 0)), .nils, (kI 0), (kI 0)] 1 [⟨0, 8, q61⟩]), .P p65 (.build [(kI 0), (.str []), (.str []), (.int .u32 (.ofNat 0)), (.int .u64 (.ofNat 0)), .nils, (kI 0), (kI 0)] [⟨0, 1, (ci 9)⟩, ⟨3, 1, q59⟩, ⟨5, 1, q62⟩, ⟨7, 1, q64⟩]) .v, .ss 8 q2 q65])) .ret)))) .skip)) (.sO [.ld p66 q1 .v, .cl p67 74 [q66] .v, .al p5 (.new [(kI 0), (.str []), (.str []), (.int .u32 (.ofNat 0)), (.int .u64 (.ofNat 0)), .nils, (kI 0), (kI 0)]), .ss 8 q5 q67] (.sj v60_0 (.block 0 (.loop v60_1 c60_1b)) c60_0))))))))
def x60 : XFn := ⟨[.v], false, [(.cells 8 p2)], c60_e⟩
def e60_0 (k : St → Res2) (t2 t5 : AV) (h : HP) (df : List ADef) : Res2 := k ⟨mkT [(p2, t2), (p5, t5)], h, df, .no⟩
def S60_0 (D : CallD) (m : Nat) (t2 t5 : AV) (h : HP) (df : List ADef) : Res2 :=
 cellsC 8 t5 h fun t79 =>
 stsC 8 t2 t79 h fun h29 =>
 XFn.endOf x60 D (.ret ⟨(mkT [(p2, t2)]), h29, df, .no⟩)
def e60_1 (k : St → Res2) (t1 t2 t5 : AV) (h : HP) (df : List ADef) : Res2 := k ⟨mkT [(p1, t1), (p2, t2), (p5, t5)], h, df, .no⟩
def S60_1b (D : CallD) (m : Nat) (g1 : AV → AV → AV → HP → List ADef → Res2) (t1 t2 t5 : AV) (h : HP) (df : List ADef) : Res2 :=
 cellC t1 h fun t68 =>
 calC D 22 [t68, (vS ([91] : LN))] h (fun t69 h30 =>
 asB t69 fun t69a =>
 br t69a (
 cellsC 8 t5 h30 fun t70 =>
 cellC t1 h30 fun t71 =>
 faC 7 t5 fun t74 =>
 ldI t74 h30 fun t75 =>
 calC D 30 [t71] h30 (fun t72 h31 =>
 br (again [⟨none, .cells 8 q5, p70⟩, ⟨none, .cell q74, p75⟩] (mkT [(p75, (vI t75)), (p74, t74), (p70, t70), (p5, t5)]) h31) (
 obQ (evA (.bsl [(kI 0), (.str []), (.str []), (.int .u32 (.ofNat 0)), (.int .u64 (.ofNat 0)), .nils, (kI 0), (kI 0), (kI 0), (.str []), (.str []), (.int .u32 (.ofNat 0)), (.int .u64 (.ofNat 0)), .nils, (kI 0), (kI 0)] 2 [⟨0, 8, (.c t70)⟩, ⟨8, 8, (.c t72)⟩]) .leaf) fun r32 =>
 let t73 := vkV r32.2 (HP.nxQ h31)
 let h33 := HP.newQ h31 r32.1
 obQ (evP (.build [(kI 0), (.str []), (.str []), (.int .u32 (.ofNat 0)), (.int .u64 (.ofNat 0)), .nils, (kI 0), (kI 0)] [⟨0, 1, (.c (vI (Int.ofNat 8)))⟩, ⟨5, 1, (.c t73)⟩, ⟨7, 1, (.c (vI t75))⟩]) .leaf) fun t76 =>
 stsC 8 t5 t76 h33 fun h34 =>
 cellC t1 h34 fun t77 =>
 calC D 28 [t77, (vS ([93] : LN))] h34 (fun t78 h35 =>
 g1 t1 t2 t5 h35 df) (fun ch35 gh35 => XFn.endOf x60 D (.panic ch35 ⟨(mkT [(p2, t2)]), gh35, df, .no⟩))) none) (fun ch31 gh31 => XFn.endOf x60 D (.panic ch31 ⟨(mkT [(p2, t2)]), gh31, df, .no⟩))) (
 S60_0 D m t2 t5 h30 df)) (fun ch30 gh30 => XFn.endOf x60 D (.panic ch30 ⟨(mkT [(p2, t2)]), gh30, df, .no⟩))
def S60_1 (D : CallD) (m : Nat) : AV → AV → AV → HP → List ADef → Res2 := nrec (fun _ _ _ _ _ => none) (fun _ g => S60_1b D m g) m
def e60_2 (k t0 h) := kN k [(p0, t0)] h
def S60_2 (D : CallD) (m : Nat) (t0 : AV) (h : HP) : Res2 :=
 let t1 := AV.ptr (HP.nxQ h) 0
 let h3 := HP.newQ h (.cells true (AV.cells t0))
 let t2 := AV.ptr (HP.nxQ h3) 0
 let h4 := HP.newQ h3 (.cells true [(kI 0), (.str []), (.str []), (.int .u32 (.ofNat 0)), (.int .u64 (.ofNat 0)), .nils, (kI 0), (kI 0)])
 cellC t1 h4 fun t6 =>
 calC D 44 [t6] h4 (fun t7 h5 =>
 let t8 := (AV.fn 73 [] [t1])
 let d6 : List ADef := ⟨73, [t1]⟩ :: []
 cellC t1 h5 fun t9 =>
 calC D 14 [t9] h5 (fun t10 h7 =>
 let t3 := AV.ptr (HP.nxQ h7) 0
 let h8 := HP.newQ h7 (.cells true [(kI 0), (.str []), (kI 0)])
 stsC 3 t3 t10 h8 fun h9 =>
 cellC t1 h9 fun t11 =>
 let t12 := AV.slice (HP.nxQ h9) 0 5 (.exact 5)
 let h10 := HP.newQ h9 (.cells true [(vS ([45] : LN)), (vS ([33] : LN)), (vS ([126] : LN)), (vS ([42] : LN)), (vS ([38] : LN))])
 calC D 26 [t11, t12] h10 (fun t13 h11 =>
 asB t13 fun t13a =>
 br t13a (
 cellC t1 h11 fun t14 =>
 nilckC t14 fun t15 =>
 faC 1 t15 fun t16 =>
 ldI t16 h11 fun t17 =>
 let t18 := wrQ .i64 (addQ t17 (Int.ofNat 1))
 nilckC t14 fun t19 =>
 faC 1 t19 fun t20 =>
 stoC t20 (vI t18) h11 fun h12 =>
 let t21 := (AV.ptr (HP.nxQ h7) (Nat.add 0 1))
 ldS t21 h12 fun t22 =>
 cellC t1 h12 fun t23 =>
 let t26 := (AV.ptr (HP.nxQ h7) (Nat.add 0 2))
 ldI t26 h12 fun t27 =>
 calC D 60 [t23] h12 (fun t24 h13 =>
 br (again [⟨none, .cell q21, p22⟩, ⟨none, .cell q26, p27⟩] (mkT [(p27, (vI t27)), (p26, t26), (p22, (vS t22)), (p21, t21)]) h13) (
 obQ (evA (.bsl [(kI 0), (.str []), (.str []), (.int .u32 (.ofNat 0)), (.int .u64 (.ofNat 0)), .nils, (kI 0), (kI 0)] 1 [⟨0, 8, (.c t24)⟩]) .leaf) fun r14 =>
 let t25 := vkV r14.2 (HP.nxQ h13)
 let h15 := HP.newQ h13 r14.1
 obQ (evP (.build [(kI 0), (.str []), (.str []), (.int .u32 (.ofNat 0)), (.int .u64 (.ofNat 0)), .nils, (kI 0), (kI 0)] [⟨0, 1, (.c (vI (Int.ofNat 4)))⟩, ⟨1, 1, (.c (vS t22))⟩, ⟨5, 1, (.c t25)⟩, ⟨7, 1, (.c (vI t27))⟩]) .leaf) fun t28 =>
 stsC 8 t2 t28 h15 fun h16 =>
 XFn.endOf x60 D (.ret ⟨(mkT [(p2, t2)]), h16, d6, .no⟩)) none) (fun ch13 gh13 => XFn.endOf x60 D (.panic ch13 ⟨(mkT [(p2, t2)]), gh13, d6, .no⟩))) (
 cellC t1 h11 fun t29 =>
 let t30 := AV.slice (HP.nxQ h11) 0 1 (.exact 1)
 let h17 := HP.newQ h11 (.cells true [(vS ([40] : LN))])
 calC D 26 [t29, t30] h17 (fun t31 h18 =>
 asB t31 fun t31a =>
 obB (brV t31a (
 cellCV t1 h18 fun t33 =>
 nilckCV t33 fun t34 =>
 faCV 0 t34 fun t35 =>
 cellCV t35 h18 fun t36 =>
 cellCV t1 h18 fun t37 =>
 nilckCV t37 fun t38 =>
 faCV 1 t38 fun t39 =>
 ldIV t39 h18 fun t40 =>
 let t41 := wrQ .i64 (addQ t40 (Int.ofNat 1))
 iasCV 3 t36 (vI t41) fun t42 =>
 faCV 0 t42 fun t43 =>
 ldIV t43 h18 fun t44 =>
 let t45 := eqQ t44 (Int.ofNat 5)
 some (vB t45)) (
 some (vB false))) fun t46 =>
 br t46 (
 cellC t1 h18 fun t47 =>
 nilckC t47 fun t48 =>
 faC 1 t48 fun t49 =>
 ldI t49 h18 fun t50 =>
 let t51 := wrQ .i64 (addQ t50 (Int.ofNat 1))
 nilckC t47 fun t52 =>
 faC 1 t52 fun t53 =>
 stoC t53 (vI t51) h18 fun h19 =>
 cellC t1 h19 fun t54 =>
 calC D 23 [t54] h19 (fun t55 h20 =>
 asI .i64 t55 fun t55a =>
 cellC t1 h20 fun t56 =>
 calC D 28 [t56, (vS ([41] : LN))] h20 (fun t57 h21 =>
 let t59 := wrapF .u32 t55a
 cellC t1 h21 fun t60 =>
 let t63 := (AV.ptr (HP.nxQ h7) (Nat.add 0 2))
 ldI t63 h21 fun t64 =>
 calC D 60 [t60] h21 (fun t61 h22 =>
 br (again [⟨none, .cell q63, p64⟩] (mkT [(p64, (vI t64)), (p63, t63)]) h22) (
 obQ (evA (.bsl [(kI 0), (.str []), (.str []), (.int .u32 (.ofNat 0)), (.int .u64 (.ofNat 0)), .nils, (kI 0), (kI 0)] 1 [⟨0, 8, (.c t61)⟩]) .leaf) fun r23 =>
 let t62 := vkV r23.2 (HP.nxQ h22)
 let h24 := HP.newQ h22 r23.1
 obQ (evP (.build [(kI 0), (.str []), (.str []), (.int .u32 (.ofNat 0)), (.int .u64 (.ofNat 0)), .nils, (kI 0), (kI 0)] [⟨0, 1, (.c (vI (Int.ofNat 9)))⟩, ⟨3, 1, (.c (vW t59))⟩, ⟨5, 1, (.c t62)⟩, ⟨7, 1, (.c (vI t64))⟩]) .leaf) fun t65 =>
 stsC 8 t2 t65 h24 fun h25 =>
 XFn.endOf x60 D (.ret ⟨(mkT [(p2, t2)]), h25, d6, .no⟩)) none) (fun ch22 gh22 => XFn.endOf x60 D (.panic ch22 ⟨(mkT [(p2, t2)]), gh22, d6, .no⟩))) (fun ch21 gh21 => XFn.endOf x60 D (.panic ch21 ⟨(mkT [(p2, t2)]), gh21, d6, .no⟩))) (fun ch20 gh20 => XFn.endOf x60 D (.panic ch20 ⟨(mkT [(p2, t2)]), gh20, d6, .no⟩))) (
 cellC t1 h18 fun t66 =>
 calC D 74 [t66] h18 (fun t67 h26 =>
 let t5 := AV.ptr (HP.nxQ h26) 0
 let h27 := HP.newQ h26 (.cells true [(kI 0), (.str []), (.str []), (.int .u32 (.ofNat 0)), (.int .u64 (.ofNat 0)), .nils, (kI 0), (kI 0)])
 stsC 8 t5 t67 h27 fun h28 =>
 S60_1 D m t1 t2 t5 h28 d6) (fun ch26 gh26 => XFn.endOf x60 D (.panic ch26 ⟨(mkT [(p2, t2)]), gh26, d6, .no⟩)))) (fun ch18 gh18 => XFn.endOf x60 D (.panic ch18 ⟨(mkT [(p2, t2)]), gh18, d6, .no⟩)))) (fun ch11 gh11 => XFn.endOf x60 D (.panic ch11 ⟨(mkT [(p2, t2)]), gh11, d6, .no⟩))) (fun ch7 gh7 => XFn.endOf x60 D (.panic ch7 ⟨(mkT [(p2, t2)]), gh7, d6, .no⟩))) (fun ch5 gh5 => XFn.endOf x60 D (.panic ch5 ⟨(mkT [(p2, t2)]), gh5, [], .no⟩))
def S60 : SFn := fun D m args h u => nou u <| popV args fun t0 args => endA args (S60_2 D m t0 h)
theorem T60_0 (hE : FX x60 D m E) : S60_0 D m = e60_0 (E c60_0 []) := by unfold S60_0; rw [hE c60_0]; kernel_rfl
theorem T60_1b (hE : FX x60 D m E) (G1) : S60_1b D m (e60_1 G1) = e60_1 (E c60_1b [.lp v60_1 G1, .blk 0, .sj v60_0 c60_0]) := by unfold S60_1b; rw [T60_0 hE, hE c60_1b]; kernel_rfl
theorem T60_1 (hE : FX x60 D m E) : S60_1 D m = e60_1 (nrec (fun _ => none) (fun _ G1 st => E c60_1b [.lp v60_1 G1, .blk 0, .sj v60_0 c60_0] st) m) :=
  nrec_emb e60_1 (fun _ _ _ _ _ => none) (fun g => S60_1b D m g) (fun G1 st => E c60_1b [.lp v60_1 G1, .blk 0, .sj v60_0 c60_0] st) rfl (fun g => T60_1b hE g) m
theorem T60_2 (hE : FX x60 D m E) : S60_2 D m = e60_2 (E c60_e []) := by unfold S60_2; rw [T60_1 hE, hE c60_e]; kernel_rfl
theorem X60 : XTie S60 x60 := X_of fun D m E hE args h u => by unfold S60; rw [T60_2 hE]; kernel_rfl
/- 67 -/
def v67_4 : List Pos := [p13]
def c67_4 : XC := (.sO [.mv p171 q13 (.i .u64), .mv p6 q171 (.i .u64), .mv p7 (.c .nili) .v] (.s .ret))
def c67_6 : XC := (.cond q169 (.sO [.P p170 (.mkif 110 (ci 2)) .v, .mv p6 (.c (.int .u64 (.ofNat 0))) (.i .u64), .mv p7 q170 .v] (.s .ret)) (.s .skip))
def l67_5 : XL := (XL.of [])
def v67_3 : List Pos := [p9, p12, p13]
def c67_3 : XC := (.sj v67_4 (.opq false (XL.pre [.mv p164 q12 .b, .mv p165 q164 .b, .sp p165, .G p165 true p166 (.mov q9) .s, .o ⟨(some p167), (.call (.fn 81) [q166]), (some (p165, true)), []⟩ .b, .G p165 true p168 (.un .not q167) .b, .P p169 (.pick q165 q168 (cb false)) .b, .jn p165 [p13, p169]] l67_5) c67_6) c67_4)
def v67_8 : List Pos := [p1, p8, p9, p10, p11, p12, p13, p99, p100, p101]
def c67_8 : XC := (.s (.oX [.bn p163 .add q101 (ci 1) tI, .mv p101 q163 tI]))
def v67_9 : List Pos := [p1, p8, p9, p10, p11, p12, p13, p16, p99, p100, p101]
def c67_9 : XC := (.seq (.seq (.oX [.mv p134 q16 tC, .mv p135 q1 tI, .P p136 (.conv (.ii .u8) q135) tC, .bn p137 .geq q134 q136 .b]) (.cond q137 (.seq (.oX [.P p138 (.mkif 110 (ci 2)) .v, .mv p6 (.c (.int .u64 (.ofNat 0))) (.i .u64), .mv p7 q138 .v]) .ret) .skip)) (.seq (.seq (.oX [.mv p139 q13 (.i .u64), .mv p140 q10 (.i .u64), .bn p141 .geq q139 q140 .b]) (.cond q141 (.seq (.oX [.mv p142 q11 (.i .u64), .P p143 (.mkif 110 (ci 1)) .v, .mv p6 q142 (.i .u64), .mv p7 q143 .v]) .ret) .skip)) (.sO [.mv p144 q13 (.i .u64), .mv p145 q1 tI, .P p146 (.conv (.ii .u64) q145) (.i .u64), .bn p147 .mul q144 q146 (.i .u64), .mv p13 q147 (.i .u64)] (.sO [.mv p148 q13 (.i .u64), .mv p149 q16 tC, .P p150 (.conv (.ii .u64) q149) (.i .u64), .bn p151 .add q148 q150 (.i .u64), .mv p17 q151 (.i .u64)] (.seq (.seq (.oX [.mv p152 q17 (.i .u64), .mv p153 q13 (.i .u64), .bn p154 .lss q152 q153 .b, .mv p155 q154 .b, .ge p155 (XL.of [.G p155 false p156 (.mov q17) (.i .u64), .G p155 false p157 (.mov q11) (.i .u64), .G p155 false p158 (.bin .gtr q156 q157) .b, .P p159 (.pick q155 (cb true) q158) .b]) p159 .b]) (.cond q159 (.seq (.oX [.mv p160 q11 (.i .u64), .P p161 (.mkif 110 (ci 1)) .v, .mv p6 q160 (.i .u64), .mv p7 q161 .v]) .ret) .skip)) (.s (.oX [.mv p162 q17 (.i .u64), .mv p13 q162 (.i .u64)])))))))
def c67_11 : XC := (.cond q121 (.s (.oX [.mv p130 q15 tC, .cl p131 80 [q130] tC, .bn p132 .sub q131 (.c (.int .u8 (.ofNat 97))) tC, .bn p133 .add q132 (.c (.int .u8 (.ofNat 10))) tC, .mv p16 q133 tC])) (.sO [.P p105 (.mkif 110 (ci 2)) .v, .mv p6 (.c (.int .u64 (.ofNat 0))) (.i .u64), .mv p7 q105 .v] (.s .ret)))
def l67_10 : XL := (XL.of [.mv p121 q129 .b])
def v67_7 : List Pos := [p1, p8, p9, p10, p11, p12, p13, p99, p100, p101]
def c67_7b : XC := (.sO [.bn p102 .lss q101 q100 .b] (.seq (.cond q102 .skip (.exit 3)) (.sj v67_8 (.block 4 (.sO [.P p103 (.iaddr (.sl 1) q99 q101) .v, .ld p104 q103 tC, .mv p15 q104 tC] (.sO [.mv p16 (.c (.int .u8 (.ofNat 0))) tC] (.sj v67_9 (.block 5 (.sO [.mv p107 q15 tC, .bn p108 .eql q107 (.c (.int .u8 (.ofNat 95))) .b, .mv p109 q108 .b, .ge p109 (XL.of [.G p109 true p110 (.mov q8) .b, .P p111 (.pick q109 q110 (cb false)) .b]) p111 .b, .mv p106 q111 .b] (.cond q106 (.sO [.mv p12 (cb true) .b] (.s (.exit 4))) (.sO [.mv p113 q15 tC, .bn p114 .leq (.c (.int .u8 (.ofNat 48))) q113 .b, .mv p115 q114 .b, .ge p115 (XL.of [.G p115 true p116 (.mov q15) tC, .G p115 true p117 (.bin .leq q116 (.c (.int .u8 (.ofNat 57)))) .b, .P p118 (.pick q115 q117 (cb false)) .b]) p118 .b, .mv p112 q118 .b] (.cond q112 (.s (.oX [.mv p119 q15 tC, .bn p120 .sub q119 (.c (.int .u8 (.ofNat 48))) tC, .mv p16 q120 tC])) (.opq false (XL.pre [.mv p122 q15 tC, .cl p123 80 [q122] tC, .bn p124 .leq (.c (.int .u8 (.ofNat 97))) q123 .b, .mv p125 q124 .b, .sp p125, .G p125 true p126 (.mov q15) tC, .o ⟨(some p127), (.call (.fn 80) [q126]), (some (p125, true)), []⟩ tC, .G p125 true p128 (.bin .leq q127 (.c (.int .u8 (.ofNat 122)))) .b, .P p129 (.pick q125 q128 (cb false)) .b, .jn p125 [p1, p8, p9, p10, p11, p12, p13, p15, p99, p100, p101, p129]] l67_10) c67_11)))))) c67_9)))) c67_8)))
def v67_2 : List Pos := [p0, p1, p2, p8, p9, p10]
def c67_2 : XC := (.sO [.mv p94 q2 tI, .P p95 (.conv (.ii .u64) q94) (.i .u64), .bn p96 .shl (.c (.int .u64 (.ofNat 1))) q95 (.i .u64), .bn p97 .sub q96 (.c (.int .u64 (.ofNat 1))) (.i .u64), .mv p11 q97 (.i .u64)] (.sO [.mv p12 (cb false) .b] (.sO [.mv p13 (.c (.int .u64 (.ofNat 0))) (.i .u64)] (.sj v67_3 (.sO [.mv p98 q0 .s, .o ⟨(some p99), (.e (.sb q98)), none, []⟩ .v, .P p100 (.lenl q99) tI, .mv p101 (ci 0) tI] (.block 3 (.loop v67_7 c67_7b))) c67_3))))
def v67_1 : List Pos := [p0, p1, p2, p8, p9]
def c67_1 : XC := (.sO [.mv p10 (.c (.int .u64 (.ofNat 0))) (.i .u64)] (.sj v67_2 (.sO [.mv p85 q1 tI] (.block 2 (.sO [.bn p91 .eql q85 (ci 10) .b, .mv p90 q91 .b] (.cond q90 (.s (.oX [.mv p10 (.c (.int .u64 (.ofNat 1844674407370955162))) (.i .u64)])) (.sO [.bn p93 .eql q85 (ci 16) .b, .mv p92 q93 .b] (.cond q92 (.s (.oX [.mv p10 (.c (.int .u64 (.ofNat 1152921504606846976))) (.i .u64)])) (.s (.oX [.mv p86 q1 tI, .P p87 (.conv (.ii .u64) q86) (.i .u64), .bn p88 .quo (.c (.int .u64 (.ofNat 18446744073709551615))) q87 (.i .u64), .bn p89 .add q88 (.c (.int .u64 (.ofNat 1))) (.i .u64), .mv p10 q89 (.i .u64)])))))))) c67_2))
def v67_0 : List Pos := [p0, p1, p2, p8, p9]
def c67_0 : XC := (.sj v67_1 (.sO [.mv p76 q2 tI, .bn p77 .eql q76 (ci 0) .b] (.cond q77 (.s (.oX [.mv p2 (ci 64) tI])) (.sO [.mv p78 q2 tI, .bn p79 .lss q78 (ci 0) .b, .mv p80 q79 .b, .ge p80 (XL.of [.G p80 false p81 (.mov q2) tI, .G p80 false p82 (.bin .gtr q81 (ci 64)) .b, .P p83 (.pick q80 (cb true) q82) .b]) p83 .b] (.cond q83 (.sO [.P p84 (.mkif 110 (ci 4)) .v, .mv p6 (.c (.int .u64 (.ofNat 0))) (.i .u64), .mv p7 q84 .v] (.s .ret)) (.s .skip))))) c67_1)
def c67_15 : XC := (.cond q64 (.sO [.mv p1 (ci 16) tI] (.s (.oX [.mv p74 q0 .s, .P p75 (.slice .str q74 (some (ci 2)) none none) .s, .mv p0 q75 .s]))) (.sO [.mv p1 (ci 8) tI] (.s (.oX [.mv p38 q0 .s, .P p39 (.slice .str q38 (some (ci 1)) none none) .s, .mv p0 q39 .s]))))
def l67_14 : XL := (XL.of [.mv p64 q73 .b])
def c67_16 : XC := (.cond q52 (.sO [.mv p1 (ci 8) tI] (.s (.oX [.mv p62 q0 .s, .P p63 (.slice .str q62 (some (ci 2)) none none) .s, .mv p0 q63 .s]))) (.opq false (XL.pre [.mv p65 q0 .s, .P p66 (.lens q65) tI, .bn p67 .geq q66 (ci 3) .b, .mv p68 q67 .b, .sp p68, .G p68 true p69 (.mov q0) .s, .G p68 true p70 (.idxs q69 (ci 1)) tC, .o ⟨(some p71), (.call (.fn 80) [q70]), (some (p68, true)), []⟩ tC, .G p68 true p72 (.bin .eql q71 (.c (.int .u8 (.ofNat 120)))) .b, .P p73 (.pick q68 q72 (cb false)) .b, .jn p68 [p0, p2, p8, p9, p73]] l67_14) c67_15))
def l67_13 : XL := (XL.of [.mv p52 q61 .b])
def c67_17 : XC := (.cond q40 (.sO [.mv p1 (ci 2) tI] (.s (.oX [.mv p50 q0 .s, .P p51 (.slice .str q50 (some (ci 2)) none none) .s, .mv p0 q51 .s]))) (.opq false (XL.pre [.mv p53 q0 .s, .P p54 (.lens q53) tI, .bn p55 .geq q54 (ci 3) .b, .mv p56 q55 .b, .sp p56, .G p56 true p57 (.mov q0) .s, .G p56 true p58 (.idxs q57 (ci 1)) tC, .o ⟨(some p59), (.call (.fn 80) [q58]), (some (p56, true)), []⟩ tC, .G p56 true p60 (.bin .eql q59 (.c (.int .u8 (.ofNat 111)))) .b, .P p61 (.pick q56 q60 (cb false)) .b, .jn p56 [p0, p2, p8, p9, p61]] l67_13) c67_16))
def l67_12 : XL := (XL.of [.mv p40 q49 .b])
def c67_e : XC := (.sO [.mv p6 (.c (.int .u64 (.ofNat 0))) (.i .u64), .mv p7 (.c .nili) .v] (.seq (.seq (.oX [.mv p18 q0 .s, .bn p19 .eql q18 (.c (.str [])) .b]) (.cond q19 (.seq (.oX [.P p20 (.mkif 110 (ci 2)) .v, .mv p6 (.c (.int .u64 (.ofNat 0))) (.i .u64), .mv p7 q20 .v]) .ret) .skip)) (.sO [.mv p21 q1 tI, .bn p22 .eql q21 (ci 0) .b, .mv p8 q22 .b] (.sO [.mv p23 q0 .s, .mv p9 q23 .s] (.sj v67_0 (.block 0 (.sO [.mv p26 q1 tI, .bn p27 .leq (ci 2) q26 .b, .mv p28 q27 .b, .ge p28 (XL.of [.G p28 true p29 (.mov q1) tI, .G p28 true p30 (.bin .leq q29 (ci 36)) .b, .P p31 (.pick q28 q30 (cb false)) .b]) p31 .b, .mv p25 q31 .b] (.cond q25 (.s .skip) (.sO [.mv p33 q1 tI, .bn p34 .eql q33 (ci 0) .b, .mv p32 q34 .b] (.cond q32 (.sO [.mv p1 (ci 10) tI] (.sO [.mv p35 q0 .s, .P p36 (.idxs q35 (ci 0)) tC, .bn p37 .eql q36 (.c (.int .u8 (.ofNat 48))) .b] (.cond q37 (.block 1 (.opq false (XL.pre [.mv p41 q0 .s, .P p42 (.lens q41) tI, .bn p43 .geq q42 (ci 3) .b, .mv p44 q43 .b, .sp p44, .G p44 true p45 (.mov q0) .s, .G p44 true p46 (.idxs q45 (ci 1)) tC, .o ⟨(some p47), (.call (.fn 80) [q46]), (some (p44, true)), []⟩ tC, .G p44 true p48 (.bin .eql q47 (.c (.int .u8 (.ofNat 98)))) .b, .P p49 (.pick q44 q48 (cb false)) .b, .jn p44 [p0, p2, p8, p9, p49]] l67_12) c67_17)) (.s .skip)))) (.sO [.P p24 (.mkif 110 (ci 3)) .v, .mv p6 (.c (.int .u64 (.ofNat 0))) (.i .u64), .mv p7 q24 .v] (.s .ret))))))) c67_0)))))
def x67 : XFn := ⟨[.s, tI, tI], false, [(.tmp p6), (.tmp p7)], c67_e⟩
def e67_4 (k t13 h) := kN k [(p13, (AV.int .u64 t13))] h
def S67_4 (D : CallD) (m : Nat) (t13 : Int) (h : HP) : Res2 :=
 some (.ret (.tup [(AV.int .u64 t13), (.nili : AV)]) h, .no)
def e67_5 (k t13 t169 h) := kN k [(p13, (AV.int .u64 t13)), (p169, (vB t169))] h
def S67_5 (D : CallD) (m : Nat) (t13 : Int) (t169 : Bool) (h : HP) : Res2 :=
 br t169 (
 let t170 := (AV.iface 110 (vI (Int.ofNat 2)))
 some (.ret (.tup [(AV.int .u64 (Int.ofNat 0)), t170]) h, .no)) (
 S67_4 D m t13 h)
def e67_3 (k t9 t12 t13 h) := kN k [(p9, (vS t9)), (p12, (vB t12)), (p13, (AV.int .u64 t13))] h
def S67_3 (D : CallD) (m : Nat) (t9 : LN) (t12 : Bool) (t13 : Int) (h : HP) : Res2 :=
 br t12 (
 cal D 81 [(vS t9)] h fun t167 h19 =>
 asB t167 fun t167a =>
 let t168 := !t167a
 S67_5 D m t13 t168 h19) (
 S67_5 D m t13 false h)
def e67_8 (k t1 t8 t9 t10 t11 t12 t13 t99 t100 t101 h) := kN k [(p1, (vI t1)), (p8, (vB t8)), (p9, (vS t9)), (p10, (AV.int .u64 t10)), (p11, (AV.int .u64 t11)), (p12, (vB t12)), (p13, (AV.int .u64 t13)), (p99, t99), (p100, (vI t100)), (p101, (vI t101))] h
def S67_8 (D : CallD) (m : Nat) (g7 : Int → Bool → LN → Int → Int → Bool → Int → AV → Int → Int → HP → Res2) (t1 : Int) (t8 : Bool) (t9 : LN) (t10 t11 : Int) (t12 : Bool) (t13 : Int) (t99 : AV) (t100 t101 : Int) (h : HP) : Res2 :=
 let t163 := wrQ .i64 (addQ t101 (Int.ofNat 1))
 g7 t1 t8 t9 t10 t11 t12 t13 t99 t100 t163 h
def e67_9 (k t1 t8 t9 t10 t11 t12 t13 t16 t99 t100 t101 h) := kN k [(p1, (vI t1)), (p8, (vB t8)), (p9, (vS t9)), (p10, (AV.int .u64 t10)), (p11, (AV.int .u64 t11)), (p12, (vB t12)), (p13, (AV.int .u64 t13)), (p16, (vC t16)), (p99, t99), (p100, (vI t100)), (p101, (vI t101))] h
def S67_9 (D : CallD) (m : Nat) (g7 : Int → Bool → LN → Int → Int → Bool → Int → AV → Int → Int → HP → Res2) (t1 : Int) (t8 : Bool) (t9 : LN) (t10 t11 : Int) (t12 : Bool) (t13 t16 : Int) (t99 : AV) (t100 t101 : Int) (h : HP) : Res2 :=
 let t136 := wrapF .u8 t1
 let t137 := leQ t136 t16
 br t137 (
 let t138 := (AV.iface 110 (vI (Int.ofNat 2)))
 some (.ret (.tup [(AV.int .u64 (Int.ofNat 0)), t138]) h, .no)) (
 let t141 := leQ t10 t13
 br t141 (
 let t143 := (AV.iface 110 (vI (Int.ofNat 1)))
 some (.ret (.tup [(AV.int .u64 t11), t143]) h, .no)) (
 let t146 := wrapF .u64 t1
 let t147 := wrQ .u64 (t13 * t146)
 let t150 := wrapF .u64 t16
 let t151 := wrQ .u64 (addQ t147 t150)
 let t154 := ltQ t151 t147
 obB (brV t154 (
 some (vB true)) (
 let t158 := ltQ t11 t151
 some (vB t158))) fun t159 =>
 br t159 (
 let t161 := (AV.iface 110 (vI (Int.ofNat 1)))
 some (.ret (.tup [(AV.int .u64 t11), t161]) h, .no)) (
 S67_8 D m g7 t1 t8 t9 t10 t11 t12 t151 t99 t100 t101 h)))
def e67_10 (k t1 t8 t9 t10 t11 t12 t13 t15 t99 t100 t101 t129 h) := kN k [(p1, (vI t1)), (p8, (vB t8)), (p9, (vS t9)), (p10, (AV.int .u64 t10)), (p11, (AV.int .u64 t11)), (p12, (vB t12)), (p13, (AV.int .u64 t13)), (p15, (vC t15)), (p99, t99), (p100, (vI t100)), (p101, (vI t101)), (p129, (vB t129))] h
def S67_10 (D : CallD) (m : Nat) (g7 : Int → Bool → LN → Int → Int → Bool → Int → AV → Int → Int → HP → Res2) (t1 : Int) (t8 : Bool) (t9 : LN) (t10 t11 : Int) (t12 : Bool) (t13 t15 : Int) (t99 : AV) (t100 t101 : Int) (t129 : Bool) (h : HP) : Res2 :=
 br t129 (
 cal D 80 [(vC t15)] h fun t131 h23 =>
 asI .u8 t131 fun t131a =>
 let t132 := wrQ .u8 (t131a - (Int.ofNat 97))
 let t133 := wrQ .u8 (addQ t132 (Int.ofNat 10))
 S67_9 D m g7 t1 t8 t9 t10 t11 t12 t13 t133 t99 t100 t101 h23) (
 let t105 := (AV.iface 110 (vI (Int.ofNat 2)))
 some (.ret (.tup [(AV.int .u64 (Int.ofNat 0)), t105]) h, .no))
def e67_7 (k t1 t8 t9 t10 t11 t12 t13 t99 t100 t101 h) := kN k [(p1, (vI t1)), (p8, (vB t8)), (p9, (vS t9)), (p10, (AV.int .u64 t10)), (p11, (AV.int .u64 t11)), (p12, (vB t12)), (p13, (AV.int .u64 t13)), (p99, t99), (p100, (vI t100)), (p101, (vI t101))] h
def S67_7b (D : CallD) (m : Nat) (g7 : Int → Bool → LN → Int → Int → Bool → Int → AV → Int → Int → HP → Res2) (t1 : Int) (t8 : Bool) (t9 : LN) (t10 t11 : Int) (t12 : Bool) (t13 : Int) (t99 : AV) (t100 t101 : Int) (h : HP) : Res2 :=
 let t102 := ltQ t101 t100
 br t102 (
 iasC 1 t99 (vI t101) fun t103 =>
 ldC t103 h fun t104 =>
 let t108 := eqQ t104 (Int.ofNat 95)
 obB (brV t108 (
 some (vB t8)) (
 some (vB false))) fun t111 =>
 br t111 (
 S67_8 D m g7 t1 t8 t9 t10 t11 true t13 t99 t100 t101 h) (
 let t114 := leQ (Int.ofNat 48) t104
 obB (brV t114 (
 let t117 := leQ t104 (Int.ofNat 57)
 some (vB t117)) (
 some (vB false))) fun t118 =>
 br t118 (
 let t120 := wrQ .u8 (t104 - (Int.ofNat 48))
 S67_9 D m g7 t1 t8 t9 t10 t11 t12 t13 t120 t99 t100 t101 h) (
 cal D 80 [(vC t104)] h fun t123 h21 =>
 asI .u8 t123 fun t123a =>
 let t124 := leQ (Int.ofNat 97) t123a
 br t124 (
 cal D 80 [(vC t104)] h21 fun t127 h22 =>
 asI .u8 t127 fun t127a =>
 let t128 := leQ t127a (Int.ofNat 122)
 S67_10 D m g7 t1 t8 t9 t10 t11 t12 t13 t104 t99 t100 t101 t128 h22) (
 S67_10 D m g7 t1 t8 t9 t10 t11 t12 t13 t104 t99 t100 t101 false h21)))) (
 S67_3 D m t9 t12 t13 h)
def S67_7 (D : CallD) (m : Nat) : Int → Bool → LN → Int → Int → Bool → Int → AV → Int → Int → HP → Res2 := nrec (fun _ _ _ _ _ _ _ _ _ _ _ => none) (fun _ g => S67_7b D m g) m
def e67_2 (k t0 t1 t2 t8 t9 t10 h) := kN k [(p0, (vS t0)), (p1, (vI t1)), (p2, (vI t2)), (p8, (vB t8)), (p9, (vS t9)), (p10, (AV.int .u64 t10))] h
def S67_2 (D : CallD) (m : Nat) (t0 : LN) (t1 t2 : Int) (t8 : Bool) (t9 : LN) (t10 : Int) (h : HP) : Res2 :=
 let t95 := wrapF .u64 t2
 obI .u64 (shiftF .shl .u64 (Int.ofNat 1) t95) fun t96 =>
 let t97 := wrQ .u64 (t96 - (Int.ofNat 1))
 eff (.sb (.c (vS t0))) h fun t99 h20 =>
 lenC t99 fun vt100 => asI .i64 vt100 fun t100 =>
 S67_7 D m t1 t8 t9 t10 t97 false (Int.ofNat 0) t99 t100 (Int.ofNat 0) h20
def e67_1 (k t0 t1 t2 t8 t9 h) := kN k [(p0, (vS t0)), (p1, (vI t1)), (p2, (vI t2)), (p8, (vB t8)), (p9, (vS t9))] h
def S67_1 (D : CallD) (m : Nat) (t0 : LN) (t1 t2 : Int) (t8 : Bool) (t9 : LN) (h : HP) : Res2 :=
 let t91 := eqQ t1 (Int.ofNat 10)
 br t91 (
 S67_2 D m t0 t1 t2 t8 t9 (Int.ofNat 1844674407370955162) h) (
 let t93 := eqQ t1 (Int.ofNat 16)
 br t93 (
 S67_2 D m t0 t1 t2 t8 t9 (Int.ofNat 1152921504606846976) h) (
 let t87 := wrapF .u64 t1
 obI .u64 (intBin .quo .u64 (Int.ofNat 18446744073709551615) t87) fun t88 =>
 let t89 := wrQ .u64 (addQ t88 (Int.ofNat 1))
 S67_2 D m t0 t1 t2 t8 t9 t89 h))
def e67_0 (k t0 t1 t2 t8 t9 h) := kN k [(p0, (vS t0)), (p1, (vI t1)), (p2, (vI t2)), (p8, (vB t8)), (p9, (vS t9))] h
def S67_0 (D : CallD) (m : Nat) (t0 : LN) (t1 t2 : Int) (t8 : Bool) (t9 : LN) (h : HP) : Res2 :=
 let t77 := eqQ t2 (Int.ofNat 0)
 br t77 (
 S67_1 D m t0 t1 (Int.ofNat 64) t8 t9 h) (
 let t79 := ltQ t2 (Int.ofNat 0)
 obB (brV t79 (
 some (vB true)) (
 let t82 := ltQ (Int.ofNat 64) t2
 some (vB t82))) fun t83 =>
 br t83 (
 let t84 := (AV.iface 110 (vI (Int.ofNat 4)))
 some (.ret (.tup [(AV.int .u64 (Int.ofNat 0)), t84]) h, .no)) (
 S67_1 D m t0 t1 t2 t8 t9 h))
def e67_14 (k t0 t2 t8 t9 t73 h) := kN k [(p0, (vS t0)), (p2, (vI t2)), (p8, (vB t8)), (p9, (vS t9)), (p73, (vB t73))] h
def S67_14 (D : CallD) (m : Nat) (t0 : LN) (t2 : Int) (t8 : Bool) (t9 : LN) (t73 : Bool) (h : HP) : Res2 :=
 br t73 (
 slC (vS t0) (some (vI (Int.ofNat 2))) none fun vt75 => asS vt75 fun t75 =>
 S67_0 D m t75 (Int.ofNat 16) t2 t8 t9 h) (
 slC (vS t0) (some (vI (Int.ofNat 1))) none fun vt39 => asS vt39 fun t39 =>
 S67_0 D m t39 (Int.ofNat 8) t2 t8 t9 h)
def e67_13 (k t0 t2 t8 t9 t61 h) := kN k [(p0, (vS t0)), (p2, (vI t2)), (p8, (vB t8)), (p9, (vS t9)), (p61, (vB t61))] h
def S67_13 (D : CallD) (m : Nat) (t0 : LN) (t2 : Int) (t8 : Bool) (t9 : LN) (t61 : Bool) (h : HP) : Res2 :=
 br t61 (
 slC (vS t0) (some (vI (Int.ofNat 2))) none fun vt63 => asS vt63 fun t63 =>
 S67_0 D m t63 (Int.ofNat 8) t2 t8 t9 h) (
 let t66 := Int.ofNat (lenL t0)
 let t67 := leQ (Int.ofNat 3) t66
 br t67 (
 ixC (vS t0) (vI (Int.ofNat 1)) fun vt70 => asI .u8 vt70 fun t70 =>
 cal D 80 [(vC t70)] h fun t71 h26 =>
 asI .u8 t71 fun t71a =>
 let t72 := eqQ t71a (Int.ofNat 120)
 S67_14 D m t0 t2 t8 t9 t72 h26) (
 S67_14 D m t0 t2 t8 t9 false h))
def e67_12 (k t0 t2 t8 t9 t49 h) := kN k [(p0, (vS t0)), (p2, (vI t2)), (p8, (vB t8)), (p9, (vS t9)), (p49, (vB t49))] h
def S67_12 (D : CallD) (m : Nat) (t0 : LN) (t2 : Int) (t8 : Bool) (t9 : LN) (t49 : Bool) (h : HP) : Res2 :=
 br t49 (
 slC (vS t0) (some (vI (Int.ofNat 2))) none fun vt51 => asS vt51 fun t51 =>
 S67_0 D m t51 (Int.ofNat 2) t2 t8 t9 h) (
 let t54 := Int.ofNat (lenL t0)
 let t55 := leQ (Int.ofNat 3) t54
 br t55 (
 ixC (vS t0) (vI (Int.ofNat 1)) fun vt58 => asI .u8 vt58 fun t58 =>
 cal D 80 [(vC t58)] h fun t59 h25 =>
 asI .u8 t59 fun t59a =>
 let t60 := eqQ t59a (Int.ofNat 111)
 S67_13 D m t0 t2 t8 t9 t60 h25) (
 S67_13 D m t0 t2 t8 t9 false h))
def e67_18 (k t0 t1 t2 h) := kN k [(p0, (vS t0)), (p1, (vI t1)), (p2, (vI t2))] h
def S67_18 (D : CallD) (m : Nat) (t0 : LN) (t1 t2 : Int) (h : HP) : Res2 :=
 let t19 := eqL t0 ([] : LN)
 br t19 (
 let t20 := (AV.iface 110 (vI (Int.ofNat 2)))
 some (.ret (.tup [(AV.int .u64 (Int.ofNat 0)), t20]) h, .no)) (
 let t22 := eqQ t1 (Int.ofNat 0)
 let t27 := leQ (Int.ofNat 2) t1
 obB (brV t27 (
 let t30 := leQ t1 (Int.ofNat 36)
 some (vB t30)) (
 some (vB false))) fun t31 =>
 br t31 (
 S67_0 D m t0 t1 t2 t22 t0 h) (
 let t34 := eqQ t1 (Int.ofNat 0)
 br t34 (
 ixC (vS t0) (vI (Int.ofNat 0)) fun vt36 => asI .u8 vt36 fun t36 =>
 let t37 := eqQ t36 (Int.ofNat 48)
 br t37 (
 let t42 := Int.ofNat (lenL t0)
 let t43 := leQ (Int.ofNat 3) t42
 br t43 (
 ixC (vS t0) (vI (Int.ofNat 1)) fun vt46 => asI .u8 vt46 fun t46 =>
 cal D 80 [(vC t46)] h fun t47 h24 =>
 asI .u8 t47 fun t47a =>
 let t48 := eqQ t47a (Int.ofNat 98)
 S67_12 D m t0 t2 t22 t0 t48 h24) (
 S67_12 D m t0 t2 t22 t0 false h)) (
 S67_0 D m t0 (Int.ofNat 10) t2 t22 t0 h)) (
 let t24 := (AV.iface 110 (vI (Int.ofNat 3)))
 some (.ret (.tup [(AV.int .u64 (Int.ofNat 0)), t24]) h, .no))))
def S67 : SFn := fun D m args h u => nou u <| popS args fun t0 args => popI .i64 args fun t1 args => popI .i64 args fun t2 args => endA args (S67_18 D m t0 t1 t2 h)
theorem T67_4 (hE : FX x67 D m E) : S67_4 D m = e67_4 (E c67_4 []) := by unfold S67_4; rw [hE c67_4]; kernel_rfl
theorem T67_5 (hE : FX x67 D m E) : S67_5 D m = e67_5 (E (.opq false l67_5 c67_6) [.sj v67_4 c67_4]) := by unfold S67_5; rw [T67_4 hE, hE (.opq false l67_5 c67_6)]; kernel_rfl
theorem T67_3 (hE : FX x67 D m E) : S67_3 D m = e67_3 (E c67_3 []) := by unfold S67_3; rw [T67_5 hE, hE c67_3]; kernel_rfl
theorem T67_8 (hE : FX x67 D m E) (G7) : S67_8 D m (e67_7 G7) = e67_8 (E c67_8 [.lp v67_7 G7, .blk 3, .sj v67_3 c67_3]) := by unfold S67_8; rw [hE c67_8]; kernel_rfl
theorem T67_9 (hE : FX x67 D m E) (G7) : S67_9 D m (e67_7 G7) = e67_9 (E c67_9 [.blk 4, .sj v67_8 c67_8, .lp v67_7 G7, .blk 3, .sj v67_3 c67_3]) := by unfold S67_9; rw [T67_8 hE G7, hE c67_9]; kernel_rfl
theorem T67_10 (hE : FX x67 D m E) (G7) : S67_10 D m (e67_7 G7) = e67_10 (E (.opq false l67_10 c67_11) [.blk 5, .sj v67_9 c67_9, .blk 4, .sj v67_8 c67_8, .lp v67_7 G7, .blk 3, .sj v67_3 c67_3]) := by unfold S67_10; rw [T67_9 hE G7, hE (.opq false l67_10 c67_11)]; kernel_rfl
theorem T67_7b (hE : FX x67 D m E) (G7) : S67_7b D m (e67_7 G7) = e67_7 (E c67_7b [.lp v67_7 G7, .blk 3, .sj v67_3 c67_3]) := by unfold S67_7b; rw [T67_8 hE G7, T67_9 hE G7, T67_10 hE G7, T67_3 hE, hE c67_7b]; kernel_rfl
theorem T67_7 (hE : FX x67 D m E) : S67_7 D m = e67_7 (nrec (fun _ => none) (fun _ G7 st => E c67_7b [.lp v67_7 G7, .blk 3, .sj v67_3 c67_3] st) m) :=
  nrec_emb e67_7 (fun _ _ _ _ _ _ _ _ _ _ _ => none) (fun g => S67_7b D m g) (fun G7 st => E c67_7b [.lp v67_7 G7, .blk 3, .sj v67_3 c67_3] st) rfl (fun g => T67_7b hE g) m
theorem T67_2 (hE : FX x67 D m E) : S67_2 D m = e67_2 (E c67_2 []) := by unfold S67_2; rw [T67_7 hE, hE c67_2]; kernel_rfl
theorem T67_1 (hE : FX x67 D m E) : S67_1 D m = e67_1 (E c67_1 []) := by unfold S67_1; rw [T67_2 hE, hE c67_1]; kernel_rfl
theorem T67_0 (hE : FX x67 D m E) : S67_0 D m = e67_0 (E c67_0 []) := by unfold S67_0; rw [T67_1 hE, hE c67_0]; kernel_rfl
theorem T67_14 (hE : FX x67 D m E) : S67_14 D m = e67_14 (E (.opq false l67_14 c67_15) [.blk 1, .blk 0, .sj v67_0 c67_0]) := by unfold S67_14; rw [T67_0 hE, hE (.opq false l67_14 c67_15)]; kernel_rfl
theorem T67_13 (hE : FX x67 D m E) : S67_13 D m = e67_13 (E (.opq false l67_13 c67_16) [.blk 1, .blk 0, .sj v67_0 c67_0]) := by unfold S67_13; rw [T67_0 hE, T67_14 hE, hE (.opq false l67_13 c67_16)]; kernel_rfl
theorem T67_12 (hE : FX x67 D m E) : S67_12 D m = e67_12 (E (.opq false l67_12 c67_17) [.blk 1, .blk 0, .sj v67_0 c67_0]) := by unfold S67_12; rw [T67_0 hE, T67_13 hE, hE (.opq false l67_12 c67_17)]; kernel_rfl
theorem T67_18 (hE : FX x67 D m E) : S67_18 D m = e67_18 (E c67_e []) := by unfold S67_18; rw [T67_0 hE, T67_12 hE, hE c67_e]; kernel_rfl
theorem X67 : XTie S67 x67 := X_of fun D m E hE args h u => by unfold S67; rw [T67_18 hE]; kernel_rfl
/- 73 -/
def c73_e : XC := (.s (.oX [.ld p1 q0 .v, .P p2 (.nilck q1) .v, .fa p3 2 q2, .ld p4 q3 tI, .bn p5 .sub q4 (ci 1) tI, .P p6 (.nilck q1) .v, .fa p7 2 q6, .st q7 q5]))
def x73 : XFn := ⟨[.v], true, [], c73_e⟩
def e73_0 (k : St → Res2) (t0 : AV) (h : HP) (u : AMode) : Res2 := k ⟨mkT [(p0, t0)], h, [], u⟩
def S73_0 (D : CallD) (m : Nat) (t0 : AV) (h : HP) (u : AMode) : Res2 :=
 cellC t0 h fun t1 =>
 nilckC t1 fun t2 =>
 faC 2 t2 fun t3 =>
 ldI t3 h fun t4 =>
 let t5 := wrQ .i64 (t4 - (Int.ofNat 1))
 nilckC t1 fun t6 =>
 faC 2 t6 fun t7 =>
 stoC t7 (vI t5) h fun h1 =>
 some (.ret (.tup []) h1, u)
def S73 : SFn := fun D m args h u => popV args fun t0 args => endA args (S73_0 D m t0 h u)
theorem T73_0 (hE : FX x73 D m E) : S73_0 D m = e73_0 (E c73_e []) := by unfold S73_0; rw [hE c73_e]; kernel_rfl
theorem X73 : XTie S73 x73 := X_of fun D m E hE args h u => by unfold S73; rw [T73_0 hE]; kernel_rfl
/- 74 -/
def v74_1 : List Pos := [p2, p4]
def c74_1 : XC := (.sO [.L p67 (.cells 8 q4) .v, .ss 8 q2 q67] (.s .ret))
def c74_3 : XC := (.cond q62 (.sO [.fa p63 0 q4, .st q63 (ci 7)] (.s (.oX [.mv p64 q0 .v, .cl p65 85 [q64] .v, .fa p66 5 q4, .st q66 q65]))) (.s .skip))
def l74_2 : XL := (XL.of [])
def v74_0 : List Pos := [p0, p2, p4]
def c74_0 : XC := (.sO [.mv p49 q0 .v, .P p50 (.nilck q49) .v, .fa p51 1 q50, .ld p52 q51 tI, .bn p53 .add q52 (ci 1) tI, .P p54 (.nilck q49) .v, .fa p55 1 q54, .st q55 q53] (.sj v74_1 (.opq false (XL.pre [.fa p56 0 q4, .ld p57 q56 tI, .bn p58 .eql q57 (ci 3) .b, .mv p59 q58 .b, .sp p59, .G p59 true p60 (.mov q0) .v, .o ⟨(some p61), (.call (.fn 22) [q60, (.c (.str [40]))]), (some (p59, true)), []⟩ .b, .P p62 (.pick q59 q61 (cb false)) .b, .jn p59 [p0, p2, p4, p62]] l74_2) c74_3) c74_1))
def c74_e : XC := (.sO [.al p2 (.new [(kI 0), (.str []), (.str []), (.int .u32 (.ofNat 0)), (.int .u64 (.ofNat 0)), .nils, (kI 0), (kI 0)])] (.sO [.mv p7 q0 .v, .cl p8 14 [q7] .v, .al p3 (.new [(kI 0), (.str []), (kI 0)]), .ss 3 q3 q8] (.sO [.fa p9 2 q3, .ld p10 q9 tI, .P p11 (.build [(kI 0), (.str []), (.str []), (.int .u32 (.ofNat 0)), (.int .u64 (.ofNat 0)), .nils, (kI 0), (kI 0)] [⟨7, 1, q10⟩]) .v, .al p4 (.new [(kI 0), (.str []), (.str []), (.int .u32 (.ofNat 0)), (.int .u64 (.ofNat 0)), .nils, (kI 0), (kI 0)]), .ss 8 q4 q11] (.sj v74_0 (.sO [.fa p12 0 q3, .ld p13 q12 tI] (.block 0 (.sO [.bn p22 .eql q13 (ci 2) .b, .mv p21 q22 .b] (.cond q21 (.sO [.fa p24 1 q3, .ld p25 q24 .s, .cl p26 53 [q25, (ci 10), (ci 32)] .v, .mv p23 q26 .v, .P p27 (.ext q23 0) (.i .u64), .P p28 (.ext q23 1) .v, .mv p5 q27 (.i .u64), .mv p6 q28 .v] (.s (.oX [.mv p29 q5 (.i .u64), .P p30 (.conv (.ii .u32) q29) tW, .fa p31 0 q4, .st q31 (ci 1), .fa p32 3 q4, .st q32 q30]))) (.sO [.bn p34 .eql q13 (ci 3) .b, .mv p33 q34 .b] (.cond q33 (.sO [.fa p35 0 q4, .st q35 (ci 2)] (.s (.oX [.fa p37 1 q3, .ld p38 q37 .s, .cl p39 52 [q38] .v, .mv p36 q39 .v, .P p40 (.ext q36 0) (.i .u64), .P p41 (.ext q36 1) tI, .fa p42 4 q4, .st q42 q40]))) (.sO [.bn p44 .eql q13 (ci 1) .b, .mv p43 q44 .b] (.cond q43 (.s (.ops true (XL.of [.fa p45 1 q3, .ld p46 q45 .s, .fa p47 0 q4, .o ⟨none, (.e (.store q47 (ci 3))), none, [⟨none, .cell q45, p46⟩]⟩ .v, .fa p48 2 q4, .st q48 q46]))) (.sO [.mv p14 q0 .v, .cl p15 28 [q14, (.c (.str [40]))] .v] (.sO [.mv p16 q0 .v, .cl p17 30 [q16] .v, .ss 8 q4 q17] (.sO [.mv p18 q0 .v, .cl p19 28 [q18, (.c (.str [41]))] .v] (.sO [.L p20 (.cells 8 q4) .v, .ss 8 q2 q20] (.s .ret))))))))))))) c74_0))))
def x74 : XFn := ⟨[.v], false, [(.cells 8 p2)], c74_e⟩
def e74_1 (k t2 t4 h) := kN k [(p2, t2), (p4, t4)] h
def S74_1 (D : CallD) (m : Nat) (t2 t4 : AV) (h : HP) : Res2 :=
 cellsC 8 t4 h fun t67 =>
 stsC 8 t2 t67 h fun h12 =>
 cellsC 8 t2 h12 fun t2a =>
 some (.ret t2a h12, .no)
def e74_2 (k t0 t2 t4 t62 h) := kN k [(p0, t0), (p2, t2), (p4, t4), (p62, (vB t62))] h
def S74_2 (D : CallD) (m : Nat) (t0 t2 t4 : AV) (t62 : Bool) (h : HP) : Res2 :=
 br t62 (
 faC 0 t4 fun t63 =>
 stoC t63 (vI (Int.ofNat 7)) h fun h14 =>
 cal D 85 [t0] h14 fun t65 h15 =>
 faC 5 t4 fun t66 =>
 stoC t66 t65 h15 fun h16 =>
 S74_1 D m t2 t4 h16) (
 S74_1 D m t2 t4 h)
def e74_0 (k t0 t2 t4 h) := kN k [(p0, t0), (p2, t2), (p4, t4)] h
def S74_0 (D : CallD) (m : Nat) (t0 t2 t4 : AV) (h : HP) : Res2 :=
 nilckC t0 fun t50 =>
 faC 1 t50 fun t51 =>
 ldI t51 h fun t52 =>
 let t53 := wrQ .i64 (addQ t52 (Int.ofNat 1))
 nilckC t0 fun t54 =>
 faC 1 t54 fun t55 =>
 stoC t55 (vI t53) h fun h11 =>
 faC 0 t4 fun t56 =>
 ldI t56 h11 fun t57 =>
 let t58 := eqQ t57 (Int.ofNat 3)
 br t58 (
 cal D 22 [t0, (vS ([40] : LN))] h11 fun t61 h13 =>
 asB t61 fun t61a =>
 S74_2 D m t0 t2 t4 t61a h13) (
 S74_2 D m t0 t2 t4 false h11)
def e74_4 (k t0 h) := kN k [(p0, t0)] h
def S74_4 (D : CallD) (m : Nat) (t0 : AV) (h : HP) : Res2 :=
 let t2 := AV.ptr (HP.nxQ h) 0
 let h5 := HP.newQ h (.cells true [(kI 0), (.str []), (.str []), (.int .u32 (.ofNat 0)), (.int .u64 (.ofNat 0)), .nils, (kI 0), (kI 0)])
 cal D 14 [t0] h5 fun t8 h6 =>
 let t3 := AV.ptr (HP.nxQ h6) 0
 let h7 := HP.newQ h6 (.cells true [(kI 0), (.str []), (kI 0)])
 stsC 3 t3 t8 h7 fun h8 =>
 let t9 := (AV.ptr (HP.nxQ h6) (Nat.add 0 2))
 ldI t9 h8 fun t10 =>
 let t11 := (AV.agg [(vI (Int.ofNat 0)), (vS ([] : LN)), (vS ([] : LN)), (vW (Int.ofNat 0)), (AV.int .u64 (Int.ofNat 0)), (.nils : AV), (vI (Int.ofNat 0)), (vI t10)])
 let t4 := AV.ptr (HP.nxQ h8) 0
 let h9 := HP.newQ h8 (.cells true [(kI 0), (.str []), (.str []), (.int .u32 (.ofNat 0)), (.int .u64 (.ofNat 0)), .nils, (kI 0), (kI 0)])
 stsC 8 t4 t11 h9 fun h10 =>
 let t12 := (AV.ptr (HP.nxQ h6) (Nat.add 0 0))
 ldI t12 h10 fun t13 =>
 let t22 := eqQ t13 (Int.ofNat 2)
 br t22 (
 let t24 := (AV.ptr (HP.nxQ h6) (Nat.add 0 1))
 ldS t24 h10 fun t25 =>
 cal D 53 [(vS t25), (vI (Int.ofNat 10)), (vI (Int.ofNat 32))] h10 fun t26 h17 =>
 extC t26 0 fun vt27 => asI .u64 vt27 fun t27 =>
 extC t26 1 fun t28 =>
 let t30 := wrapF .u32 t27
 let t31 := (AV.ptr (HP.nxQ h8) (Nat.add 0 0))
 stoC t31 (vI (Int.ofNat 1)) h17 fun h18 =>
 let t32 := (AV.ptr (HP.nxQ h8) (Nat.add 0 3))
 stoC t32 (vW t30) h18 fun h19 =>
 S74_0 D m t0 t2 t4 h19) (
 let t34 := eqQ t13 (Int.ofNat 3)
 br t34 (
 let t35 := (AV.ptr (HP.nxQ h8) (Nat.add 0 0))
 stoC t35 (vI (Int.ofNat 2)) h10 fun h20 =>
 let t37 := (AV.ptr (HP.nxQ h6) (Nat.add 0 1))
 ldS t37 h20 fun t38 =>
 cal D 52 [(vS t38)] h20 fun t39 h21 =>
 extC t39 0 fun vt40 => asI .u64 vt40 fun t40 =>
 extC t39 1 fun vt41 => asI .i64 vt41 fun t41 =>
 let t42 := (AV.ptr (HP.nxQ h8) (Nat.add 0 4))
 stoC t42 (AV.int .u64 t40) h21 fun h22 =>
 S74_0 D m t0 t2 t4 h22) (
 let t44 := eqQ t13 (Int.ofNat 1)
 br t44 (
 let t45 := (AV.ptr (HP.nxQ h6) (Nat.add 0 1))
 ldS t45 h10 fun t46 =>
 let t47 := (AV.ptr (HP.nxQ h8) (Nat.add 0 0))
 stoC t47 (vI (Int.ofNat 3)) h10 fun h23 =>
 br (againE (.store q47 (ci 3)) [⟨none, .cell q45, p46⟩] (mkT [(p47, t47), (p46, (vS t46)), (p45, t45)]) h23) (
 let t48 := (AV.ptr (HP.nxQ h8) (Nat.add 0 2))
 stoC t48 (vS t46) h23 fun h24 =>
 S74_0 D m t0 t2 t4 h24) none) (
 cal D 28 [t0, (vS ([40] : LN))] h10 fun t15 h25 =>
 cal D 30 [t0] h25 fun t17 h26 =>
 stsC 8 t4 t17 h26 fun h27 =>
 cal D 28 [t0, (vS ([41] : LN))] h27 fun t19 h28 =>
 cellsC 8 t4 h28 fun t20 =>
 stsC 8 t2 t20 h28 fun h29 =>
 cellsC 8 t2 h29 fun t2a =>
 some (.ret t2a h29, .no))))
def S74 : SFn := fun D m args h u => nou u <| popV args fun t0 args => endA args (S74_4 D m t0 h)
theorem T74_1 (hE : FX x74 D m E) : S74_1 D m = e74_1 (E c74_1 []) := by unfold S74_1; rw [hE c74_1]; kernel_rfl
theorem T74_2 (hE : FX x74 D m E) : S74_2 D m = e74_2 (E (.opq false l74_2 c74_3) [.sj v74_1 c74_1]) := by unfold S74_2; rw [T74_1 hE, hE (.opq false l74_2 c74_3)]; kernel_rfl
theorem T74_0 (hE : FX x74 D m E) : S74_0 D m = e74_0 (E c74_0 []) := by unfold S74_0; rw [T74_2 hE, hE c74_0]; kernel_rfl
theorem T74_4 (hE : FX x74 D m E) : S74_4 D m = e74_4 (E c74_e []) := by unfold S74_4; rw [T74_0 hE, hE c74_e]; kernel_rfl
theorem X74 : XTie S74 x74 := X_of fun D m E hE args h u => by unfold S74; rw [T74_4 hE]; kernel_rfl
/- 85 -/
def v85_0 : List Pos := [p0, p3]
def c85_0 : XC := (.sO [.mv p20 q0 .v, .cl p21 28 [q20, (.c (.str [41]))] .v] (.sO [.mv p22 q3 .v, .mv p2 q22 .v] (.s .ret)))
def v85_2 : List Pos := [p0, p3]
def c85_2 : XC := (.s (.oX [.mv p8 q0 .v, .cl p9 22 [q8, (.c (.str [44]))] .b, .mv p4 q9 .b]))
def v85_3 : List Pos := [p0, p3]
def c85_3 : XC := (.s (.oX [.mv p15 q3 .v, .mv p16 q0 .v, .cl p17 30 [q16] .v, .al p18 (.bsl [(kI 0), (.str []), (.str []), (.int .u32 (.ofNat 0)), (.int .u64 (.ofNat 0)), .nils, (kI 0), (kI 0)] 1 [⟨0, 8, q17⟩]), .o ⟨(some p19), (.e (.app 8 96 q15 q18)), none, []⟩ .v, .mv p3 q19 .v]))
def v85_1 : List Pos := [p0, p3, p4]
def c85_1b : XC := (.seq (.seq (.oX [.mv p7 q4 .b]) (.cond q7 .skip (.exit 0))) (.sj v85_2 (.block 1 (.sj v85_3 (.sO [.mv p10 q3 .v, .P p11 (.lenl q10) tI, .bn p12 .eql q11 (ci 8) .b] (.cond q12 (.s (.oX [.mv p13 q0 .v, .cl p14 41 [q13, (ci 5)] .v])) (.s .skip))) c85_3)) c85_2))
def c85_e : XC := (.sO [.mv p2 (.c .nils) .v] (.sO [.mv p3 (.c .nils) .v] (.seq (.seq (.oX [.mv p5 q0 .v, .cl p6 22 [q5, (.c (.str [41]))] .b]) (.cond q6 (.seq (.oX [.mv p2 (.c .nils) .v]) .ret) .skip)) (.sj v85_0 (.sO [.mv p4 (cb true) .b] (.block 0 (.loop v85_1 c85_1b))) c85_0))))
def x85 : XFn := ⟨[.v], false, [(.tmp p2)], c85_e⟩
def e85_0 (k t0 t3 h) := kN k [(p0, t0), (p3, t3)] h
def S85_0 (D : CallD) (m : Nat) (t0 t3 : AV) (h : HP) : Res2 :=
 cal D 28 [t0, (vS ([41] : LN))] h fun t21 h6 =>
 some (.ret t3 h6, .no)
def e85_2 (k t0 t3 h) := kN k [(p0, t0), (p3, t3)] h
def S85_2 (D : CallD) (m : Nat) (g1 : AV → AV → Bool → HP → Res2) (t0 t3 : AV) (h : HP) : Res2 :=
 cal D 22 [t0, (vS ([44] : LN))] h fun t9 h7 =>
 asB t9 fun t9a =>
 g1 t0 t3 t9a h7
def e85_3 (k t0 t3 h) := kN k [(p0, t0), (p3, t3)] h
def S85_3 (D : CallD) (m : Nat) (g1 : AV → AV → Bool → HP → Res2) (t0 t3 : AV) (h : HP) : Res2 :=
 cal D 30 [t0] h fun t17 h8 =>
 obQ (evA (.bsl [(kI 0), (.str []), (.str []), (.int .u32 (.ofNat 0)), (.int .u64 (.ofNat 0)), .nils, (kI 0), (kI 0)] 1 [⟨0, 8, (.c t17)⟩]) .leaf) fun r9 =>
 let t18 := vkV r9.2 (HP.nxQ h8)
 let h10 := HP.newQ h8 r9.1
 eff (.app 8 96 (.c t3) (.c t18)) h10 fun t19 h11 =>
 S85_2 D m g1 t0 t19 h11
def e85_1 (k t0 t3 t4 h) := kN k [(p0, t0), (p3, t3), (p4, (vB t4))] h
def S85_1b (D : CallD) (m : Nat) (g1 : AV → AV → Bool → HP → Res2) (t0 t3 : AV) (t4 : Bool) (h : HP) : Res2 :=
 br t4 (
 lenC t3 fun vt11 => asI .i64 vt11 fun t11 =>
 let t12 := eqQ t11 (Int.ofNat 8)
 br t12 (
 cal D 41 [t0, (vI (Int.ofNat 5))] h fun t14 h12 =>
 S85_3 D m g1 t0 t3 h12) (
 S85_3 D m g1 t0 t3 h)) (
 S85_0 D m t0 t3 h)
def S85_1 (D : CallD) (m : Nat) : AV → AV → Bool → HP → Res2 := nrec (fun _ _ _ _ => none) (fun _ g => S85_1b D m g) m
def e85_4 (k t0 h) := kN k [(p0, t0)] h
def S85_4 (D : CallD) (m : Nat) (t0 : AV) (h : HP) : Res2 :=
 cal D 22 [t0, (vS ([41] : LN))] h fun t6 h5 =>
 asB t6 fun t6a =>
 br t6a (
 some (.ret (.nils : AV) h5, .no)) (
 S85_1 D m t0 (.nils : AV) true h5)
def S85 : SFn := fun D m args h u => nou u <| popV args fun t0 args => endA args (S85_4 D m t0 h)
theorem T85_0 (hE : FX x85 D m E) : S85_0 D m = e85_0 (E c85_0 []) := by unfold S85_0; rw [hE c85_0]; kernel_rfl
theorem T85_2 (hE : FX x85 D m E) (G1) : S85_2 D m (e85_1 G1) = e85_2 (E c85_2 [.lp v85_1 G1, .blk 0, .sj v85_0 c85_0]) := by unfold S85_2; rw [hE c85_2]; kernel_rfl
theorem T85_3 (hE : FX x85 D m E) (G1) : S85_3 D m (e85_1 G1) = e85_3 (E c85_3 [.blk 1, .sj v85_2 c85_2, .lp v85_1 G1, .blk 0, .sj v85_0 c85_0]) := by unfold S85_3; rw [T85_2 hE G1, hE c85_3]; kernel_rfl
theorem T85_1b (hE : FX x85 D m E) (G1) : S85_1b D m (e85_1 G1) = e85_1 (E c85_1b [.lp v85_1 G1, .blk 0, .sj v85_0 c85_0]) := by unfold S85_1b; rw [T85_3 hE G1, T85_0 hE, hE c85_1b]; kernel_rfl
theorem T85_1 (hE : FX x85 D m E) : S85_1 D m = e85_1 (nrec (fun _ => none) (fun _ G1 st => E c85_1b [.lp v85_1 G1, .blk 0, .sj v85_0 c85_0] st) m) :=
  nrec_emb e85_1 (fun _ _ _ _ => none) (fun g => S85_1b D m g) (fun G1 st => E c85_1b [.lp v85_1 G1, .blk 0, .sj v85_0 c85_0] st) rfl (fun g => T85_1b hE g) m
theorem T85_4 (hE : FX x85 D m E) : S85_4 D m = e85_4 (E c85_e []) := by unfold S85_4; rw [T85_1 hE, hE c85_e]; kernel_rfl
theorem X85 : XTie S85 x85 := X_of fun D m E hE args h u => by unfold S85; rw [T85_4 hE]; kernel_rfl
end
end Go.Proofs.YtomglhellgmbkaaGreatDoor.Sx
