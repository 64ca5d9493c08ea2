/- Functions, printed by a program of ours: their code, what they do, and that it is so. -/
import Derived.Test.YtdeeainihfnbdaaGreatDoorSp
set_option maxRecDepth 8000
set_option linter.unusedVariables false
namespace Go.Proofs.YtdeeainihfnbdaaGreatDoor.Sx
open Go Go.Proofs.YtdeeainihfnbdaaGreatDoor.Ev
set_option linter.unusedSectionVars false
noncomputable section
variable [Rho]
variable {D : CallD} {m : Nat} {E : XE}
/- 4 -/
def v4_1 : List Pos := []
def c4_1 : XC := (.sO [.mv p2 (cb true) .b] (.s .ret))
def v4_2 : List Pos := [p0, p7, p10]
def c4_2b : XC := (.seq (.seq (.oX [.mv p62 q10 tI, .mv p63 q0 tI, .bn p64 .lss q62 q63 .b]) (.cond q64 .skip (.exit 2))) (.seq (.block 3 (.seq (.oX [.mv p67 q10 tI, .P p68 (.conv (.ii .u8) q67) tC, .bn p69 .add (.c (.int .u8 (.ofNat 48))) q68 tC, .al p70 (.bsl [(.int .u8 (.ofNat 0))] 1 [⟨0, 1, q69⟩]), .L p71 (.bstr q70) .s, .bn p72 .add q71 (.c (.str [46, 120])) .s, .mv p11 q72 .s]) (.seq (.oX [.fa p73 0 q7, .ld p74 q73 .v, .mv p75 q10 tI, .bn p76 .mul (ci 2) q75 tI, .P p77 (.iaddr (.sl 17) q74 q76) .v, .fa p78 3 q77, .ld p79 q78 .s, .mv p80 q11 .s, .bn p81 .neq q79 q80 .b, .mv p82 q81 .b, .ge p82 (XL.of [.G p82 false p83 (.faddr 0 q7) .v, .o ⟨(some p84), (.l (.cell q83)), (some (p82, false)), []⟩ .v, .G p82 false p85 (.mov q10) tI, .G p82 false p86 (.bin .mul (ci 2) q85) tI, .G p82 false p87 (.iaddr (.sl 17) q84 q86) .v, .G p82 false p88 (.faddr 1 q87) .v, .o ⟨(some p89), (.l (.cell q88)), (some (p82, false)), []⟩ .b, .P p90 (.pick q82 (cb true) q89) .b]) p90 .b, .mv p91 q90 .b, .ge p91 (XL.of [.G p91 false p92 (.faddr 0 q7) .v, .o ⟨(some p93), (.l (.cell q92)), (some (p91, false)), []⟩ .v, .G p91 false p94 (.mov q10) tI, .G p91 false p95 (.bin .mul (ci 2) q94) tI, .G p91 false p96 (.bin .add q95 (ci 1)) tI, .G p91 false p97 (.iaddr (.sl 17) q93 q96) .v, .G p91 false p98 (.faddr 9 q97) .v, .G p91 false p99 (.faddr 2 q98) .v, .o ⟨(some p100), (.l (.cell q99)), (some (p91, false)), []⟩ .v, .G p91 false p101 (.iaddr (.sl 7) q100 (ci 0)) .v, .G p91 false p102 (.faddr 1 q101) .v, .o ⟨(some p103), (.l (.cell q102)), (some (p91, false)), []⟩ .v, .G p91 false p104 (.iaddr (.sl 8) q103 (ci 0)) .v, .G p91 false p105 (.faddr 2 q104) .v, .o ⟨(some p106), (.l (.cell q105)), (some (p91, false)), []⟩ .s, .G p91 false p107 (.mov q11) .s, .G p91 false p108 (.bin .neq q106 q107) .b, .P p109 (.pick q91 (cb true) q108) .b]) p109 .b]) (.cond q109 (.seq (.oX [.mv p2 (cb false) .b]) .ret) .skip)))) (.s (.oX [.mv p65 q10 tI, .bn p66 .add q65 (ci 1) tI, .mv p10 q66 tI]))))
def v4_0 : List Pos := [p0, p3]
def c4_0 : XC := (.sO [.mv p35 q3 .v, .al p36 (.bsl [(.str [])] 1 [⟨0, 1, (.c (.str [105, 110, 116, 32, 109, 97, 105, 110, 40, 41, 32, 123, 32, 114, 101, 116, 117, 114, 110, 32, 48, 59, 32, 125]))⟩]), .o ⟨(some p37), (.e (.app 1 16 q35 q36)), none, []⟩ .v, .cl p38 7 [q37] .v, .mv p34 q38 .v, .P p39 (.ext q34 0) .v, .P p40 (.ext q34 1) .b, .mv p5 q39 .v, .mv p6 q40 .b] (.sO [.mv p42 q5 .v, .cl p43 9 [q42] .v, .mv p41 q43 .v, .P p44 (.ext q41 0) .v, .P p45 (.ext q41 1) tI, .P p46 (.ext q41 2) tI, .al p7 (.new [.nils]), .ss 1 q7 q44, .mv p8 q45 tI, .mv p9 q46 tI] (.seq (.seq (.oX [.mv p47 q6 .b, .P p48 (.un .not q47) .b, .mv p49 q48 .b, .ge p49 (XL.of [.G p49 false p50 (.mov q9) tI, .G p49 false p51 (.bin .neq q50 (ci 0)) .b, .P p52 (.pick q49 (cb true) q51) .b]) p52 .b, .mv p53 q52 .b, .ge p53 (XL.of [.G p53 false p54 (.faddr 0 q7) .v, .o ⟨(some p55), (.l (.cell q54)), (some (p53, false)), []⟩ .v, .G p53 false p56 (.lenl q55) tI, .G p53 false p57 (.mov q0) tI, .G p53 false p58 (.bin .mul (ci 2) q57) tI, .G p53 false p59 (.bin .add q58 (ci 1)) tI, .G p53 false p60 (.bin .neq q56 q59) .b, .P p61 (.pick q53 (cb true) q60) .b]) p61 .b]) (.cond q61 (.seq (.oX [.mv p2 (cb false) .b]) .ret) .skip)) (.sj v4_1 (.sO [.mv p10 (ci 0) tI] (.block 2 (.loop v4_2 c4_2b))) c4_1))))
def v4_3 : List Pos := [p0, p3, p4]
def c4_3b : XC := (.seq (.seq (.oX [.mv p19 q4 tI, .mv p20 q0 tI, .bn p21 .lss q19 q20 .b]) (.cond q21 .skip (.exit 0))) (.seq (.block 1 (.oX [.mv p24 q3 .v, .mv p25 q4 tI, .P p26 (.conv (.ii .u8) q25) tC, .bn p27 .add (.c (.int .u8 (.ofNat 97))) q26 tC, .al p28 (.bsl [(.int .u8 (.ofNat 0))] 1 [⟨0, 1, q27⟩]), .L p29 (.bstr q28) .s, .bn p30 .add (.c (.str [115, 116, 97, 116, 105, 99, 32, 105, 110, 116, 32, 120, 59, 32, 105, 110, 116, 32, 102])) q29 .s, .bn p31 .add q30 (.c (.str [40, 41, 32, 123, 32, 114, 101, 116, 117, 114, 110, 32, 120, 59, 32, 125])) .s, .al p32 (.bsl [(.str [])] 1 [⟨0, 1, q31⟩]), .o ⟨(some p33), (.e (.app 1 16 q24 q32)), none, []⟩ .v, .mv p3 q33 .v])) (.s (.oX [.mv p22 q4 tI, .bn p23 .add q22 (ci 1) tI, .mv p4 q23 tI]))))
def c4_e : XC := (.sO [.mv p2 (cb false) .b] (.seq (.seq (.oX [.cl p12 8 [] .b, .P p13 (.un .not q12) .b]) (.cond q13 (.seq (.oX [.mv p2 (cb false) .b]) .ret) .skip)) (.sO [.mv p14 q0 tI, .P p15 (.conv (.ii .u64) q14) (.i .u64), .bn p16 .rem q15 (.c (.int .u64 (.ofNat 7))) (.i .u64), .P p17 (.conv (.ii .i64) q16) tI, .bn p18 .add q17 (ci 1) tI, .mv p0 q18 tI] (.sO [.mv p3 (.c .nils) .v] (.sj v4_0 (.sO [.mv p4 (ci 0) tI] (.block 0 (.loop v4_3 c4_3b))) c4_0)))))
def x4 : XFn := ⟨[tI], false, [(.tmp p2)], c4_e⟩
def e4_1 (k h) := kN k [] h
def S4_1 (D : CallD) (m : Nat) (h : HP) : Res2 :=
 some (.ret (vB true) h, .no)
def e4_2 (k t0 t7 t10 h) := kN k [(p0, (vI t0)), (p7, t7), (p10, (vI t10))] h
def S4_2b (D : CallD) (m : Nat) (g2 : Int → AV → Int → HP → Res2) (t0 : Int) (t7 : AV) (t10 : Int) (h : HP) : Res2 :=
 let t64 := ltQ t10 t0
 br t64 (
 let t68 := wrapF .u8 t10
 let t69 := wrQ .u8 (addQ (Int.ofNat 48) t68)
 let t70 := AV.slice (HP.nxQ h) 0 1 (.exact 1)
 let h12 := HP.newQ h (.cells true [(vC t69)])
 obS (bstrV t70 h12) fun t71 =>
 obS (strBin .add t71 ([46, 120] : LN)) fun t72 =>
 faC 0 t7 fun t73 =>
 cellC t73 h12 fun t74 =>
 let t76 := wrQ .i64 ((Int.ofNat 2) * t10)
 iasC 17 t74 (vI t76) fun t77 =>
 faC 3 t77 fun t78 =>
 ldS t78 h12 fun t79 =>
 let t81 := !(eqL t79 t72)
 obB (brV t81 (
 some (vB true)) (
 faCV 0 t7 fun t83 =>
 cellCV t83 h12 fun t84 =>
 let t86 := wrQ .i64 ((Int.ofNat 2) * t10)
 iasCV 17 t84 (vI t86) fun t87 =>
 faCV 1 t87 fun t88 =>
 ldBV t88 h12 fun t89 =>
 some (vB t89))) fun t90 =>
 obB (brV t90 (
 some (vB true)) (
 faCV 0 t7 fun t92 =>
 cellCV t92 h12 fun t93 =>
 let t95 := wrQ .i64 ((Int.ofNat 2) * t10)
 let t96 := wrQ .i64 (addQ t95 (Int.ofNat 1))
 iasCV 17 t93 (vI t96) fun t97 =>
 faCV 9 t97 fun t98 =>
 faCV 2 t98 fun t99 =>
 cellCV t99 h12 fun t100 =>
 iasCV 7 t100 (vI (Int.ofNat 0)) fun t101 =>
 faCV 1 t101 fun t102 =>
 cellCV t102 h12 fun t103 =>
 iasCV 8 t103 (vI (Int.ofNat 0)) fun t104 =>
 faCV 2 t104 fun t105 =>
 ldSV t105 h12 fun t106 =>
 let t108 := !(eqL t106 t72)
 some (vB t108))) fun t109 =>
 br t109 (
 some (.ret (vB false) h12, .no)) (
 let t66 := wrQ .i64 (addQ t10 (Int.ofNat 1))
 g2 t0 t7 t66 h12)) (
 S4_1 D m h)
def S4_2 (D : CallD) (m : Nat) : Int → AV → Int → HP → Res2 := nrec (fun _ _ _ _ => none) (fun _ g => S4_2b D m g) m
def e4_0 (k t0 t3 h) := kN k [(p0, (vI t0)), (p3, t3)] h
def S4_0 (D : CallD) (m : Nat) (t0 : Int) (t3 : AV) (h : HP) : Res2 :=
 let t36 := AV.slice (HP.nxQ h) 0 1 (.exact 1)
 let h6 := HP.newQ h (.cells true [(vS ([105, 110, 116, 32, 109, 97, 105, 110, 40, 41, 32, 123, 32, 114, 101, 116, 117, 114, 110, 32, 48, 59, 32, 125] : LN))])
 eff (.app 1 16 (.c t3) (.c t36)) h6 fun t37 h7 =>
 cal D 7 [t37] h7 fun t38 h8 =>
 extC t38 0 fun t39 =>
 extC t38 1 fun vt40 => asB vt40 fun t40 =>
 cal D 9 [t39] h8 fun t43 h9 =>
 extC t43 0 fun t44 =>
 extC t43 1 fun vt45 => asI .i64 vt45 fun t45 =>
 extC t43 2 fun vt46 => asI .i64 vt46 fun t46 =>
 let t7 := AV.ptr (HP.nxQ h9) 0
 let h10 := HP.newQ h9 (.cells true [.nils])
 stsC 1 t7 t44 h10 fun h11 =>
 let t48 := !t40
 obB (brV t48 (
 some (vB true)) (
 let t51 := notQ (eqQ t46 (Int.ofNat 0))
 some (vB t51))) fun t52 =>
 obB (brV t52 (
 some (vB true)) (
 let t54 := (AV.ptr (HP.nxQ h9) (Nat.add 0 0))
 cellCV t54 h11 fun t55 =>
 lenCV t55 fun vt56 => asIV .i64 vt56 fun t56 =>
 let t58 := wrQ .i64 ((Int.ofNat 2) * t0)
 let t59 := wrQ .i64 (addQ t58 (Int.ofNat 1))
 let t60 := notQ (eqQ t56 t59)
 some (vB t60))) fun t61 =>
 br t61 (
 some (.ret (vB false) h11, .no)) (
 S4_2 D m t0 t7 (Int.ofNat 0) h11)
def e4_3 (k t0 t3 t4 h) := kN k [(p0, (vI t0)), (p3, t3), (p4, (vI t4))] h
def S4_3b (D : CallD) (m : Nat) (g3 : Int → AV → Int → HP → Res2) (t0 : Int) (t3 : AV) (t4 : Int) (h : HP) : Res2 :=
 let t21 := ltQ t4 t0
 br t21 (
 let t26 := wrapF .u8 t4
 let t27 := wrQ .u8 (addQ (Int.ofNat 97) t26)
 let t28 := AV.slice (HP.nxQ h) 0 1 (.exact 1)
 let h13 := HP.newQ h (.cells true [(vC t27)])
 obS (bstrV t28 h13) fun t29 =>
 obS (strBin .add ([115, 116, 97, 116, 105, 99, 32, 105, 110, 116, 32, 120, 59, 32, 105, 110, 116, 32, 102] : LN) t29) fun t30 =>
 obS (strBin .add t30 ([40, 41, 32, 123, 32, 114, 101, 116, 117, 114, 110, 32, 120, 59, 32, 125] : LN)) fun t31 =>
 let t32 := AV.slice (HP.nxQ h13) 0 1 (.exact 1)
 let h14 := HP.newQ h13 (.cells true [(vS t31)])
 eff (.app 1 16 (.c t3) (.c t32)) h14 fun t33 h15 =>
 let t23 := wrQ .i64 (addQ t4 (Int.ofNat 1))
 g3 t0 t33 t23 h15) (
 S4_0 D m t0 t3 h)
def S4_3 (D : CallD) (m : Nat) : Int → AV → Int → HP → Res2 := nrec (fun _ _ _ _ => none) (fun _ g => S4_3b D m g) m
def e4_4 (k t0 h) := kN k [(p0, (vI t0))] h
def S4_4 (D : CallD) (m : Nat) (t0 : Int) (h : HP) : Res2 :=
 cal D 8 [] h fun t12 h5 =>
 asB t12 fun t12a =>
 let t13 := !t12a
 br t13 (
 some (.ret (vB false) h5, .no)) (
 let t15 := wrapF .u64 t0
 let t16 := Int.tmod t15 (Int.ofNat 7)
 let t17 := wrapF .i64 t16
 let t18 := wrQ .i64 (addQ t17 (Int.ofNat 1))
 S4_3 D m t18 (.nils : AV) (Int.ofNat 0) h5)
def S4 : SFn := fun D m args h u => nou u <| popI .i64 args fun t0 args => endA args (S4_4 D m t0 h)
theorem T4_1 (hE : FX x4 D m E) : S4_1 D m = e4_1 (E c4_1 []) := by unfold S4_1; rw [hE c4_1]; kernel_rfl
theorem T4_2b (hE : FX x4 D m E) (G2) : S4_2b D m (e4_2 G2) = e4_2 (E c4_2b [.lp v4_2 G2, .blk 2, .sj v4_1 c4_1]) := by unfold S4_2b; rw [T4_1 hE, hE c4_2b]; kernel_rfl
theorem T4_2 (hE : FX x4 D m E) : S4_2 D m = e4_2 (nrec (fun _ => none) (fun _ G2 st => E c4_2b [.lp v4_2 G2, .blk 2, .sj v4_1 c4_1] st) m) :=
  nrec_emb e4_2 (fun _ _ _ _ => none) (fun g => S4_2b D m g) (fun G2 st => E c4_2b [.lp v4_2 G2, .blk 2, .sj v4_1 c4_1] st) rfl (fun g => T4_2b hE g) m
theorem T4_0 (hE : FX x4 D m E) : S4_0 D m = e4_0 (E c4_0 []) := by unfold S4_0; rw [T4_2 hE, hE c4_0]; kernel_rfl
theorem T4_3b (hE : FX x4 D m E) (G3) : S4_3b D m (e4_3 G3) = e4_3 (E c4_3b [.lp v4_3 G3, .blk 0, .sj v4_0 c4_0]) := by unfold S4_3b; rw [T4_0 hE, hE c4_3b]; kernel_rfl
theorem T4_3 (hE : FX x4 D m E) : S4_3 D m = e4_3 (nrec (fun _ => none) (fun _ G3 st => E c4_3b [.lp v4_3 G3, .blk 0, .sj v4_0 c4_0] st) m) :=
  nrec_emb e4_3 (fun _ _ _ _ => none) (fun g => S4_3b D m g) (fun G3 st => E c4_3b [.lp v4_3 G3, .blk 0, .sj v4_0 c4_0] st) rfl (fun g => T4_3b hE g) m
theorem T4_4 (hE : FX x4 D m E) : S4_4 D m = e4_4 (E c4_e []) := by unfold S4_4; rw [T4_3 hE, hE c4_e]; kernel_rfl
theorem X4 : XTie S4 x4 := X_of fun D m E hE args h u => by unfold S4; rw [T4_4 hE]; kernel_rfl
/- 7 -/
def v7_0 : List Pos := [p4]
def c7_0 : XC := (.sO [.mv p46 q4 .v, .mv p2 q46 .v, .mv p3 (cb true) .b] (.s .ret))
def v7_1 : List Pos := [p4, p16, p17, p18]
def c7_1b : XC := (.sO [.bn p19 .lss q18 q17 .b] (.seq (.cond q19 .skip (.exit 0)) (.seq (.block 1 (.seq (.oX [.P p20 (.iaddr (.sl 1) q16 q18) .v, .ld p21 q20 .s, .mv p6 q21 .s]) (.seq (.seq (.oX [.mv p22 q6 .s, .P p23 (.lens q22) tI, .bn p24 .gtr q23 (ci 3000) .b]) (.cond q24 (.seq (.oX [.mv p2 (.c .nils) .v, .mv p3 (cb false) .b]) .ret) .skip)) (.seq (.oX [.mv p26 q6 .s, .cl p27 13 [q26] .v, .mv p25 q27 .v, .P p28 (.ext q25 0) .v, .P p29 (.ext q25 1) tI, .P p30 (.ext q25 2) tI, .al p7 (.new [.nils]), .ss 1 q7 q28, .mv p8 q29 tI, .mv p9 q30 tI]) (.seq (.seq (.oX [.mv p31 q9 tI, .bn p32 .neq q31 (ci 0) .b]) (.cond q32 (.seq (.oX [.mv p2 (.c .nils) .v, .mv p3 (cb false) .b]) .ret) .skip)) (.seq (.oX [.L p34 (.cells 1 q7) .v, .cl p35 14 [q34] .v, .mv p33 q35 .v, .P p36 (.ext q33 0) .v, .P p37 (.ext q33 1) tI, .P p38 (.ext q33 2) tI, .al p10 (.new [.nils]), .ss 1 q10 q36, .mv p11 q37 tI, .mv p12 q38 tI]) (.seq (.seq (.oX [.mv p39 q12 tI, .bn p40 .neq q39 (ci 0) .b]) (.cond q40 (.seq (.oX [.mv p2 (.c .nils) .v, .mv p3 (cb false) .b]) .ret) .skip)) (.oX [.mv p41 q4 .v, .L p42 (.cells 1 q10) .v, .al p43 (.bsl [.nils] 1 [⟨0, 1, q42⟩]), .o ⟨(some p44), (.e (.app 1 24 q41 q43)), none, []⟩ .v, .mv p4 q44 .v])))))))) (.s (.oX [.bn p45 .add q18 (ci 1) tI, .mv p18 q45 tI])))))
def c7_e : XC := (.sO [.mv p2 (.c .nils) .v, .mv p3 (cb false) .b] (.sO [.mv p4 (.c .nils) .v] (.seq (.seq (.oX [.mv p13 q0 .v, .P p14 (.lenl q13) tI, .bn p15 .gtr q14 (ci 10) .b]) (.cond q15 (.seq (.oX [.mv p2 (.c .nils) .v, .mv p3 (cb false) .b]) .ret) .skip)) (.sj v7_0 (.sO [.mv p16 q0 .v, .P p17 (.lenl q16) tI, .mv p18 (ci 0) tI] (.block 0 (.loop v7_1 c7_1b))) c7_0))))
def x7 : XFn := ⟨[.v], false, [(.tmp p2), (.tmp p3)], c7_e⟩
def e7_0 (k t4 h) := kN k [(p4, t4)] h
def S7_0 (D : CallD) (m : Nat) (t4 : AV) (h : HP) : Res2 :=
 some (.ret (.tup [t4, (vB true)]) h, .no)
def e7_1 (k t4 t16 t17 t18 h) := kN k [(p4, t4), (p16, t16), (p17, (vI t17)), (p18, (vI t18))] h
def S7_1b (D : CallD) (m : Nat) (g1 : AV → AV → Int → Int → HP → Res2) (t4 t16 : AV) (t17 t18 : Int) (h : HP) : Res2 :=
 let t19 := ltQ t18 t17
 br t19 (
 iasC 1 t16 (vI t18) fun t20 =>
 ldS t20 h fun t21 =>
 let t23 := Int.ofNat (lenL t21)
 let t24 := ltQ (Int.ofNat 3000) t23
 br t24 (
 some (.ret (.tup [(.nils : AV), (vB false)]) h, .no)) (
 cal D 13 [(vS t21)] h fun t27 h3 =>
 extC t27 0 fun t28 =>
 extC t27 1 fun vt29 => asI .i64 vt29 fun t29 =>
 extC t27 2 fun vt30 => asI .i64 vt30 fun t30 =>
 let t7 := AV.ptr (HP.nxQ h3) 0
 let h4 := HP.newQ h3 (.cells true [.nils])
 stsC 1 t7 t28 h4 fun h5 =>
 let t32 := notQ (eqQ t30 (Int.ofNat 0))
 br t32 (
 some (.ret (.tup [(.nils : AV), (vB false)]) h5, .no)) (
 cellsC 1 t7 h5 fun t34 =>
 cal D 14 [t34] h5 fun t35 h6 =>
 extC t35 0 fun t36 =>
 extC t35 1 fun vt37 => asI .i64 vt37 fun t37 =>
 extC t35 2 fun vt38 => asI .i64 vt38 fun t38 =>
 let t10 := AV.ptr (HP.nxQ h6) 0
 let h7 := HP.newQ h6 (.cells true [.nils])
 stsC 1 t10 t36 h7 fun h8 =>
 let t40 := notQ (eqQ t38 (Int.ofNat 0))
 br t40 (
 some (.ret (.tup [(.nils : AV), (vB false)]) h8, .no)) (
 cellsC 1 t10 h8 fun t42 =>
 obQ (evA (.bsl [.nils] 1 [⟨0, 1, (.c t42)⟩]) .leaf) fun r9 =>
 let t43 := vkV r9.2 (HP.nxQ h8)
 let h10 := HP.newQ h8 r9.1
 eff (.app 1 24 (.c t4) (.c t43)) h10 fun t44 h11 =>
 let t45 := wrQ .i64 (addQ t18 (Int.ofNat 1))
 g1 t44 t16 t17 t45 h11)))) (
 S7_0 D m t4 h)
def S7_1 (D : CallD) (m : Nat) : AV → AV → Int → Int → HP → Res2 := nrec (fun _ _ _ _ _ => none) (fun _ g => S7_1b D m g) m
def e7_2 (k t0 h) := kN k [(p0, t0)] h
def S7_2 (D : CallD) (m : Nat) (t0 : AV) (h : HP) : Res2 :=
 lenC t0 fun vt14 => asI .i64 vt14 fun t14 =>
 let t15 := ltQ (Int.ofNat 10) t14
 br t15 (
 some (.ret (.tup [(.nils : AV), (vB false)]) h, .no)) (
 lenC t0 fun vt17 => asI .i64 vt17 fun t17 =>
 S7_1 D m (.nils : AV) t0 t17 (Int.ofNat 0) h)
def S7 : SFn := fun D m args h u => nou u <| popV args fun t0 args => endA args (S7_2 D m t0 h)
theorem T7_0 (hE : FX x7 D m E) : S7_0 D m = e7_0 (E c7_0 []) := by unfold S7_0; rw [hE c7_0]; kernel_rfl
theorem T7_1b (hE : FX x7 D m E) (G1) : S7_1b D m (e7_1 G1) = e7_1 (E c7_1b [.lp v7_1 G1, .blk 0, .sj v7_0 c7_0]) := by unfold S7_1b; rw [T7_0 hE, hE c7_1b]; kernel_rfl
theorem T7_1 (hE : FX x7 D m E) : S7_1 D m = e7_1 (nrec (fun _ => none) (fun _ G1 st => E c7_1b [.lp v7_1 G1, .blk 0, .sj v7_0 c7_0] st) m) :=
  nrec_emb e7_1 (fun _ _ _ _ _ => none) (fun g => S7_1b D m g) (fun G1 st => E c7_1b [.lp v7_1 G1, .blk 0, .sj v7_0 c7_0] st) rfl (fun g => T7_1b hE g) m
theorem T7_2 (hE : FX x7 D m E) : S7_2 D m = e7_2 (E c7_e []) := by unfold S7_2; rw [T7_1 hE, hE c7_e]; kernel_rfl
theorem X7 : XTie S7 x7 := X_of fun D m E hE args h u => by unfold S7; rw [T7_2 hE]; kernel_rfl
/- 8 -/
def c8_e : XC := (.sO [.mv p0 (cb false) .b] (.sO [.al p7 (.bsl [(.str []), (.str [])] 2 [⟨0, 1, (.c (.str [115, 116, 97, 116, 105, 99, 32, 105, 110, 116, 32, 120, 59, 32, 105, 110, 116, 32, 102, 40, 41, 32, 123, 32, 114, 101, 116, 117, 114, 110, 32, 120, 59, 32, 125]))⟩, ⟨1, 1, (.c (.str [105, 110, 116, 32, 102, 40, 41, 59, 32, 105, 110, 116, 32, 109, 97, 105, 110, 40, 41, 32, 123, 32, 114, 101, 116, 117, 114, 110, 32, 102, 40, 41, 59, 32, 125]))⟩]), .cl p8 7 [q7] .v, .mv p6 q8 .v, .P p9 (.ext q6 0) .v, .P p10 (.ext q6 1) .b, .mv p1 q9 .v, .mv p2 q10 .b] (.sO [.mv p12 q1 .v, .cl p13 9 [q12] .v, .mv p11 q13 .v, .P p14 (.ext q11 0) .v, .P p15 (.ext q11 1) tI, .P p16 (.ext q11 2) tI, .al p3 (.new [.nils]), .ss 1 q3 q14, .mv p4 q15 tI, .mv p5 q16 tI] (.sO [.mv p17 q2 .b, .mv p18 q17 .b, .ge p18 (XL.of [.G p18 true p19 (.mov q5) tI, .G p18 true p20 (.bin .eql q19 (ci 0)) .b, .P p21 (.pick q18 q20 (cb false)) .b]) p21 .b, .mv p22 q21 .b, .ge p22 (XL.of [.G p22 true p23 (.faddr 0 q3) .v, .o ⟨(some p24), (.l (.cell q23)), (some (p22, true)), []⟩ .v, .G p22 true p25 (.lenl q24) tI, .G p22 true p26 (.bin .eql q25 (ci 3)) .b, .P p27 (.pick q22 q26 (cb false)) .b]) p27 .b, .mv p28 q27 .b, .ge p28 (XL.of [.G p28 true p29 (.faddr 0 q3) .v, .o ⟨(some p30), (.l (.cell q29)), (some (p28, true)), []⟩ .v, .G p28 true p31 (.iaddr (.sl 17) q30 (ci 0)) .v, .G p28 true p32 (.faddr 3 q31) .v, .o ⟨(some p33), (.l (.cell q32)), (some (p28, true)), []⟩ .s, .G p28 true p34 (.bin .eql q33 (.c (.str [48, 46, 120]))) .b, .P p35 (.pick q28 q34 (cb false)) .b]) p35 .b, .mv p36 q35 .b, .ge p36 (XL.of [.G p36 true p37 (.faddr 0 q3) .v, .o ⟨(some p38), (.l (.cell q37)), (some (p36, true)), []⟩ .v, .G p36 true p39 (.iaddr (.sl 17) q38 (ci 1)) .v, .G p36 true p40 (.faddr 3 q39) .v, .o ⟨(some p41), (.l (.cell q40)), (some (p36, true)), []⟩ .s, .G p36 true p42 (.bin .eql q41 (.c (.str [102]))) .b, .P p43 (.pick q36 q42 (cb false)) .b]) p43 .b, .mv p44 q43 .b, .ge p44 (XL.of [.G p44 true p45 (.faddr 0 q3) .v, .o ⟨(some p46), (.l (.cell q45)), (some (p44, true)), []⟩ .v, .G p44 true p47 (.iaddr (.sl 17) q46 (ci 2)) .v, .G p44 true p48 (.faddr 3 q47) .v, .o ⟨(some p49), (.l (.cell q48)), (some (p44, true)), []⟩ .s, .G p44 true p50 (.bin .eql q49 (.c (.str [109, 97, 105, 110]))) .b, .P p51 (.pick q44 q50 (cb false)) .b]) p51 .b, .mv p52 q51 .b, .ge p52 (XL.of [.G p52 true p53 (.faddr 0 q3) .v, .o ⟨(some p54), (.l (.cell q53)), (some (p52, true)), []⟩ .v, .G p52 true p55 (.iaddr (.sl 17) q54 (ci 1)) .v, .G p52 true p56 (.faddr 9 q55) .v, .G p52 true p57 (.faddr 2 q56) .v, .o ⟨(some p58), (.l (.cell q57)), (some (p52, true)), []⟩ .v, .G p52 true p59 (.iaddr (.sl 7) q58 (ci 0)) .v, .G p52 true p60 (.faddr 1 q59) .v, .o ⟨(some p61), (.l (.cell q60)), (some (p52, true)), []⟩ .v, .G p52 true p62 (.iaddr (.sl 8) q61 (ci 0)) .v, .G p52 true p63 (.faddr 2 q62) .v, .o ⟨(some p64), (.l (.cell q63)), (some (p52, true)), []⟩ .s, .G p52 true p65 (.bin .eql q64 (.c (.str [48, 46, 120]))) .b, .P p66 (.pick q52 q65 (cb false)) .b]) p66 .b, .mv p0 q66 .b] (.s .ret)))))
def x8 : XFn := ⟨[], false, [(.tmp p0)], c8_e⟩
def e8_0 (k h) := kN k [] h
def S8_0 (D : CallD) (m : Nat) (h : HP) : Res2 :=
 let t7 := AV.slice (HP.nxQ h) 0 2 (.exact 2)
 let h1 := HP.newQ h (.cells true [(vS ([115, 116, 97, 116, 105, 99, 32, 105, 110, 116, 32, 120, 59, 32, 105, 110, 116, 32, 102, 40, 41, 32, 123, 32, 114, 101, 116, 117, 114, 110, 32, 120, 59, 32, 125] : LN)), (vS ([105, 110, 116, 32, 102, 40, 41, 59, 32, 105, 110, 116, 32, 109, 97, 105, 110, 40, 41, 32, 123, 32, 114, 101, 116, 117, 114, 110, 32, 102, 40, 41, 59, 32, 125] : LN))])
 cal D 7 [t7] h1 fun t8 h2 =>
 extC t8 0 fun t9 =>
 extC t8 1 fun vt10 => asB vt10 fun t10 =>
 cal D 9 [t9] h2 fun t13 h3 =>
 extC t13 0 fun t14 =>
 extC t13 1 fun vt15 => asI .i64 vt15 fun t15 =>
 extC t13 2 fun vt16 => asI .i64 vt16 fun t16 =>
 let t3 := AV.ptr (HP.nxQ h3) 0
 let h4 := HP.newQ h3 (.cells true [.nils])
 stsC 1 t3 t14 h4 fun h5 =>
 obB (brV t10 (
 let t20 := eqQ t16 (Int.ofNat 0)
 some (vB t20)) (
 some (vB false))) fun t21 =>
 obB (brV t21 (
 let t23 := (AV.ptr (HP.nxQ h3) (Nat.add 0 0))
 cellCV t23 h5 fun t24 =>
 lenCV t24 fun vt25 => asIV .i64 vt25 fun t25 =>
 let t26 := eqQ t25 (Int.ofNat 3)
 some (vB t26)) (
 some (vB false))) fun t27 =>
 obB (brV t27 (
 let t29 := (AV.ptr (HP.nxQ h3) (Nat.add 0 0))
 cellCV t29 h5 fun t30 =>
 iasCV 17 t30 (vI (Int.ofNat 0)) fun t31 =>
 faCV 3 t31 fun t32 =>
 ldSV t32 h5 fun t33 =>
 let t34 := eqL t33 ([48, 46, 120] : LN)
 some (vB t34)) (
 some (vB false))) fun t35 =>
 obB (brV t35 (
 let t37 := (AV.ptr (HP.nxQ h3) (Nat.add 0 0))
 cellCV t37 h5 fun t38 =>
 iasCV 17 t38 (vI (Int.ofNat 1)) fun t39 =>
 faCV 3 t39 fun t40 =>
 ldSV t40 h5 fun t41 =>
 let t42 := eqL t41 ([102] : LN)
 some (vB t42)) (
 some (vB false))) fun t43 =>
 obB (brV t43 (
 let t45 := (AV.ptr (HP.nxQ h3) (Nat.add 0 0))
 cellCV t45 h5 fun t46 =>
 iasCV 17 t46 (vI (Int.ofNat 2)) fun t47 =>
 faCV 3 t47 fun t48 =>
 ldSV t48 h5 fun t49 =>
 let t50 := eqL t49 ([109, 97, 105, 110] : LN)
 some (vB t50)) (
 some (vB false))) fun t51 =>
 obB (brV t51 (
 let t53 := (AV.ptr (HP.nxQ h3) (Nat.add 0 0))
 cellCV t53 h5 fun t54 =>
 iasCV 17 t54 (vI (Int.ofNat 1)) fun t55 =>
 faCV 9 t55 fun t56 =>
 faCV 2 t56 fun t57 =>
 cellCV t57 h5 fun t58 =>
 iasCV 7 t58 (vI (Int.ofNat 0)) fun t59 =>
 faCV 1 t59 fun t60 =>
 cellCV t60 h5 fun t61 =>
 iasCV 8 t61 (vI (Int.ofNat 0)) fun t62 =>
 faCV 2 t62 fun t63 =>
 ldSV t63 h5 fun t64 =>
 let t65 := eqL t64 ([48, 46, 120] : LN)
 some (vB t65)) (
 some (vB false))) fun t66 =>
 some (.ret (vB t66) h5, .no)
def S8 : SFn := fun D m args h u => nou u <| endA args (S8_0 D m h)
theorem T8_0 (hE : FX x8 D m E) : S8_0 D m = e8_0 (E c8_e []) := by unfold S8_0; rw [hE c8_e]; kernel_rfl
theorem X8 : XTie S8 x8 := X_of fun D m E hE args h u => by unfold S8; rw [T8_0 hE]; kernel_rfl
/- 9 -/
def v9_2 : List Pos := [p2, p5, p18]
def c9_2 : XC := (.seq (.seq (.oX [.mv p140 q5 .v, .L p141 (.look .str (.agg [(.bool false), (.bool false), (.bool false), (.str []), (kI 0), (kI 0), .nils, (.bool false), .nils, (kI 0), .nils, .nils, (.str []), (kI 0), (kI 0), (kI 0), (kI 0)]) true q140 (.c (.str [109, 97, 105, 110]))) .v, .mv p139 q141 .v, .P p142 (.ext q139 0) .v, .P p143 (.ext q139 1) .b, .al p25 (.new [(.bool false), (.bool false), (.bool false), (.str []), (kI 0), (kI 0), .nils, (.bool false), .nils, (kI 0), .nils, .nils, (.str []), (kI 0), (kI 0), (kI 0), (kI 0)]), .ss 17 q25 q142, .mv p26 q143 .b]) (.seq (.oX [.mv p144 q26 .b, .P p145 (.un .not q144) .b]) (.cond q145 (.seq (.oX [.P p146 (.build [.nils] []) .v, .ss 1 q2 q146, .mv p3 (ci 0) tI, .mv p4 (ci 16) tI]) .ret) .skip))) (.sO [.L p147 (.cells 1 q18) .v, .ss 1 q2 q147, .mv p3 (ci 0) tI, .mv p4 (ci 0) tI] (.s .ret)))
def v9_4 : List Pos := [p2, p5, p18, p106, p107, p108]
def c9_4 : XC := (.s (.oX [.bn p138 .add q108 (ci 1) tI, .mv p108 q138 tI]))
def v9_5 : List Pos := [p2, p5, p18, p19, p20, p106, p107, p108]
def c9_5 : XC := (.s (.ops true (XL.of [.fa p131 0 q18, .ld p132 q131 .v, .L p133 (.cells 1 q20) .v, .mv p134 q19 tI, .o ⟨(some p135), (.call (.fn 18) [q133, q134]), none, [⟨none, .cell q131, p132⟩]⟩ .v, .o ⟨(some p136), (.e (.app 17 200 q132 q135)), none, []⟩ .v, .fa p137 0 q18, .st q137 q136])))
def v9_6 : List Pos := [p2, p5, p18, p19, p20, p106, p107, p108, p114, p115, p116]
def c9_6b : XC := (.sO [.bn p117 .lss q116 q115 .b] (.seq (.cond q117 .skip (.exit 10)) (.seq (.block 11 (.seq (.oX [.P p118 (.iaddr (.sl 1) q114 q116) .v, .ld p119 q118 .s, .mv p22 q119 .s]) (.seq (.oX [.mv p121 q5 .v, .mv p122 q22 .s, .L p123 (.look .str (.agg [(.bool false), (.bool false), (.bool false), (.str []), (kI 0), (kI 0), .nils, (.bool false), .nils, (kI 0), .nils, .nils, (.str []), (kI 0), (kI 0), (kI 0), (kI 0)]) true q121 q122) .v, .mv p120 q123 .v, .P p124 (.ext q120 0) .v, .P p125 (.ext q120 1) .b, .al p23 (.new [(.bool false), (.bool false), (.bool false), (.str []), (kI 0), (kI 0), .nils, (.bool false), .nils, (kI 0), .nils, .nils, (.str []), (kI 0), (kI 0), (kI 0), (kI 0)]), .ss 17 q23 q124, .mv p24 q125 .b]) (.seq (.oX [.mv p126 q24 .b, .P p127 (.un .not q126) .b]) (.cond q127 (.seq (.oX [.P p128 (.build [.nils] []) .v, .mv p129 q19 tI, .ss 1 q2 q128, .mv p3 q129 tI, .mv p4 (ci 3) tI]) .ret) .skip))))) (.s (.oX [.bn p130 .add q116 (ci 1) tI, .mv p116 q130 tI])))))
def v9_3 : List Pos := [p2, p5, p18, p106, p107, p108]
def c9_3b : XC := (.sO [.bn p109 .lss q108 q107 .b] (.seq (.cond q109 .skip (.exit 8)) (.sj v9_4 (.block 9 (.sO [.mv p110 q108 tI, .P p111 (.iaddr (.sl 1) q106 q108) .v, .L p112 (.cells 1 q111) .v, .al p20 (.new [.nils]), .mv p19 q110 tI, .ss 1 q20 q112] (.sj v9_5 (.sO [.L p113 (.cells 1 q20) .v, .cl p114 17 [q113] .v, .P p115 (.lenl q114) tI, .mv p116 (ci 0) tI] (.block 10 (.loop v9_6 c9_6b))) c9_5))) c9_4)))
def v9_1 : List Pos := [p0, p2, p5]
def c9_1 : XC := (.sO [.al p18 (.new [.nils])] (.sj v9_2 (.sO [.mv p106 q0 .v, .P p107 (.lenl q106) tI, .mv p108 (ci 0) tI] (.block 8 (.loop v9_3 c9_3b))) c9_2))
def v9_8 : List Pos := [p0, p2, p5, p69, p70, p71]
def c9_8 : XC := (.s (.oX [.bn p105 .add q71 (ci 1) tI, .mv p71 q105 tI]))
def v9_10 : List Pos := [p0, p2, p5, p12, p69, p70, p71, p77, p78, p79]
def c9_10 : XC := (.s (.oX [.bn p104 .add q79 (ci 1) tI, .mv p79 q104 tI]))
def c9_12 : XC := (.cond q101 (.sO [.P p102 (.build [.nils] []) .v, .mv p103 q12 tI, .ss 1 q2 q102, .mv p3 q103 tI, .mv p4 (ci 17) tI] (.s .ret)) (.s .skip))
def l9_11 : XL := (XL.of [])
def v9_9 : List Pos := [p0, p2, p5, p12, p69, p70, p71, p77, p78, p79]
def c9_9b : XC := (.sO [.bn p80 .lss q79 q78 .b] (.seq (.cond q80 .skip (.exit 6)) (.sj v9_10 (.block 7 (.sO [.P p81 (.iaddr (.sl 17) q77 q79) .v, .L p82 (.cells 17 q81) .v, .al p15 (.new [(.bool false), (.bool false), (.bool false), (.str []), (kI 0), (kI 0), .nils, (.bool false), .nils, (kI 0), .nils, .nils, (.str []), (kI 0), (kI 0), (kI 0), (kI 0)]), .ss 17 q15 q82] (.sO [.mv p84 q5 .v, .fa p85 3 q15, .ld p86 q85 .s, .L p87 (.look .str (.agg [(.bool false), (.bool false), (.bool false), (.str []), (kI 0), (kI 0), .nils, (.bool false), .nils, (kI 0), .nils, .nils, (.str []), (kI 0), (kI 0), (kI 0), (kI 0)]) true q84 q86) .v, .mv p83 q87 .v, .P p88 (.ext q83 0) .v, .P p89 (.ext q83 1) .b, .al p16 (.new [(.bool false), (.bool false), (.bool false), (.str []), (kI 0), (kI 0), .nils, (.bool false), .nils, (kI 0), .nils, .nils, (.str []), (kI 0), (kI 0), (kI 0), (kI 0)]), .ss 17 q16 q88, .mv p17 q89 .b] (.opq false (XL.pre [.mv p90 q17 .b, .mv p91 q90 .b, .ge p91 (XL.of [.G p91 true p92 (.faddr 1 q15) .v, .o ⟨(some p93), (.l (.cell q92)), (some (p91, true)), []⟩ .b, .G p91 true p94 (.un .not q93) .b, .P p95 (.pick q91 q94 (cb false)) .b]) p95 .b, .mv p96 q95 .b, .sp p96, .o ⟨(some p97), (.l (.cells 17 q16)), (some (p96, true)), []⟩ .v, .o ⟨(some p98), (.l (.cells 17 q15)), (some (p96, true)), []⟩ .v, .o ⟨(some p99), (.call (.fn 16) [q97, q98]), (some (p96, true)), []⟩ .b, .G p96 true p100 (.un .not q99) .b, .P p101 (.pick q96 q100 (cb false)) .b, .jn p96 [p0, p2, p5, p12, p69, p70, p71, p77, p78, p79, p101]] l9_11) c9_12)))) c9_10)))
def v9_7 : List Pos := [p0, p2, p5, p69, p70, p71]
def c9_7b : XC := (.sO [.bn p72 .lss q71 q70 .b] (.seq (.cond q72 .skip (.exit 4)) (.sj v9_8 (.block 5 (.sO [.mv p73 q71 tI, .P p74 (.iaddr (.sl 1) q69 q71) .v, .L p75 (.cells 1 q74) .v, .al p13 (.new [.nils]), .mv p12 q73 tI, .ss 1 q13 q75] (.sO [.fa p76 0 q13, .ld p77 q76 .v, .P p78 (.lenl q77) tI, .mv p79 (ci 0) tI] (.block 6 (.loop v9_9 c9_9b))))) c9_8)))
def v9_0 : List Pos := [p0, p2, p5]
def c9_0 : XC := (.sj v9_1 (.sO [.mv p69 q0 .v, .P p70 (.lenl q69) tI, .mv p71 (ci 0) tI] (.block 4 (.loop v9_7 c9_7b))) c9_1)
def v9_14 : List Pos := [p0, p2, p5, p32, p33, p34]
def c9_14 : XC := (.s (.oX [.bn p68 .add q34 (ci 1) tI, .mv p34 q68 tI]))
def v9_16 : List Pos := [p0, p2, p5, p6, p32, p33, p34, p40, p41, p42]
def c9_16 : XC := (.s (.oX [.bn p67 .add q42 (ci 1) tI, .mv p42 q67 tI]))
def v9_17 : List Pos := [p0, p2, p5, p6, p9, p32, p33, p34, p40, p41, p42]
def c9_17 : XC := (.seq (.seq (.oX [.mv p54 q5 .v, .fa p55 3 q9, .ld p56 q55 .s, .L p57 (.look .str (.agg [(.bool false), (.bool false), (.bool false), (.str []), (kI 0), (kI 0), .nils, (.bool false), .nils, (kI 0), .nils, .nils, (.str []), (kI 0), (kI 0), (kI 0), (kI 0)]) true q54 q56) .v, .mv p53 q57 .v, .P p58 (.ext q53 0) .v, .P p59 (.ext q53 1) .b, .al p10 (.new [(.bool false), (.bool false), (.bool false), (.str []), (kI 0), (kI 0), .nils, (.bool false), .nils, (kI 0), .nils, .nils, (.str []), (kI 0), (kI 0), (kI 0), (kI 0)]), .ss 17 q10 q58, .mv p11 q59 .b]) (.seq (.oX [.mv p60 q11 .b]) (.cond q60 (.seq (.oX [.P p61 (.build [.nils] []) .v, .mv p62 q6 tI, .ss 1 q2 q61, .mv p3 q62 tI, .mv p4 (ci 4) tI]) .ret) .skip))) (.s (.oX [.mv p63 q5 .v, .fa p64 3 q9, .ld p65 q64 .s, .L p66 (.cells 17 q9) .v, .o ⟨none, (.e (.mset .str q63 q65 q66)), none, []⟩ .v])))
def c9_19 : XC := (.cond q52 (.s (.exit 3)) (.s .skip))
def l9_18 : XL := (XL.of [])
def v9_15 : List Pos := [p0, p2, p5, p6, p32, p33, p34, p40, p41, p42]
def c9_15b : XC := (.sO [.bn p43 .lss q42 q41 .b] (.seq (.cond q43 .skip (.exit 2)) (.sj v9_16 (.block 3 (.sO [.P p44 (.iaddr (.sl 17) q40 q42) .v, .L p45 (.cells 17 q44) .v, .al p9 (.new [(.bool false), (.bool false), (.bool false), (.str []), (kI 0), (kI 0), .nils, (.bool false), .nils, (kI 0), .nils, .nils, (.str []), (kI 0), (kI 0), (kI 0), (kI 0)]), .ss 17 q9 q45] (.sj v9_17 (.opq false (XL.pre [.fa p46 1 q9, .ld p47 q46 .b, .mv p48 q47 .b, .sp p48, .o ⟨(some p49), (.l (.cells 17 q9)), (some (p48, false)), []⟩ .v, .o ⟨(some p50), (.call (.fn 15) [q49]), (some (p48, false)), []⟩ .b, .G p48 false p51 (.un .not q50) .b, .P p52 (.pick q48 (cb true) q51) .b, .jn p48 [p0, p2, p5, p6, p9, p32, p33, p34, p40, p41, p42, p52]] l9_18) c9_19) c9_17))) c9_16)))
def v9_13 : List Pos := [p0, p2, p5, p32, p33, p34]
def c9_13b : XC := (.sO [.bn p35 .lss q34 q33 .b] (.seq (.cond q35 .skip (.exit 0)) (.sj v9_14 (.block 1 (.sO [.mv p36 q34 tI, .P p37 (.iaddr (.sl 1) q32 q34) .v, .L p38 (.cells 1 q37) .v, .al p7 (.new [.nils]), .mv p6 q36 tI, .ss 1 q7 q38] (.sO [.fa p39 0 q7, .ld p40 q39 .v, .P p41 (.lenl q40) tI, .mv p42 (ci 0) tI] (.block 2 (.loop v9_15 c9_15b))))) c9_14)))
def c9_e : XC := (.sO [.al p2 (.new [.nils]), .mv p3 (ci 0) tI, .mv p4 (ci 0) tI] (.seq (.seq (.oX [.mv p27 q0 .v, .P p28 (.lenl q27) tI, .bn p29 .gtr q28 (ci 8) .b]) (.cond q29 (.seq (.oX [.P p30 (.build [.nils] []) .v, .ss 1 q2 q30, .mv p3 (ci 8) tI, .mv p4 (ci 5) tI]) .ret) .skip)) (.sO [.al p31 (.mkmap), .mv p5 q31 .v] (.sj v9_0 (.sO [.mv p32 q0 .v, .P p33 (.lenl q32) tI, .mv p34 (ci 0) tI] (.block 0 (.loop v9_13 c9_13b))) c9_0))))
def x9 : XFn := ⟨[.v], false, [(.cells 1 p2), (.tmp p3), (.tmp p4)], c9_e⟩
def e9_2 (k t2 t5 t18 h) := kN k [(p2, t2), (p5, t5), (p18, t18)] h
def S9_2 (D : CallD) (m : Nat) (t2 t5 t18 : AV) (h : HP) : Res2 :=
 obQ (evL (.look .str (.agg [(.bool false), (.bool false), (.bool false), (.str []), (kI 0), (kI 0), .nils, (.bool false), .nils, (kI 0), .nils, .nils, (.str []), (kI 0), (kI 0), (kI 0), (kI 0)]) true (.c t5) (.c (vS ([109, 97, 105, 110] : LN)))) .leaf h) fun t141 =>
 extC t141 0 fun t142 =>
 extC t141 1 fun vt143 => asB vt143 fun t143 =>
 let t25 := AV.ptr (HP.nxQ h) 0
 let h25 := HP.newQ h (.cells true [(.bool false), (.bool false), (.bool false), (.str []), (kI 0), (kI 0), .nils, (.bool false), .nils, (kI 0), .nils, .nils, (.str []), (kI 0), (kI 0), (kI 0), (kI 0)])
 stsC 17 t25 t142 h25 fun h26 =>
 let t145 := !t143
 br t145 (
 let t146 := (AV.agg [(.nils : AV)])
 stsC 1 t2 t146 h26 fun h27 =>
 cellsC 1 t2 h27 fun t2a =>
 some (.ret (.tup [t2a, (vI (Int.ofNat 0)), (vI (Int.ofNat 16))]) h27, .no)) (
 cellsC 1 t18 h26 fun t147 =>
 stsC 1 t2 t147 h26 fun h28 =>
 cellsC 1 t2 h28 fun t2a =>
 some (.ret (.tup [t2a, (vI (Int.ofNat 0)), (vI (Int.ofNat 0))]) h28, .no))
def e9_4 (k t2 t5 t18 t106 t107 t108 h) := kN k [(p2, t2), (p5, t5), (p18, t18), (p106, t106), (p107, (vI t107)), (p108, (vI t108))] h
def S9_4 (D : CallD) (m : Nat) (g3 : AV → AV → AV → AV → Int → Int → HP → Res2) (t2 t5 t18 t106 : AV) (t107 t108 : Int) (h : HP) : Res2 :=
 let t138 := wrQ .i64 (addQ t108 (Int.ofNat 1))
 g3 t2 t5 t18 t106 t107 t138 h
def e9_5 (k t2 t5 t18 t19 t20 t106 t107 t108 h) := kN k [(p2, t2), (p5, t5), (p18, t18), (p19, (vI t19)), (p20, t20), (p106, t106), (p107, (vI t107)), (p108, (vI t108))] h
def S9_5 (D : CallD) (m : Nat) (g3 : AV → AV → AV → AV → Int → Int → HP → Res2) (t2 t5 t18 : AV) (t19 : Int) (t20 t106 : AV) (t107 t108 : Int) (h : HP) : Res2 :=
 faC 0 t18 fun t131 =>
 cellC t131 h fun t132 =>
 cellsC 1 t20 h fun t133 =>
 cal D 18 [t133, (vI t19)] h fun t135 h31 =>
 br (again [⟨none, .cell q131, p132⟩] (mkT [(p132, t132), (p131, t131)]) h31) (
 eff (.app 17 200 (.c t132) (.c t135)) h31 fun t136 h32 =>
 faC 0 t18 fun t137 =>
 stoC t137 t136 h32 fun h33 =>
 S9_4 D m g3 t2 t5 t18 t106 t107 t108 h33) none
def e9_6 (k t2 t5 t18 t19 t20 t106 t107 t108 t114 t115 t116 h) := kN k [(p2, t2), (p5, t5), (p18, t18), (p19, (vI t19)), (p20, t20), (p106, t106), (p107, (vI t107)), (p108, (vI t108)), (p114, t114), (p115, (vI t115)), (p116, (vI t116))] h
def S9_6b (D : CallD) (m : Nat) (g6 : AV → AV → AV → Int → AV → AV → Int → Int → AV → Int → Int → HP → Res2) (g3 : AV → AV → AV → AV → Int → Int → HP → Res2) (t2 t5 t18 : AV) (t19 : Int) (t20 t106 : AV) (t107 t108 : Int) (t114 : AV) (t115 t116 : Int) (h : HP) : Res2 :=
 let t117 := ltQ t116 t115
 br t117 (
 iasC 1 t114 (vI t116) fun t118 =>
 ldS t118 h fun t119 =>
 obQ (evL (.look .str (.agg [(.bool false), (.bool false), (.bool false), (.str []), (kI 0), (kI 0), .nils, (.bool false), .nils, (kI 0), .nils, .nils, (.str []), (kI 0), (kI 0), (kI 0), (kI 0)]) true (.c t5) (.c (vS t119))) .leaf h) fun t123 =>
 extC t123 0 fun t124 =>
 extC t123 1 fun vt125 => asB vt125 fun t125 =>
 let t23 := AV.ptr (HP.nxQ h) 0
 let h35 := HP.newQ h (.cells true [(.bool false), (.bool false), (.bool false), (.str []), (kI 0), (kI 0), .nils, (.bool false), .nils, (kI 0), .nils, .nils, (.str []), (kI 0), (kI 0), (kI 0), (kI 0)])
 stsC 17 t23 t124 h35 fun h36 =>
 let t127 := !t125
 br t127 (
 let t128 := (AV.agg [(.nils : AV)])
 stsC 1 t2 t128 h36 fun h37 =>
 cellsC 1 t2 h37 fun t2a =>
 some (.ret (.tup [t2a, (vI t19), (vI (Int.ofNat 3))]) h37, .no)) (
 let t130 := wrQ .i64 (addQ t116 (Int.ofNat 1))
 g6 t2 t5 t18 t19 t20 t106 t107 t108 t114 t115 t130 h36)) (
 S9_5 D m g3 t2 t5 t18 t19 t20 t106 t107 t108 h)
def S9_6 (D : CallD) (m : Nat) (g3 : AV → AV → AV → AV → Int → Int → HP → Res2) : AV → AV → AV → Int → AV → AV → Int → Int → AV → Int → Int → HP → Res2 := nrec (fun _ _ _ _ _ _ _ _ _ _ _ _ => none) (fun _ g => S9_6b D m g g3) m
def e9_3 (k t2 t5 t18 t106 t107 t108 h) := kN k [(p2, t2), (p5, t5), (p18, t18), (p106, t106), (p107, (vI t107)), (p108, (vI t108))] h
def S9_3b (D : CallD) (m : Nat) (g3 : AV → AV → AV → AV → Int → Int → HP → Res2) (t2 t5 t18 t106 : AV) (t107 t108 : Int) (h : HP) : Res2 :=
 let t109 := ltQ t108 t107
 br t109 (
 iasC 1 t106 (vI t108) fun t111 =>
 cellsC 1 t111 h fun t112 =>
 let t20 := AV.ptr (HP.nxQ h) 0
 let h29 := HP.newQ h (.cells true [.nils])
 stsC 1 t20 t112 h29 fun h30 =>
 cellsC 1 t20 h30 fun t113 =>
 cal D 17 [t113] h30 fun t114 h34 =>
 lenC t114 fun vt115 => asI .i64 vt115 fun t115 =>
 S9_6 D m g3 t2 t5 t18 t108 t20 t106 t107 t108 t114 t115 (Int.ofNat 0) h34) (
 S9_2 D m t2 t5 t18 h)
def S9_3 (D : CallD) (m : Nat) : AV → AV → AV → AV → Int → Int → HP → Res2 := nrec (fun _ _ _ _ _ _ _ => none) (fun _ g => S9_3b D m g) m
def e9_1 (k t0 t2 t5 h) := kN k [(p0, t0), (p2, t2), (p5, t5)] h
def S9_1 (D : CallD) (m : Nat) (t0 t2 t5 : AV) (h : HP) : Res2 :=
 let t18 := AV.ptr (HP.nxQ h) 0
 let h24 := HP.newQ h (.cells true [.nils])
 lenC t0 fun vt107 => asI .i64 vt107 fun t107 =>
 S9_3 D m t2 t5 t18 t0 t107 (Int.ofNat 0) h24
def e9_8 (k t0 t2 t5 t69 t70 t71 h) := kN k [(p0, t0), (p2, t2), (p5, t5), (p69, t69), (p70, (vI t70)), (p71, (vI t71))] h
def S9_8 (D : CallD) (m : Nat) (g7 : AV → AV → AV → AV → Int → Int → HP → Res2) (t0 t2 t5 t69 : AV) (t70 t71 : Int) (h : HP) : Res2 :=
 let t105 := wrQ .i64 (addQ t71 (Int.ofNat 1))
 g7 t0 t2 t5 t69 t70 t105 h
def e9_10 (k t0 t2 t5 t12 t69 t70 t71 t77 t78 t79 h) := kN k [(p0, t0), (p2, t2), (p5, t5), (p12, (vI t12)), (p69, t69), (p70, (vI t70)), (p71, (vI t71)), (p77, t77), (p78, (vI t78)), (p79, (vI t79))] h
def S9_10 (D : CallD) (m : Nat) (g9 : AV → AV → AV → Int → AV → Int → Int → AV → Int → Int → HP → Res2) (g7 : AV → AV → AV → AV → Int → Int → HP → Res2) (t0 t2 t5 : AV) (t12 : Int) (t69 : AV) (t70 t71 : Int) (t77 : AV) (t78 t79 : Int) (h : HP) : Res2 :=
 let t104 := wrQ .i64 (addQ t79 (Int.ofNat 1))
 g9 t0 t2 t5 t12 t69 t70 t71 t77 t78 t104 h
def e9_11 (k t0 t2 t5 t12 t69 t70 t71 t77 t78 t79 t101 h) := kN k [(p0, t0), (p2, t2), (p5, t5), (p12, (vI t12)), (p69, t69), (p70, (vI t70)), (p71, (vI t71)), (p77, t77), (p78, (vI t78)), (p79, (vI t79)), (p101, (vB t101))] h
def S9_11 (D : CallD) (m : Nat) (g9 : AV → AV → AV → Int → AV → Int → Int → AV → Int → Int → HP → Res2) (g7 : AV → AV → AV → AV → Int → Int → HP → Res2) (t0 t2 t5 : AV) (t12 : Int) (t69 : AV) (t70 t71 : Int) (t77 : AV) (t78 t79 : Int) (t101 : Bool) (h : HP) : Res2 :=
 br t101 (
 let t102 := (AV.agg [(.nils : AV)])
 stsC 1 t2 t102 h fun h45 =>
 cellsC 1 t2 h45 fun t2a =>
 some (.ret (.tup [t2a, (vI t12), (vI (Int.ofNat 17))]) h45, .no)) (
 S9_10 D m g9 g7 t0 t2 t5 t12 t69 t70 t71 t77 t78 t79 h)
def e9_9 (k t0 t2 t5 t12 t69 t70 t71 t77 t78 t79 h) := kN k [(p0, t0), (p2, t2), (p5, t5), (p12, (vI t12)), (p69, t69), (p70, (vI t70)), (p71, (vI t71)), (p77, t77), (p78, (vI t78)), (p79, (vI t79))] h
def S9_9b (D : CallD) (m : Nat) (g9 : AV → AV → AV → Int → AV → Int → Int → AV → Int → Int → HP → Res2) (g7 : AV → AV → AV → AV → Int → Int → HP → Res2) (t0 t2 t5 : AV) (t12 : Int) (t69 : AV) (t70 t71 : Int) (t77 : AV) (t78 t79 : Int) (h : HP) : Res2 :=
 let t80 := ltQ t79 t78
 br t80 (
 iasC 17 t77 (vI t79) fun t81 =>
 cellsC 17 t81 h fun t82 =>
 let t15 := AV.ptr (HP.nxQ h) 0
 let h40 := HP.newQ h (.cells true [(.bool false), (.bool false), (.bool false), (.str []), (kI 0), (kI 0), .nils, (.bool false), .nils, (kI 0), .nils, .nils, (.str []), (kI 0), (kI 0), (kI 0), (kI 0)])
 stsC 17 t15 t82 h40 fun h41 =>
 let t85 := (AV.ptr (HP.nxQ h) (Nat.add 0 3))
 ldS t85 h41 fun t86 =>
 obQ (evL (.look .str (.agg [(.bool false), (.bool false), (.bool false), (.str []), (kI 0), (kI 0), .nils, (.bool false), .nils, (kI 0), .nils, .nils, (.str []), (kI 0), (kI 0), (kI 0), (kI 0)]) true (.c t5) (.c (vS t86))) .leaf h41) fun t87 =>
 extC t87 0 fun t88 =>
 extC t87 1 fun vt89 => asB vt89 fun t89 =>
 let t16 := AV.ptr (HP.nxQ h41) 0
 let h42 := HP.newQ h41 (.cells true [(.bool false), (.bool false), (.bool false), (.str []), (kI 0), (kI 0), .nils, (.bool false), .nils, (kI 0), .nils, .nils, (.str []), (kI 0), (kI 0), (kI 0), (kI 0)])
 stsC 17 t16 t88 h42 fun h43 =>
 obB (brV t89 (
 let t92 := (AV.ptr (HP.nxQ h) (Nat.add 0 1))
 ldBV t92 h43 fun t93 =>
 let t94 := !t93
 some (vB t94)) (
 some (vB false))) fun t95 =>
 br t95 (
 cellsC 17 t16 h43 fun t97 =>
 cellsC 17 t15 h43 fun t98 =>
 cal D 16 [t97, t98] h43 fun t99 h44 =>
 asB t99 fun t99a =>
 let t100 := !t99a
 S9_11 D m g9 g7 t0 t2 t5 t12 t69 t70 t71 t77 t78 t79 t100 h44) (
 S9_11 D m g9 g7 t0 t2 t5 t12 t69 t70 t71 t77 t78 t79 false h43)) (
 S9_8 D m g7 t0 t2 t5 t69 t70 t71 h)
def S9_9 (D : CallD) (m : Nat) (g7 : AV → AV → AV → AV → Int → Int → HP → Res2) : AV → AV → AV → Int → AV → Int → Int → AV → Int → Int → HP → Res2 := nrec (fun _ _ _ _ _ _ _ _ _ _ _ => none) (fun _ g => S9_9b D m g g7) m
def e9_7 (k t0 t2 t5 t69 t70 t71 h) := kN k [(p0, t0), (p2, t2), (p5, t5), (p69, t69), (p70, (vI t70)), (p71, (vI t71))] h
def S9_7b (D : CallD) (m : Nat) (g7 : AV → AV → AV → AV → Int → Int → HP → Res2) (t0 t2 t5 t69 : AV) (t70 t71 : Int) (h : HP) : Res2 :=
 let t72 := ltQ t71 t70
 br t72 (
 iasC 1 t69 (vI t71) fun t74 =>
 cellsC 1 t74 h fun t75 =>
 let t13 := AV.ptr (HP.nxQ h) 0
 let h38 := HP.newQ h (.cells true [.nils])
 stsC 1 t13 t75 h38 fun h39 =>
 let t76 := (AV.ptr (HP.nxQ h) (Nat.add 0 0))
 cellC t76 h39 fun t77 =>
 lenC t77 fun vt78 => asI .i64 vt78 fun t78 =>
 S9_9 D m g7 t0 t2 t5 t71 t69 t70 t71 t77 t78 (Int.ofNat 0) h39) (
 S9_1 D m t0 t2 t5 h)
def S9_7 (D : CallD) (m : Nat) : AV → AV → AV → AV → Int → Int → HP → Res2 := nrec (fun _ _ _ _ _ _ _ => none) (fun _ g => S9_7b D m g) m
def e9_0 (k t0 t2 t5 h) := kN k [(p0, t0), (p2, t2), (p5, t5)] h
def S9_0 (D : CallD) (m : Nat) (t0 t2 t5 : AV) (h : HP) : Res2 :=
 lenC t0 fun vt70 => asI .i64 vt70 fun t70 =>
 S9_7 D m t0 t2 t5 t0 t70 (Int.ofNat 0) h
def e9_14 (k t0 t2 t5 t32 t33 t34 h) := kN k [(p0, t0), (p2, t2), (p5, t5), (p32, t32), (p33, (vI t33)), (p34, (vI t34))] h
def S9_14 (D : CallD) (m : Nat) (g13 : AV → AV → AV → AV → Int → Int → HP → Res2) (t0 t2 t5 t32 : AV) (t33 t34 : Int) (h : HP) : Res2 :=
 let t68 := wrQ .i64 (addQ t34 (Int.ofNat 1))
 g13 t0 t2 t5 t32 t33 t68 h
def e9_16 (k t0 t2 t5 t6 t32 t33 t34 t40 t41 t42 h) := kN k [(p0, t0), (p2, t2), (p5, t5), (p6, (vI t6)), (p32, t32), (p33, (vI t33)), (p34, (vI t34)), (p40, t40), (p41, (vI t41)), (p42, (vI t42))] h
def S9_16 (D : CallD) (m : Nat) (g15 : AV → AV → AV → Int → AV → Int → Int → AV → Int → Int → HP → Res2) (g13 : AV → AV → AV → AV → Int → Int → HP → Res2) (t0 t2 t5 : AV) (t6 : Int) (t32 : AV) (t33 t34 : Int) (t40 : AV) (t41 t42 : Int) (h : HP) : Res2 :=
 let t67 := wrQ .i64 (addQ t42 (Int.ofNat 1))
 g15 t0 t2 t5 t6 t32 t33 t34 t40 t41 t67 h
def e9_17 (k t0 t2 t5 t6 t9 t32 t33 t34 t40 t41 t42 h) := kN k [(p0, t0), (p2, t2), (p5, t5), (p6, (vI t6)), (p9, t9), (p32, t32), (p33, (vI t33)), (p34, (vI t34)), (p40, t40), (p41, (vI t41)), (p42, (vI t42))] h
def S9_17 (D : CallD) (m : Nat) (g15 : AV → AV → AV → Int → AV → Int → Int → AV → Int → Int → HP → Res2) (g13 : AV → AV → AV → AV → Int → Int → HP → Res2) (t0 t2 t5 : AV) (t6 : Int) (t9 t32 : AV) (t33 t34 : Int) (t40 : AV) (t41 t42 : Int) (h : HP) : Res2 :=
 faC 3 t9 fun t55 =>
 ldS t55 h fun t56 =>
 obQ (evL (.look .str (.agg [(.bool false), (.bool false), (.bool false), (.str []), (kI 0), (kI 0), .nils, (.bool false), .nils, (kI 0), .nils, .nils, (.str []), (kI 0), (kI 0), (kI 0), (kI 0)]) true (.c t5) (.c (vS t56))) .leaf h) fun t57 =>
 extC t57 0 fun t58 =>
 extC t57 1 fun vt59 => asB vt59 fun t59 =>
 let t10 := AV.ptr (HP.nxQ h) 0
 let h50 := HP.newQ h (.cells true [(.bool false), (.bool false), (.bool false), (.str []), (kI 0), (kI 0), .nils, (.bool false), .nils, (kI 0), .nils, .nils, (.str []), (kI 0), (kI 0), (kI 0), (kI 0)])
 stsC 17 t10 t58 h50 fun h51 =>
 br t59 (
 let t61 := (AV.agg [(.nils : AV)])
 stsC 1 t2 t61 h51 fun h52 =>
 cellsC 1 t2 h52 fun t2a =>
 some (.ret (.tup [t2a, (vI t6), (vI (Int.ofNat 4))]) h52, .no)) (
 faC 3 t9 fun t64 =>
 ldS t64 h51 fun t65 =>
 cellsC 17 t9 h51 fun t66 =>
 eff (.mset .str (.c t5) (.c (vS t65)) (.c t66)) h51 fun t0a h53 =>
 S9_16 D m g15 g13 t0 t2 t5 t6 t32 t33 t34 t40 t41 t42 h53)
def e9_18 (k t0 t2 t5 t6 t9 t32 t33 t34 t40 t41 t42 t52 h) := kN k [(p0, t0), (p2, t2), (p5, t5), (p6, (vI t6)), (p9, t9), (p32, t32), (p33, (vI t33)), (p34, (vI t34)), (p40, t40), (p41, (vI t41)), (p42, (vI t42)), (p52, (vB t52))] h
def S9_18 (D : CallD) (m : Nat) (g15 : AV → AV → AV → Int → AV → Int → Int → AV → Int → Int → HP → Res2) (g13 : AV → AV → AV → AV → Int → Int → HP → Res2) (t0 t2 t5 : AV) (t6 : Int) (t9 t32 : AV) (t33 t34 : Int) (t40 : AV) (t41 t42 : Int) (t52 : Bool) (h : HP) : Res2 :=
 br t52 (
 S9_16 D m g15 g13 t0 t2 t5 t6 t32 t33 t34 t40 t41 t42 h) (
 S9_17 D m g15 g13 t0 t2 t5 t6 t9 t32 t33 t34 t40 t41 t42 h)
def e9_15 (k t0 t2 t5 t6 t32 t33 t34 t40 t41 t42 h) := kN k [(p0, t0), (p2, t2), (p5, t5), (p6, (vI t6)), (p32, t32), (p33, (vI t33)), (p34, (vI t34)), (p40, t40), (p41, (vI t41)), (p42, (vI t42))] h
def S9_15b (D : CallD) (m : Nat) (g15 : AV → AV → AV → Int → AV → Int → Int → AV → Int → Int → HP → Res2) (g13 : AV → AV → AV → AV → Int → Int → HP → Res2) (t0 t2 t5 : AV) (t6 : Int) (t32 : AV) (t33 t34 : Int) (t40 : AV) (t41 t42 : Int) (h : HP) : Res2 :=
 let t43 := ltQ t42 t41
 br t43 (
 iasC 17 t40 (vI t42) fun t44 =>
 cellsC 17 t44 h fun t45 =>
 let t9 := AV.ptr (HP.nxQ h) 0
 let h48 := HP.newQ h (.cells true [(.bool false), (.bool false), (.bool false), (.str []), (kI 0), (kI 0), .nils, (.bool false), .nils, (kI 0), .nils, .nils, (.str []), (kI 0), (kI 0), (kI 0), (kI 0)])
 stsC 17 t9 t45 h48 fun h49 =>
 let t46 := (AV.ptr (HP.nxQ h) (Nat.add 0 1))
 ldB t46 h49 fun t47 =>
 br t47 (
 S9_18 D m g15 g13 t0 t2 t5 t6 t9 t32 t33 t34 t40 t41 t42 true h49) (
 cellsC 17 t9 h49 fun t49 =>
 cal D 15 [t49] h49 fun t50 h54 =>
 asB t50 fun t50a =>
 let t51 := !t50a
 S9_18 D m g15 g13 t0 t2 t5 t6 t9 t32 t33 t34 t40 t41 t42 t51 h54)) (
 S9_14 D m g13 t0 t2 t5 t32 t33 t34 h)
def S9_15 (D : CallD) (m : Nat) (g13 : AV → AV → AV → AV → Int → Int → HP → Res2) : AV → AV → AV → Int → AV → Int → Int → AV → Int → Int → HP → Res2 := nrec (fun _ _ _ _ _ _ _ _ _ _ _ => none) (fun _ g => S9_15b D m g g13) m
def e9_13 (k t0 t2 t5 t32 t33 t34 h) := kN k [(p0, t0), (p2, t2), (p5, t5), (p32, t32), (p33, (vI t33)), (p34, (vI t34))] h
def S9_13b (D : CallD) (m : Nat) (g13 : AV → AV → AV → AV → Int → Int → HP → Res2) (t0 t2 t5 t32 : AV) (t33 t34 : Int) (h : HP) : Res2 :=
 let t35 := ltQ t34 t33
 br t35 (
 iasC 1 t32 (vI t34) fun t37 =>
 cellsC 1 t37 h fun t38 =>
 let t7 := AV.ptr (HP.nxQ h) 0
 let h46 := HP.newQ h (.cells true [.nils])
 stsC 1 t7 t38 h46 fun h47 =>
 let t39 := (AV.ptr (HP.nxQ h) (Nat.add 0 0))
 cellC t39 h47 fun t40 =>
 lenC t40 fun vt41 => asI .i64 vt41 fun t41 =>
 S9_15 D m g13 t0 t2 t5 t34 t32 t33 t34 t40 t41 (Int.ofNat 0) h47) (
 S9_0 D m t0 t2 t5 h)
def S9_13 (D : CallD) (m : Nat) : AV → AV → AV → AV → Int → Int → HP → Res2 := nrec (fun _ _ _ _ _ _ _ => none) (fun _ g => S9_13b D m g) m
def e9_20 (k t0 h) := kN k [(p0, t0)] h
def S9_20 (D : CallD) (m : Nat) (t0 : AV) (h : HP) : Res2 :=
 let t2 := AV.ptr (HP.nxQ h) 0
 let h21 := HP.newQ h (.cells true [.nils])
 lenC t0 fun vt28 => asI .i64 vt28 fun t28 =>
 let t29 := ltQ (Int.ofNat 8) t28
 br t29 (
 let t30 := (AV.agg [(.nils : AV)])
 stsC 1 t2 t30 h21 fun h22 =>
 cellsC 1 t2 h22 fun t2a =>
 some (.ret (.tup [t2a, (vI (Int.ofNat 8)), (vI (Int.ofNat 5))]) h22, .no)) (
 let t31 := AV.map (HP.nxQ h21)
 let h23 := HP.newQ h21 (.map [] 0)
 lenC t0 fun vt33 => asI .i64 vt33 fun t33 =>
 S9_13 D m t0 t2 t31 t0 t33 (Int.ofNat 0) h23)
def S9 : SFn := fun D m args h u => nou u <| popV args fun t0 args => endA args (S9_20 D m t0 h)
theorem T9_2 (hE : FX x9 D m E) : S9_2 D m = e9_2 (E c9_2 []) := by unfold S9_2; rw [hE c9_2]; kernel_rfl
theorem T9_4 (hE : FX x9 D m E) (G3) : S9_4 D m (e9_3 G3) = e9_4 (E c9_4 [.lp v9_3 G3, .blk 8, .sj v9_2 c9_2]) := by unfold S9_4; rw [hE c9_4]; kernel_rfl
theorem T9_5 (hE : FX x9 D m E) (G3) : S9_5 D m (e9_3 G3) = e9_5 (E c9_5 [.blk 9, .sj v9_4 c9_4, .lp v9_3 G3, .blk 8, .sj v9_2 c9_2]) := by unfold S9_5; rw [T9_4 hE G3, hE c9_5]; kernel_rfl
theorem T9_6b (hE : FX x9 D m E) (G6) (G3) : S9_6b D m (e9_6 G6) (e9_3 G3) = e9_6 (E c9_6b [.lp v9_6 G6, .blk 10, .sj v9_5 c9_5, .blk 9, .sj v9_4 c9_4, .lp v9_3 G3, .blk 8, .sj v9_2 c9_2]) := by unfold S9_6b; rw [T9_5 hE G3, hE c9_6b]; kernel_rfl
theorem T9_6 (hE : FX x9 D m E) (G3) : S9_6 D m (e9_3 G3) = e9_6 (nrec (fun _ => none) (fun _ G6 st => E c9_6b [.lp v9_6 G6, .blk 10, .sj v9_5 c9_5, .blk 9, .sj v9_4 c9_4, .lp v9_3 G3, .blk 8, .sj v9_2 c9_2] st) m) :=
  nrec_emb e9_6 (fun _ _ _ _ _ _ _ _ _ _ _ _ => none) (fun g => S9_6b D m g (e9_3 G3)) (fun G6 st => E c9_6b [.lp v9_6 G6, .blk 10, .sj v9_5 c9_5, .blk 9, .sj v9_4 c9_4, .lp v9_3 G3, .blk 8, .sj v9_2 c9_2] st) rfl (fun g => T9_6b hE g G3) m
theorem T9_3b (hE : FX x9 D m E) (G3) : S9_3b D m (e9_3 G3) = e9_3 (E c9_3b [.lp v9_3 G3, .blk 8, .sj v9_2 c9_2]) := by unfold S9_3b; rw [T9_6 hE G3, T9_2 hE, hE c9_3b]; kernel_rfl
theorem T9_3 (hE : FX x9 D m E) : S9_3 D m = e9_3 (nrec (fun _ => none) (fun _ G3 st => E c9_3b [.lp v9_3 G3, .blk 8, .sj v9_2 c9_2] st) m) :=
  nrec_emb e9_3 (fun _ _ _ _ _ _ _ => none) (fun g => S9_3b D m g) (fun G3 st => E c9_3b [.lp v9_3 G3, .blk 8, .sj v9_2 c9_2] st) rfl (fun g => T9_3b hE g) m
theorem T9_1 (hE : FX x9 D m E) : S9_1 D m = e9_1 (E c9_1 []) := by unfold S9_1; rw [T9_3 hE, hE c9_1]; kernel_rfl
theorem T9_8 (hE : FX x9 D m E) (G7) : S9_8 D m (e9_7 G7) = e9_8 (E c9_8 [.lp v9_7 G7, .blk 4, .sj v9_1 c9_1]) := by unfold S9_8; rw [hE c9_8]; kernel_rfl
theorem T9_10 (hE : FX x9 D m E) (G9) (G7) : S9_10 D m (e9_9 G9) (e9_7 G7) = e9_10 (E c9_10 [.lp v9_9 G9, .blk 6, .blk 5, .sj v9_8 c9_8, .lp v9_7 G7, .blk 4, .sj v9_1 c9_1]) := by unfold S9_10; rw [hE c9_10]; kernel_rfl
theorem T9_11 (hE : FX x9 D m E) (G9) (G7) : S9_11 D m (e9_9 G9) (e9_7 G7) = e9_11 (E (.opq false l9_11 c9_12) [.blk 7, .sj v9_10 c9_10, .lp v9_9 G9, .blk 6, .blk 5, .sj v9_8 c9_8, .lp v9_7 G7, .blk 4, .sj v9_1 c9_1]) := by unfold S9_11; rw [T9_10 hE G9 G7, hE (.opq false l9_11 c9_12)]; kernel_rfl
theorem T9_9b (hE : FX x9 D m E) (G9) (G7) : S9_9b D m (e9_9 G9) (e9_7 G7) = e9_9 (E c9_9b [.lp v9_9 G9, .blk 6, .blk 5, .sj v9_8 c9_8, .lp v9_7 G7, .blk 4, .sj v9_1 c9_1]) := by unfold S9_9b; rw [T9_11 hE G9 G7, T9_8 hE G7, hE c9_9b]; kernel_rfl
theorem T9_9 (hE : FX x9 D m E) (G7) : S9_9 D m (e9_7 G7) = e9_9 (nrec (fun _ => none) (fun _ G9 st => E c9_9b [.lp v9_9 G9, .blk 6, .blk 5, .sj v9_8 c9_8, .lp v9_7 G7, .blk 4, .sj v9_1 c9_1] st) m) :=
  nrec_emb e9_9 (fun _ _ _ _ _ _ _ _ _ _ _ => none) (fun g => S9_9b D m g (e9_7 G7)) (fun G9 st => E c9_9b [.lp v9_9 G9, .blk 6, .blk 5, .sj v9_8 c9_8, .lp v9_7 G7, .blk 4, .sj v9_1 c9_1] st) rfl (fun g => T9_9b hE g G7) m
theorem T9_7b (hE : FX x9 D m E) (G7) : S9_7b D m (e9_7 G7) = e9_7 (E c9_7b [.lp v9_7 G7, .blk 4, .sj v9_1 c9_1]) := by unfold S9_7b; rw [T9_9 hE G7, T9_1 hE, hE c9_7b]; kernel_rfl
theorem T9_7 (hE : FX x9 D m E) : S9_7 D m = e9_7 (nrec (fun _ => none) (fun _ G7 st => E c9_7b [.lp v9_7 G7, .blk 4, .sj v9_1 c9_1] st) m) :=
  nrec_emb e9_7 (fun _ _ _ _ _ _ _ => none) (fun g => S9_7b D m g) (fun G7 st => E c9_7b [.lp v9_7 G7, .blk 4, .sj v9_1 c9_1] st) rfl (fun g => T9_7b hE g) m
theorem T9_0 (hE : FX x9 D m E) : S9_0 D m = e9_0 (E c9_0 []) := by unfold S9_0; rw [T9_7 hE, hE c9_0]; kernel_rfl
theorem T9_14 (hE : FX x9 D m E) (G13) : S9_14 D m (e9_13 G13) = e9_14 (E c9_14 [.lp v9_13 G13, .blk 0, .sj v9_0 c9_0]) := by unfold S9_14; rw [hE c9_14]; kernel_rfl
theorem T9_16 (hE : FX x9 D m E) (G15) (G13) : S9_16 D m (e9_15 G15) (e9_13 G13) = e9_16 (E c9_16 [.lp v9_15 G15, .blk 2, .blk 1, .sj v9_14 c9_14, .lp v9_13 G13, .blk 0, .sj v9_0 c9_0]) := by unfold S9_16; rw [hE c9_16]; kernel_rfl
theorem T9_17 (hE : FX x9 D m E) (G15) (G13) : S9_17 D m (e9_15 G15) (e9_13 G13) = e9_17 (E c9_17 [.blk 3, .sj v9_16 c9_16, .lp v9_15 G15, .blk 2, .blk 1, .sj v9_14 c9_14, .lp v9_13 G13, .blk 0, .sj v9_0 c9_0]) := by unfold S9_17; rw [T9_16 hE G15 G13, hE c9_17]; kernel_rfl
theorem T9_18 (hE : FX x9 D m E) (G15) (G13) : S9_18 D m (e9_15 G15) (e9_13 G13) = e9_18 (E (.opq false l9_18 c9_19) [.sj v9_17 c9_17, .blk 3, .sj v9_16 c9_16, .lp v9_15 G15, .blk 2, .blk 1, .sj v9_14 c9_14, .lp v9_13 G13, .blk 0, .sj v9_0 c9_0]) := by unfold S9_18; rw [T9_16 hE G15 G13, T9_17 hE G15 G13, hE (.opq false l9_18 c9_19)]; kernel_rfl
theorem T9_15b (hE : FX x9 D m E) (G15) (G13) : S9_15b D m (e9_15 G15) (e9_13 G13) = e9_15 (E c9_15b [.lp v9_15 G15, .blk 2, .blk 1, .sj v9_14 c9_14, .lp v9_13 G13, .blk 0, .sj v9_0 c9_0]) := by unfold S9_15b; rw [T9_18 hE G15 G13, T9_14 hE G13, hE c9_15b]; kernel_rfl
theorem T9_15 (hE : FX x9 D m E) (G13) : S9_15 D m (e9_13 G13) = e9_15 (nrec (fun _ => none) (fun _ G15 st => E c9_15b [.lp v9_15 G15, .blk 2, .blk 1, .sj v9_14 c9_14, .lp v9_13 G13, .blk 0, .sj v9_0 c9_0] st) m) :=
  nrec_emb e9_15 (fun _ _ _ _ _ _ _ _ _ _ _ => none) (fun g => S9_15b D m g (e9_13 G13)) (fun G15 st => E c9_15b [.lp v9_15 G15, .blk 2, .blk 1, .sj v9_14 c9_14, .lp v9_13 G13, .blk 0, .sj v9_0 c9_0] st) rfl (fun g => T9_15b hE g G13) m
theorem T9_13b (hE : FX x9 D m E) (G13) : S9_13b D m (e9_13 G13) = e9_13 (E c9_13b [.lp v9_13 G13, .blk 0, .sj v9_0 c9_0]) := by unfold S9_13b; rw [T9_15 hE G13, T9_0 hE, hE c9_13b]; kernel_rfl
theorem T9_13 (hE : FX x9 D m E) : S9_13 D m = e9_13 (nrec (fun _ => none) (fun _ G13 st => E c9_13b [.lp v9_13 G13, .blk 0, .sj v9_0 c9_0] st) m) :=
  nrec_emb e9_13 (fun _ _ _ _ _ _ _ => none) (fun g => S9_13b D m g) (fun G13 st => E c9_13b [.lp v9_13 G13, .blk 0, .sj v9_0 c9_0] st) rfl (fun g => T9_13b hE g) m
theorem T9_20 (hE : FX x9 D m E) : S9_20 D m = e9_20 (E c9_e []) := by unfold S9_20; rw [T9_13 hE, hE c9_e]; kernel_rfl
theorem X9 : XTie S9 x9 := X_of fun D m E hE args h u => by unfold S9; rw [T9_20 hE]; kernel_rfl
/- 13 -/
def v13_0 : List Pos := [p2, p8, p9]
def c13_0 : XC := (.seq (.seq (.oX [.fa p46 3 q8, .ld p47 q46 tI, .bn p48 .neq q47 (ci 0) .b]) (.cond q48 (.seq (.ops true (XL.of [.P p49 (.build [.nils] []) .v, .fa p50 4 q8, .ld p51 q50 tI, .fa p52 3 q8, .ld p53 q52 tI, .o ⟨none, (.e (.stores 1 q2 q49)), none, [⟨none, .cell q50, p51⟩, ⟨none, .cell q52, p53⟩]⟩ .v, .mv p3 q51 tI, .mv p4 q53 tI])) .ret) .skip)) (.sO [.L p54 (.cells 1 q9) .v, .ss 1 q2 q54, .mv p3 (ci 0) tI, .mv p4 (ci 0) tI] (.s .ret)))
def v13_2 : List Pos := [p2, p8, p9]
def c13_2 : XC := (.block 1 (.sO [.P p34 (.build [(.bool false), (.bool false), (.bool false), (.str []), (kI 0), (kI 0), .nils, (.bool false), .nils, (kI 0), .nils, .nils, (.str []), (kI 0), (kI 0), (kI 0), (kI 0)] []) .v, .al p10 (.new [(.bool false), (.bool false), (.bool false), (.str []), (kI 0), (kI 0), .nils, (.bool false), .nils, (kI 0), .nils, .nils, (.str []), (kI 0), (kI 0), (kI 0), (kI 0)]), .ss 17 q10 q34] (.sO [.L p36 (.cells 5 q8) .v, .cl p37 29 [q36] .v, .mv p35 q37 .v, .P p38 (.ext q35 0) .v, .P p39 (.ext q35 1) .v, .ss 5 q8 q38, .ss 17 q10 q39] (.s (.oX [.fa p40 0 q9, .ld p41 q40 .v, .L p42 (.cells 17 q10) .v, .al p43 (.bsl [(.bool false), (.bool false), (.bool false), (.str []), (kI 0), (kI 0), .nils, (.bool false), .nils, (kI 0), .nils, .nils, (.str []), (kI 0), (kI 0), (kI 0), (kI 0)] 1 [⟨0, 17, q42⟩]), .o ⟨(some p44), (.e (.app 17 200 q41 q43)), none, []⟩ .v, .fa p45 0 q9, .st q45 q44])))))
def c13_4 : XC := (.cond q33 (.s .skip) (.s (.exit 0)))
def l13_3 : XL := (XL.of [])
def v13_1 : List Pos := [p2, p8, p9]
def c13_1b : XC := (.sj v13_2 (.opq false (XL.pre [.fa p25 3 q8, .ld p26 q25 tI, .bn p27 .eql q26 (ci 0) .b, .mv p28 q27 .b, .sp p28, .o ⟨(some p29), (.l (.cells 5 q8)), (some (p28, true)), []⟩ .v, .o ⟨(some p30), (.call (.fn 28) [q29]), (some (p28, true)), []⟩ .v, .G p28 true p31 (.field 0 1 false q30) tI, .G p28 true p32 (.bin .neq q31 (ci 0)) .b, .P p33 (.pick q28 q32 (cb false)) .b, .jn p28 [p2, p8, p9, p33]] l13_3) c13_4) c13_2)
def c13_e : XC := (.sO [.al p2 (.new [.nils]), .mv p3 (ci 0) tI, .mv p4 (ci 0) tI] (.sO [.mv p12 q0 .s, .cl p13 27 [q12] .v, .mv p11 q13 .v, .P p14 (.ext q11 0) .v, .P p15 (.ext q11 1) tI, .P p16 (.ext q11 2) tI, .mv p5 q14 .v, .mv p6 q15 tI, .mv p7 q16 tI] (.seq (.seq (.oX [.mv p17 q7 tI, .bn p18 .neq q17 (ci 0) .b]) (.cond q18 (.seq (.oX [.P p19 (.build [.nils] []) .v, .mv p20 q6 tI, .mv p21 q7 tI, .ss 1 q2 q19, .mv p3 q20 tI, .mv p4 q21 tI]) .ret) .skip)) (.sO [.mv p22 q5 .v, .P p23 (.build [.nils, (kI 0), (kI 0), (kI 0), (kI 0)] [⟨0, 1, q22⟩]) .v, .al p8 (.new [.nils, (kI 0), (kI 0), (kI 0), (kI 0)]), .ss 5 q8 q23] (.sO [.P p24 (.build [.nils] []) .v, .al p9 (.new [.nils]), .ss 1 q9 q24] (.sj v13_0 (.block 0 (.loop v13_1 c13_1b)) c13_0))))))
def x13 : XFn := ⟨[.s], false, [(.cells 1 p2), (.tmp p3), (.tmp p4)], c13_e⟩
def e13_0 (k t2 t8 t9 h) := kN k [(p2, t2), (p8, t8), (p9, t9)] h
def S13_0 (D : CallD) (m : Nat) (t2 t8 t9 : AV) (h : HP) : Res2 :=
 faC 3 t8 fun t46 =>
 ldI t46 h fun t47 =>
 let t48 := notQ (eqQ t47 (Int.ofNat 0))
 br t48 (
 let t49 := (AV.agg [(.nils : AV)])
 faC 4 t8 fun t50 =>
 ldI t50 h fun t51 =>
 faC 3 t8 fun t52 =>
 ldI t52 h fun t53 =>
 stsC 1 t2 t49 h fun h13 =>
 br (againE (.stores 1 q2 q49) [⟨none, .cell q50, p51⟩, ⟨none, .cell q52, p53⟩] (mkT [(p2, t2), (p53, (vI t53)), (p52, t52), (p51, (vI t51)), (p50, t50)]) h13) (
 cellsC 1 t2 h13 fun t2a =>
 some (.ret (.tup [t2a, (vI t51), (vI t53)]) h13, .no)) none) (
 cellsC 1 t9 h fun t54 =>
 stsC 1 t2 t54 h fun h14 =>
 cellsC 1 t2 h14 fun t2a =>
 some (.ret (.tup [t2a, (vI (Int.ofNat 0)), (vI (Int.ofNat 0))]) h14, .no))
def e13_2 (k t2 t8 t9 h) := kN k [(p2, t2), (p8, t8), (p9, t9)] h
def S13_2 (D : CallD) (m : Nat) (g1 : AV → AV → AV → HP → Res2) (t2 t8 t9 : AV) (h : HP) : Res2 :=
 let t34 := (AV.agg [(vB false), (vB false), (vB false), (vS ([] : LN)), (vI (Int.ofNat 0)), (vI (Int.ofNat 0)), (.nils : AV), (vB false), (.nils : AV), (vI (Int.ofNat 0)), (.nils : AV), (.nils : AV), (vS ([] : LN)), (vI (Int.ofNat 0)), (vI (Int.ofNat 0)), (vI (Int.ofNat 0)), (vI (Int.ofNat 0))])
 let t10 := AV.ptr (HP.nxQ h) 0
 let h15 := HP.newQ h (.cells true [(.bool false), (.bool false), (.bool false), (.str []), (kI 0), (kI 0), .nils, (.bool false), .nils, (kI 0), .nils, .nils, (.str []), (kI 0), (kI 0), (kI 0), (kI 0)])
 stsC 17 t10 t34 h15 fun h16 =>
 cellsC 5 t8 h16 fun t36 =>
 cal D 29 [t36] h16 fun t37 h17 =>
 extC t37 0 fun t38 =>
 extC t37 1 fun t39 =>
 stsC 5 t8 t38 h17 fun h18 =>
 stsC 17 t10 t39 h18 fun h19 =>
 faC 0 t9 fun t40 =>
 cellC t40 h19 fun t41 =>
 cellsC 17 t10 h19 fun t42 =>
 obQ (evA (.bsl [(.bool false), (.bool false), (.bool false), (.str []), (kI 0), (kI 0), .nils, (.bool false), .nils, (kI 0), .nils, .nils, (.str []), (kI 0), (kI 0), (kI 0), (kI 0)] 1 [⟨0, 17, (.c t42)⟩]) .leaf) fun r20 =>
 let t43 := vkV r20.2 (HP.nxQ h19)
 let h21 := HP.newQ h19 r20.1
 eff (.app 17 200 (.c t41) (.c t43)) h21 fun t44 h22 =>
 faC 0 t9 fun t45 =>
 stoC t45 t44 h22 fun h23 =>
 g1 t2 t8 t9 h23
def e13_3 (k t2 t8 t9 t33 h) := kN k [(p2, t2), (p8, t8), (p9, t9), (p33, (vB t33))] h
def S13_3 (D : CallD) (m : Nat) (g1 : AV → AV → AV → HP → Res2) (t2 t8 t9 : AV) (t33 : Bool) (h : HP) : Res2 :=
 br t33 (
 S13_2 D m g1 t2 t8 t9 h) (
 S13_0 D m t2 t8 t9 h)
def e13_1 (k t2 t8 t9 h) := kN k [(p2, t2), (p8, t8), (p9, t9)] h
def S13_1b (D : CallD) (m : Nat) (g1 : AV → AV → AV → HP → Res2) (t2 t8 t9 : AV) (h : HP) : Res2 :=
 faC 3 t8 fun t25 =>
 ldI t25 h fun t26 =>
 let t27 := eqQ t26 (Int.ofNat 0)
 br t27 (
 cellsC 5 t8 h fun t29 =>
 cal D 28 [t29] h fun t30 h24 =>
 fldC 0 1 false t30 fun vt31 => asI .i64 vt31 fun t31 =>
 let t32 := notQ (eqQ t31 (Int.ofNat 0))
 S13_3 D m g1 t2 t8 t9 t32 h24) (
 S13_3 D m g1 t2 t8 t9 false h)
def S13_1 (D : CallD) (m : Nat) : AV → AV → AV → HP → Res2 := nrec (fun _ _ _ _ => none) (fun _ g => S13_1b D m g) m
def e13_5 (k t0 h) := kN k [(p0, (vS t0))] h
def S13_5 (D : CallD) (m : Nat) (t0 : LN) (h : HP) : Res2 :=
 let t2 := AV.ptr (HP.nxQ h) 0
 let h6 := HP.newQ h (.cells true [.nils])
 cal D 27 [(vS t0)] h6 fun t13 h7 =>
 extC t13 0 fun t14 =>
 extC t13 1 fun vt15 => asI .i64 vt15 fun t15 =>
 extC t13 2 fun vt16 => asI .i64 vt16 fun t16 =>
 let t18 := notQ (eqQ t16 (Int.ofNat 0))
 br t18 (
 let t19 := (AV.agg [(.nils : AV)])
 stsC 1 t2 t19 h7 fun h8 =>
 cellsC 1 t2 h8 fun t2a =>
 some (.ret (.tup [t2a, (vI t15), (vI t16)]) h8, .no)) (
 obQ (evP (.build [.nils, (kI 0), (kI 0), (kI 0), (kI 0)] [⟨0, 1, (.c t14)⟩]) .leaf) fun t23 =>
 let t8 := AV.ptr (HP.nxQ h7) 0
 let h9 := HP.newQ h7 (.cells true [.nils, (kI 0), (kI 0), (kI 0), (kI 0)])
 stsC 5 t8 t23 h9 fun h10 =>
 let t24 := (AV.agg [(.nils : AV)])
 let t9 := AV.ptr (HP.nxQ h10) 0
 let h11 := HP.newQ h10 (.cells true [.nils])
 stsC 1 t9 t24 h11 fun h12 =>
 S13_1 D m t2 t8 t9 h12)
def S13 : SFn := fun D m args h u => nou u <| popS args fun t0 args => endA args (S13_5 D m t0 h)
theorem T13_0 (hE : FX x13 D m E) : S13_0 D m = e13_0 (E c13_0 []) := by unfold S13_0; rw [hE c13_0]; kernel_rfl
theorem T13_2 (hE : FX x13 D m E) (G1) : S13_2 D m (e13_1 G1) = e13_2 (E c13_2 [.lp v13_1 G1, .blk 0, .sj v13_0 c13_0]) := by unfold S13_2; rw [hE c13_2]; kernel_rfl
theorem T13_3 (hE : FX x13 D m E) (G1) : S13_3 D m (e13_1 G1) = e13_3 (E (.opq false l13_3 c13_4) [.sj v13_2 c13_2, .lp v13_1 G1, .blk 0, .sj v13_0 c13_0]) := by unfold S13_3; rw [T13_2 hE G1, T13_0 hE, hE (.opq false l13_3 c13_4)]; kernel_rfl
theorem T13_1b (hE : FX x13 D m E) (G1) : S13_1b D m (e13_1 G1) = e13_1 (E c13_1b [.lp v13_1 G1, .blk 0, .sj v13_0 c13_0]) := by unfold S13_1b; rw [T13_3 hE G1, hE c13_1b]; kernel_rfl
theorem T13_1 (hE : FX x13 D m E) : S13_1 D m = e13_1 (nrec (fun _ => none) (fun _ G1 st => E c13_1b [.lp v13_1 G1, .blk 0, .sj v13_0 c13_0] st) m) :=
  nrec_emb e13_1 (fun _ _ _ _ => none) (fun g => S13_1b D m g) (fun G1 st => E c13_1b [.lp v13_1 G1, .blk 0, .sj v13_0 c13_0] st) rfl (fun g => T13_1b hE g) m
theorem T13_5 (hE : FX x13 D m E) : S13_5 D m = e13_5 (E c13_e []) := by unfold S13_5; rw [T13_1 hE, hE c13_e]; kernel_rfl
theorem X13 : XTie S13 x13 := X_of fun D m E hE args h u => by unfold S13; rw [T13_5 hE]; kernel_rfl
/- 14 -/
def v14_1 : List Pos := [p2, p5, p6]
def c14_1 : XC := (.seq (.seq (.oX [.fa p109 5 q5, .ld p110 q109 tI, .bn p111 .neq q110 (ci 0) .b]) (.cond q111 (.seq (.ops true (XL.of [.P p112 (.build [.nils] []) .v, .fa p113 6 q5, .ld p114 q113 tI, .fa p115 5 q5, .ld p116 q115 tI, .o ⟨none, (.e (.stores 1 q2 q112)), none, [⟨none, .cell q113, p114⟩, ⟨none, .cell q115, p116⟩]⟩ .v, .mv p3 q114 tI, .mv p4 q116 tI])) .ret) .skip)) (.sO [.L p117 (.cells 1 q6) .v, .ss 1 q2 q117, .mv p3 (ci 0) tI, .mv p4 (ci 0) tI] (.s .ret)))
def v14_3 : List Pos := [p1, p2, p5, p6, p47, p48]
def c14_3 : XC := (.s (.oX [.bn p108 .add q48 (ci 1) tI, .mv p48 q108 tI]))
def v14_4 : List Pos := [p1, p2, p5, p6, p9, p10, p47, p48]
def c14_4 : XC := (.sO [.mv p98 q10 .b, .P p99 (.un .not q98) .b] (.cond q99 (.s (.ops true (XL.of [.L p100 (.cells 7 q5) .v, .fa p101 0 q1, .ld p102 q101 .v, .mv p103 q9 tI, .P p104 (.iaddr (.sl 17) q102 q103) .v, .fa p105 16 q104, .ld p106 q105 tI, .cl p107 32 [q100, (ci 13), q106] .v, .ss 7 q5 q107]))) (.s .skip)))
def v14_5 : List Pos := [p1, p2, p5, p6, p9, p10, p47, p48, p69, p70]
def c14_5b : XC := (.sO [.bn p71 .lss q70 q69 .b] (.seq (.cond q71 .skip (.exit 4)) (.seq (.block 5 (.seq (.oX [.mv p72 q70 tI, .mv p11 q72 tI]) (.ops true (XL.of [.mv p73 q10 .b, .mv p74 q73 .b, .ge p74 (XL.of [.G p74 false p75 (.faddr 0 q1) .v, .o ⟨(some p76), (.l (.cell q75)), (some (p74, false)), []⟩ .v, .G p74 false p77 (.mov q11) tI, .G p74 false p78 (.iaddr (.sl 17) q76 q77) .v, .G p74 false p79 (.faddr 3 q78) .v, .o ⟨(some p80), (.l (.cell q79)), (some (p74, false)), []⟩ .s, .G p74 false p81 (.faddr 0 q1) .v, .o ⟨(some p82), (.l (.cell q81)), (some (p74, false)), []⟩ .v, .G p74 false p83 (.mov q9) tI, .G p74 false p84 (.iaddr (.sl 17) q82 q83) .v, .G p74 false p85 (.faddr 3 q84) .v, .o ⟨(some p86), (.l (.cell q85)), (some (p74, false)), []⟩ .s, .G p74 false p87 (.bin .eql q80 q86) .b, .G p74 false p88 (.mov q87) .b, .ge p88 (XL.of [.G p88 true p89 (.faddr 0 q1) .v, .o ⟨(some p90), (.l (.cell q89)), (some (p88, true)), []⟩ .v, .G p88 true p91 (.mov q11) tI, .G p88 true p92 (.iaddr (.sl 17) q90 q91) .v, .G p88 true p93 (.faddr 7 q92) .v, .o ⟨(some p94), (.l (.cell q93)), (some (p88, true)), []⟩ .b, .G p74 false p95 (.pick q88 q94 (cb false)) .b]) p95 .b, .P p96 (.pick q74 (cb true) q95) .b]) p96 .b, .mv p10 q96 .b])))) (.s (.oX [.bn p97 .add q70 (ci 1) tI, .mv p70 q97 tI])))))
def v14_2 : List Pos := [p1, p2, p5, p6, p47, p48]
def c14_2b : XC := (.sO [.bn p49 .lss q48 q47 .b] (.seq (.cond q49 .skip (.exit 2)) (.sj v14_3 (.block 3 (.sO [.mv p50 q48 tI, .mv p9 q50 tI] (.sO [.fa p51 0 q1, .ld p52 q51 .v, .mv p53 q9 tI, .P p54 (.iaddr (.sl 17) q52 q53) .v, .fa p55 0 q54, .ld p56 q55 .b, .P p57 (.un .not q56) .b, .mv p58 q57 .b, .ge p58 (XL.of [.G p58 false p59 (.faddr 0 q1) .v, .o ⟨(some p60), (.l (.cell q59)), (some (p58, false)), []⟩ .v, .G p58 false p61 (.mov q9) tI, .G p58 false p62 (.iaddr (.sl 17) q60 q61) .v, .G p58 false p63 (.faddr 1 q62) .v, .o ⟨(some p64), (.l (.cell q63)), (some (p58, false)), []⟩ .b, .G p58 false p65 (.un .not q64) .b, .P p66 (.pick q58 (cb true) q65) .b]) p66 .b, .mv p10 q66 .b] (.sj v14_4 (.sO [.fa p67 0 q1, .ld p68 q67 .v, .P p69 (.lenl q68) tI, .mv p70 (ci 0) tI] (.block 4 (.loop v14_5 c14_5b))) c14_4)))) c14_3)))
def v14_0 : List Pos := [p1, p2, p5, p6]
def c14_0 : XC := (.sj v14_1 (.sO [.fa p45 0 q1, .ld p46 q45 .v, .P p47 (.lenl q46) tI, .mv p48 (ci 0) tI] (.block 2 (.loop v14_2 c14_2b))) c14_1)
def v14_7 : List Pos := [p1, p2, p5, p6, p16, p17]
def c14_7 : XC := (.s (.oX [.bn p44 .add q17 (ci 1) tI, .mv p17 q44 tI]))
def v14_8 : List Pos := [p1, p2, p5, p6, p8, p16, p17]
def c14_8 : XC := (.s (.oX [.fa p38 0 q6, .ld p39 q38 .v, .L p40 (.cells 17 q8) .v, .al p41 (.bsl [(.bool false), (.bool false), (.bool false), (.str []), (kI 0), (kI 0), .nils, (.bool false), .nils, (kI 0), .nils, .nils, (.str []), (kI 0), (kI 0), (kI 0), (kI 0)] 1 [⟨0, 17, q40⟩]), .o ⟨(some p42), (.e (.app 17 200 q39 q41)), none, []⟩ .v, .fa p43 0 q6, .st q43 q42]))
def v14_6 : List Pos := [p1, p2, p5, p6, p16, p17]
def c14_6b : XC := (.sO [.bn p18 .lss q17 q16 .b] (.seq (.cond q18 .skip (.exit 0)) (.sj v14_7 (.block 1 (.sO [.mv p19 q17 tI, .mv p7 q19 tI] (.sO [.P p20 (.build [(.bool false), (.bool false), (.bool false), (.str []), (kI 0), (kI 0), .nils, (.bool false), .nils, (kI 0), .nils, .nils, (.str []), (kI 0), (kI 0), (kI 0), (kI 0)] []) .v, .al p8 (.new [(.bool false), (.bool false), (.bool false), (.str []), (kI 0), (kI 0), .nils, (.bool false), .nils, (kI 0), .nils, .nils, (.str []), (kI 0), (kI 0), (kI 0), (kI 0)]), .ss 17 q8 q20] (.sj v14_8 (.sO [.fa p21 5 q5, .ld p22 q21 tI, .bn p23 .eql q22 (ci 0) .b] (.cond q23 (.s (.ops true (XL.of [.L p25 (.cells 7 q5) .v, .fa p26 0 q1, .ld p27 q26 .v, .mv p28 q7 tI, .P p29 (.iaddr (.sl 17) q27 q28) .v, .L p30 (.cells 17 q29) .v, .fa p31 0 q1, .ld p32 q31 .v, .mv p33 q7 tI, .P p34 (.slice (.sl 17) q32 none (some q33) none) .v, .cl p35 31 [q25, q30, q34] .v, .mv p24 q35 .v, .P p36 (.ext q24 0) .v, .P p37 (.ext q24 1) .v, .ss 7 q5 q36, .ss 17 q8 q37]))) (.s .skip))) c14_8)))) c14_7)))
def c14_e : XC := (.sO [.al p1 (.box q0), .al p2 (.new [.nils]), .mv p3 (ci 0) tI, .mv p4 (ci 0) tI] (.sO [.cl p12 30 [] .v, .al p5 (.new [.nils, (kI 0), (kI 0), (kI 0), (kI 0), (kI 0), (kI 0)]), .ss 7 q5 q12] (.sO [.P p13 (.build [.nils] []) .v, .al p6 (.new [.nils]), .ss 1 q6 q13] (.sj v14_0 (.sO [.fa p14 0 q1, .ld p15 q14 .v, .P p16 (.lenl q15) tI, .mv p17 (ci 0) tI] (.block 0 (.loop v14_6 c14_6b))) c14_0))))
def x14 : XFn := ⟨[.v], false, [(.cells 1 p2), (.tmp p3), (.tmp p4)], c14_e⟩
def e14_1 (k t2 t5 t6 h) := kN k [(p2, t2), (p5, t5), (p6, t6)] h
def S14_1 (D : CallD) (m : Nat) (t2 t5 t6 : AV) (h : HP) : Res2 :=
 faC 5 t5 fun t109 =>
 ldI t109 h fun t110 =>
 let t111 := notQ (eqQ t110 (Int.ofNat 0))
 br t111 (
 let t112 := (AV.agg [(.nils : AV)])
 faC 6 t5 fun t113 =>
 ldI t113 h fun t114 =>
 faC 5 t5 fun t115 =>
 ldI t115 h fun t116 =>
 stsC 1 t2 t112 h fun h17 =>
 br (againE (.stores 1 q2 q112) [⟨none, .cell q113, p114⟩, ⟨none, .cell q115, p116⟩] (mkT [(p2, t2), (p116, (vI t116)), (p115, t115), (p114, (vI t114)), (p113, t113)]) h17) (
 cellsC 1 t2 h17 fun t2a =>
 some (.ret (.tup [t2a, (vI t114), (vI t116)]) h17, .no)) none) (
 cellsC 1 t6 h fun t117 =>
 stsC 1 t2 t117 h fun h18 =>
 cellsC 1 t2 h18 fun t2a =>
 some (.ret (.tup [t2a, (vI (Int.ofNat 0)), (vI (Int.ofNat 0))]) h18, .no))
def e14_3 (k t1 t2 t5 t6 t47 t48 h) := kN k [(p1, t1), (p2, t2), (p5, t5), (p6, t6), (p47, (vI t47)), (p48, (vI t48))] h
def S14_3 (D : CallD) (m : Nat) (g2 : AV → AV → AV → AV → Int → Int → HP → Res2) (t1 t2 t5 t6 : AV) (t47 t48 : Int) (h : HP) : Res2 :=
 let t108 := wrQ .i64 (addQ t48 (Int.ofNat 1))
 g2 t1 t2 t5 t6 t47 t108 h
def e14_4 (k t1 t2 t5 t6 t9 t10 t47 t48 h) := kN k [(p1, t1), (p2, t2), (p5, t5), (p6, t6), (p9, (vI t9)), (p10, (vB t10)), (p47, (vI t47)), (p48, (vI t48))] h
def S14_4 (D : CallD) (m : Nat) (g2 : AV → AV → AV → AV → Int → Int → HP → Res2) (t1 t2 t5 t6 : AV) (t9 : Int) (t10 : Bool) (t47 t48 : Int) (h : HP) : Res2 :=
 let t99 := !t10
 br t99 (
 cellsC 7 t5 h fun t100 =>
 faC 0 t1 fun t101 =>
 cellC t101 h fun t102 =>
 iasC 17 t102 (vI t9) fun t104 =>
 faC 16 t104 fun t105 =>
 ldI t105 h fun t106 =>
 cal D 32 [t100, (vI (Int.ofNat 13)), (vI t106)] h fun t107 h19 =>
 stsC 7 t5 t107 h19 fun h20 =>
 S14_3 D m g2 t1 t2 t5 t6 t47 t48 h20) (
 S14_3 D m g2 t1 t2 t5 t6 t47 t48 h)
def e14_5 (k t1 t2 t5 t6 t9 t10 t47 t48 t69 t70 h) := kN k [(p1, t1), (p2, t2), (p5, t5), (p6, t6), (p9, (vI t9)), (p10, (vB t10)), (p47, (vI t47)), (p48, (vI t48)), (p69, (vI t69)), (p70, (vI t70))] h
def S14_5b (D : CallD) (m : Nat) (g5 : AV → AV → AV → AV → Int → Bool → Int → Int → Int → Int → HP → Res2) (g2 : AV → AV → AV → AV → Int → Int → HP → Res2) (t1 t2 t5 t6 : AV) (t9 : Int) (t10 : Bool) (t47 t48 t69 t70 : Int) (h : HP) : Res2 :=
 let t71 := ltQ t70 t69
 br t71 (
 obB (brV t10 (
 some (vB true)) (
 faCV 0 t1 fun t75 =>
 cellCV t75 h fun t76 =>
 iasCV 17 t76 (vI t70) fun t78 =>
 faCV 3 t78 fun t79 =>
 ldSV t79 h fun t80 =>
 faCV 0 t1 fun t81 =>
 cellCV t81 h fun t82 =>
 iasCV 17 t82 (vI t9) fun t84 =>
 faCV 3 t84 fun t85 =>
 ldSV t85 h fun t86 =>
 let t87 := eqL t80 t86
 obBV (brV t87 (
 faCV 0 t1 fun t89 =>
 cellCV t89 h fun t90 =>
 iasCV 17 t90 (vI t70) fun t92 =>
 faCV 7 t92 fun t93 =>
 ldBV t93 h fun t94 =>
 some (vB t94)) (
 some (vB false))) fun t95 =>
 some (vB t95))) fun t96 =>
 let t97 := wrQ .i64 (addQ t70 (Int.ofNat 1))
 g5 t1 t2 t5 t6 t9 t96 t47 t48 t69 t97 h) (
 S14_4 D m g2 t1 t2 t5 t6 t9 t10 t47 t48 h)
def S14_5 (D : CallD) (m : Nat) (g2 : AV → AV → AV → AV → Int → Int → HP → Res2) : AV → AV → AV → AV → Int → Bool → Int → Int → Int → Int → HP → Res2 := nrec (fun _ _ _ _ _ _ _ _ _ _ _ => none) (fun _ g => S14_5b D m g g2) m
def e14_2 (k t1 t2 t5 t6 t47 t48 h) := kN k [(p1, t1), (p2, t2), (p5, t5), (p6, t6), (p47, (vI t47)), (p48, (vI t48))] h
def S14_2b (D : CallD) (m : Nat) (g2 : AV → AV → AV → AV → Int → Int → HP → Res2) (t1 t2 t5 t6 : AV) (t47 t48 : Int) (h : HP) : Res2 :=
 let t49 := ltQ t48 t47
 br t49 (
 faC 0 t1 fun t51 =>
 cellC t51 h fun t52 =>
 iasC 17 t52 (vI t48) fun t54 =>
 faC 0 t54 fun t55 =>
 ldB t55 h fun t56 =>
 let t57 := !t56
 obB (brV t57 (
 some (vB true)) (
 faCV 0 t1 fun t59 =>
 cellCV t59 h fun t60 =>
 iasCV 17 t60 (vI t48) fun t62 =>
 faCV 1 t62 fun t63 =>
 ldBV t63 h fun t64 =>
 let t65 := !t64
 some (vB t65))) fun t66 =>
 faC 0 t1 fun t67 =>
 cellC t67 h fun t68 =>
 lenC t68 fun vt69 => asI .i64 vt69 fun t69 =>
 S14_5 D m g2 t1 t2 t5 t6 t48 t66 t47 t48 t69 (Int.ofNat 0) h) (
 S14_1 D m t2 t5 t6 h)
def S14_2 (D : CallD) (m : Nat) : AV → AV → AV → AV → Int → Int → HP → Res2 := nrec (fun _ _ _ _ _ _ _ => none) (fun _ g => S14_2b D m g) m
def e14_0 (k t1 t2 t5 t6 h) := kN k [(p1, t1), (p2, t2), (p5, t5), (p6, t6)] h
def S14_0 (D : CallD) (m : Nat) (t1 t2 t5 t6 : AV) (h : HP) : Res2 :=
 faC 0 t1 fun t45 =>
 cellC t45 h fun t46 =>
 lenC t46 fun vt47 => asI .i64 vt47 fun t47 =>
 S14_2 D m t1 t2 t5 t6 t47 (Int.ofNat 0) h
def e14_7 (k t1 t2 t5 t6 t16 t17 h) := kN k [(p1, t1), (p2, t2), (p5, t5), (p6, t6), (p16, (vI t16)), (p17, (vI t17))] h
def S14_7 (D : CallD) (m : Nat) (g6 : AV → AV → AV → AV → Int → Int → HP → Res2) (t1 t2 t5 t6 : AV) (t16 t17 : Int) (h : HP) : Res2 :=
 let t44 := wrQ .i64 (addQ t17 (Int.ofNat 1))
 g6 t1 t2 t5 t6 t16 t44 h
def e14_8 (k t1 t2 t5 t6 t8 t16 t17 h) := kN k [(p1, t1), (p2, t2), (p5, t5), (p6, t6), (p8, t8), (p16, (vI t16)), (p17, (vI t17))] h
def S14_8 (D : CallD) (m : Nat) (g6 : AV → AV → AV → AV → Int → Int → HP → Res2) (t1 t2 t5 t6 t8 : AV) (t16 t17 : Int) (h : HP) : Res2 :=
 faC 0 t6 fun t38 =>
 cellC t38 h fun t39 =>
 cellsC 17 t8 h fun t40 =>
 obQ (evA (.bsl [(.bool false), (.bool false), (.bool false), (.str []), (kI 0), (kI 0), .nils, (.bool false), .nils, (kI 0), .nils, .nils, (.str []), (kI 0), (kI 0), (kI 0), (kI 0)] 1 [⟨0, 17, (.c t40)⟩]) .leaf) fun r23 =>
 let t41 := vkV r23.2 (HP.nxQ h)
 let h24 := HP.newQ h r23.1
 eff (.app 17 200 (.c t39) (.c t41)) h24 fun t42 h25 =>
 faC 0 t6 fun t43 =>
 stoC t43 t42 h25 fun h26 =>
 S14_7 D m g6 t1 t2 t5 t6 t16 t17 h26
def e14_6 (k t1 t2 t5 t6 t16 t17 h) := kN k [(p1, t1), (p2, t2), (p5, t5), (p6, t6), (p16, (vI t16)), (p17, (vI t17))] h
def S14_6b (D : CallD) (m : Nat) (g6 : AV → AV → AV → AV → Int → Int → HP → Res2) (t1 t2 t5 t6 : AV) (t16 t17 : Int) (h : HP) : Res2 :=
 let t18 := ltQ t17 t16
 br t18 (
 let t20 := (AV.agg [(vB false), (vB false), (vB false), (vS ([] : LN)), (vI (Int.ofNat 0)), (vI (Int.ofNat 0)), (.nils : AV), (vB false), (.nils : AV), (vI (Int.ofNat 0)), (.nils : AV), (.nils : AV), (vS ([] : LN)), (vI (Int.ofNat 0)), (vI (Int.ofNat 0)), (vI (Int.ofNat 0)), (vI (Int.ofNat 0))])
 let t8 := AV.ptr (HP.nxQ h) 0
 let h21 := HP.newQ h (.cells true [(.bool false), (.bool false), (.bool false), (.str []), (kI 0), (kI 0), .nils, (.bool false), .nils, (kI 0), .nils, .nils, (.str []), (kI 0), (kI 0), (kI 0), (kI 0)])
 stsC 17 t8 t20 h21 fun h22 =>
 faC 5 t5 fun t21 =>
 ldI t21 h22 fun t22 =>
 let t23 := eqQ t22 (Int.ofNat 0)
 br t23 (
 cellsC 7 t5 h22 fun t25 =>
 faC 0 t1 fun t26 =>
 cellC t26 h22 fun t27 =>
 iasC 17 t27 (vI t17) fun t29 =>
 cellsC 17 t29 h22 fun t30 =>
 faC 0 t1 fun t31 =>
 cellC t31 h22 fun t32 =>
 obQ (evP (.slice (.sl 17) (.c t32) none (some (.c (vI t17))) none) .leaf) fun t34 =>
 cal D 31 [t25, t30, t34] h22 fun t35 h27 =>
 extC t35 0 fun t36 =>
 extC t35 1 fun t37 =>
 stsC 7 t5 t36 h27 fun h28 =>
 stsC 17 t8 t37 h28 fun h29 =>
 S14_8 D m g6 t1 t2 t5 t6 t8 t16 t17 h29) (
 S14_8 D m g6 t1 t2 t5 t6 t8 t16 t17 h22)) (
 S14_0 D m t1 t2 t5 t6 h)
def S14_6 (D : CallD) (m : Nat) : AV → AV → AV → AV → Int → Int → HP → Res2 := nrec (fun _ _ _ _ _ _ _ => none) (fun _ g => S14_6b D m g) m
def e14_9 (k t0 h) := kN k [(p0, t0)] h
def S14_9 (D : CallD) (m : Nat) (t0 : AV) (h : HP) : Res2 :=
 let t1 := AV.ptr (HP.nxQ h) 0
 let h10 := HP.newQ h (.cells true (AV.cells t0))
 let t2 := AV.ptr (HP.nxQ h10) 0
 let h11 := HP.newQ h10 (.cells true [.nils])
 cal D 30 [] h11 fun t12 h12 =>
 let t5 := AV.ptr (HP.nxQ h12) 0
 let h13 := HP.newQ h12 (.cells true [.nils, (kI 0), (kI 0), (kI 0), (kI 0), (kI 0), (kI 0)])
 stsC 7 t5 t12 h13 fun h14 =>
 let t13 := (AV.agg [(.nils : AV)])
 let t6 := AV.ptr (HP.nxQ h14) 0
 let h15 := HP.newQ h14 (.cells true [.nils])
 stsC 1 t6 t13 h15 fun h16 =>
 let t14 := (AV.ptr (HP.nxQ h) (Nat.add 0 0))
 cellC t14 h16 fun t15 =>
 lenC t15 fun vt16 => asI .i64 vt16 fun t16 =>
 S14_6 D m t1 t2 t5 t6 t16 (Int.ofNat 0) h16
def S14 : SFn := fun D m args h u => nou u <| popV args fun t0 args => endA args (S14_9 D m t0 h)
theorem T14_1 (hE : FX x14 D m E) : S14_1 D m = e14_1 (E c14_1 []) := by unfold S14_1; rw [hE c14_1]; kernel_rfl
theorem T14_3 (hE : FX x14 D m E) (G2) : S14_3 D m (e14_2 G2) = e14_3 (E c14_3 [.lp v14_2 G2, .blk 2, .sj v14_1 c14_1]) := by unfold S14_3; rw [hE c14_3]; kernel_rfl
theorem T14_4 (hE : FX x14 D m E) (G2) : S14_4 D m (e14_2 G2) = e14_4 (E c14_4 [.blk 3, .sj v14_3 c14_3, .lp v14_2 G2, .blk 2, .sj v14_1 c14_1]) := by unfold S14_4; rw [T14_3 hE G2, hE c14_4]; kernel_rfl
theorem T14_5b (hE : FX x14 D m E) (G5) (G2) : S14_5b D m (e14_5 G5) (e14_2 G2) = e14_5 (E c14_5b [.lp v14_5 G5, .blk 4, .sj v14_4 c14_4, .blk 3, .sj v14_3 c14_3, .lp v14_2 G2, .blk 2, .sj v14_1 c14_1]) := by unfold S14_5b; rw [T14_4 hE G2, hE c14_5b]; kernel_rfl
theorem T14_5 (hE : FX x14 D m E) (G2) : S14_5 D m (e14_2 G2) = e14_5 (nrec (fun _ => none) (fun _ G5 st => E c14_5b [.lp v14_5 G5, .blk 4, .sj v14_4 c14_4, .blk 3, .sj v14_3 c14_3, .lp v14_2 G2, .blk 2, .sj v14_1 c14_1] st) m) :=
  nrec_emb e14_5 (fun _ _ _ _ _ _ _ _ _ _ _ => none) (fun g => S14_5b D m g (e14_2 G2)) (fun G5 st => E c14_5b [.lp v14_5 G5, .blk 4, .sj v14_4 c14_4, .blk 3, .sj v14_3 c14_3, .lp v14_2 G2, .blk 2, .sj v14_1 c14_1] st) rfl (fun g => T14_5b hE g G2) m
theorem T14_2b (hE : FX x14 D m E) (G2) : S14_2b D m (e14_2 G2) = e14_2 (E c14_2b [.lp v14_2 G2, .blk 2, .sj v14_1 c14_1]) := by unfold S14_2b; rw [T14_5 hE G2, T14_1 hE, hE c14_2b]; kernel_rfl
theorem T14_2 (hE : FX x14 D m E) : S14_2 D m = e14_2 (nrec (fun _ => none) (fun _ G2 st => E c14_2b [.lp v14_2 G2, .blk 2, .sj v14_1 c14_1] st) m) :=
  nrec_emb e14_2 (fun _ _ _ _ _ _ _ => none) (fun g => S14_2b D m g) (fun G2 st => E c14_2b [.lp v14_2 G2, .blk 2, .sj v14_1 c14_1] st) rfl (fun g => T14_2b hE g) m
theorem T14_0 (hE : FX x14 D m E) : S14_0 D m = e14_0 (E c14_0 []) := by unfold S14_0; rw [T14_2 hE, hE c14_0]; kernel_rfl
theorem T14_7 (hE : FX x14 D m E) (G6) : S14_7 D m (e14_6 G6) = e14_7 (E c14_7 [.lp v14_6 G6, .blk 0, .sj v14_0 c14_0]) := by unfold S14_7; rw [hE c14_7]; kernel_rfl
theorem T14_8 (hE : FX x14 D m E) (G6) : S14_8 D m (e14_6 G6) = e14_8 (E c14_8 [.blk 1, .sj v14_7 c14_7, .lp v14_6 G6, .blk 0, .sj v14_0 c14_0]) := by unfold S14_8; rw [T14_7 hE G6, hE c14_8]; kernel_rfl
theorem T14_6b (hE : FX x14 D m E) (G6) : S14_6b D m (e14_6 G6) = e14_6 (E c14_6b [.lp v14_6 G6, .blk 0, .sj v14_0 c14_0]) := by unfold S14_6b; rw [T14_8 hE G6, T14_0 hE, hE c14_6b]; kernel_rfl
theorem T14_6 (hE : FX x14 D m E) : S14_6 D m = e14_6 (nrec (fun _ => none) (fun _ G6 st => E c14_6b [.lp v14_6 G6, .blk 0, .sj v14_0 c14_0] st) m) :=
  nrec_emb e14_6 (fun _ _ _ _ _ _ _ => none) (fun g => S14_6b D m g) (fun G6 st => E c14_6b [.lp v14_6 G6, .blk 0, .sj v14_0 c14_0] st) rfl (fun g => T14_6b hE g) m
theorem T14_9 (hE : FX x14 D m E) : S14_9 D m = e14_9 (E c14_e []) := by unfold S14_9; rw [T14_6 hE, hE c14_e]; kernel_rfl
theorem X14 : XTie S14 x14 := X_of fun D m E hE args h u => by unfold S14; rw [T14_9 hE]; kernel_rfl
/- 15 -/
def c15_e : XC := (.sO [.al p1 (.box q0), .mv p2 (cb false) .b] (.sO [.fa p3 0 q1, .ld p4 q3 .b, .mv p5 q4 .b, .ge p5 (XL.of [.G p5 true p6 (.faddr 7 q1) .v, .o ⟨(some p7), (.l (.cell q6)), (some (p5, true)), []⟩ .b, .P p8 (.pick q5 q7 (cb false)) .b]) p8 .b, .mv p9 q8 .b, .ge p9 (XL.of [.G p9 false p10 (.faddr 0 q1) .v, .o ⟨(some p11), (.l (.cell q10)), (some (p9, false)), []⟩ .b, .G p9 false p12 (.un .not q11) .b, .G p9 false p13 (.mov q12) .b, .ge p13 (XL.of [.G p13 true p14 (.faddr 2 q1) .v, .o ⟨(some p15), (.l (.cell q14)), (some (p13, true)), []⟩ .b, .G p13 true p16 (.un .not q15) .b, .G p9 false p17 (.pick q13 q16 (cb false)) .b]) p17 .b, .P p18 (.pick q9 (cb true) q17) .b]) p18 .b, .mv p2 q18 .b] (.s .ret)))
def x15 : XFn := ⟨[.v], false, [(.tmp p2)], c15_e⟩
def e15_0 (k t0 h) := kN k [(p0, t0)] h
def S15_0 (D : CallD) (m : Nat) (t0 : AV) (h : HP) : Res2 :=
 let t1 := AV.ptr (HP.nxQ h) 0
 let h1 := HP.newQ h (.cells true (AV.cells t0))
 let t3 := (AV.ptr (HP.nxQ h) (Nat.add 0 0))
 ldB t3 h1 fun t4 =>
 obB (brV t4 (
 let t6 := (AV.ptr (HP.nxQ h) (Nat.add 0 7))
 ldBV t6 h1 fun t7 =>
 some (vB t7)) (
 some (vB false))) fun t8 =>
 obB (brV t8 (
 some (vB true)) (
 let t10 := (AV.ptr (HP.nxQ h) (Nat.add 0 0))
 ldBV t10 h1 fun t11 =>
 let t12 := !t11
 obBV (brV t12 (
 let t14 := (AV.ptr (HP.nxQ h) (Nat.add 0 2))
 ldBV t14 h1 fun t15 =>
 let t16 := !t15
 some (vB t16)) (
 some (vB false))) fun t17 =>
 some (vB t17))) fun t18 =>
 some (.ret (vB t18) h1, .no)
def S15 : SFn := fun D m args h u => nou u <| popV args fun t0 args => endA args (S15_0 D m t0 h)
theorem T15_0 (hE : FX x15 D m E) : S15_0 D m = e15_0 (E c15_e []) := by unfold S15_0; rw [hE c15_e]; kernel_rfl
theorem X15 : XTie S15 x15 := X_of fun D m E hE args h u => by unfold S15; rw [T15_0 hE]; kernel_rfl
/- 16 -/
def c16_1 : XC := (.s .ret)
def l16_0 : XL := (XL.of [.mv p4 q30 .b])
def c16_e : XC := (.sO [.al p2 (.box q0), .al p3 (.box q1), .mv p4 (cb false) .b] (.opq false (XL.pre [.fa p5 0 q2, .ld p6 q5 .b, .fa p7 0 q3, .ld p8 q7 .b, .P p9 (.eqb false q6 q8) .b, .mv p10 q9 .b, .ge p10 (XL.of [.G p10 true p11 (.faddr 4 q2) .v, .o ⟨(some p12), (.l (.cell q11)), (some (p10, true)), []⟩ tI, .G p10 true p13 (.faddr 4 q3) .v, .o ⟨(some p14), (.l (.cell q13)), (some (p10, true)), []⟩ tI, .G p10 true p15 (.bin .eql q12 q14) .b, .P p16 (.pick q10 q15 (cb false)) .b]) p16 .b, .mv p17 q16 .b, .ge p17 (XL.of [.G p17 true p18 (.faddr 5 q2) .v, .o ⟨(some p19), (.l (.cell q18)), (some (p17, true)), []⟩ tI, .G p17 true p20 (.faddr 5 q3) .v, .o ⟨(some p21), (.l (.cell q20)), (some (p17, true)), []⟩ tI, .G p17 true p22 (.bin .eql q19 q21) .b, .P p23 (.pick q17 q22 (cb false)) .b]) p23 .b, .mv p24 q23 .b, .sp p24, .G p24 true p25 (.faddr 8 q2) .v, .o ⟨(some p26), (.l (.cell q25)), (some (p24, true)), []⟩ .v, .G p24 true p27 (.faddr 8 q3) .v, .o ⟨(some p28), (.l (.cell q27)), (some (p24, true)), []⟩ .v, .o ⟨(some p29), (.call (.fn 33) [q26, q28, (.c (.fn 34 [] []))]), (some (p24, true)), []⟩ .b, .P p30 (.pick q24 q29 (cb false)) .b, .jn p24 [p30]] l16_0) c16_1))
def x16 : XFn := ⟨[.v, .v], false, [(.tmp p4)], c16_e⟩
def e16_0 (k t30 h) := kN k [(p30, (vB t30))] h
def S16_0 (D : CallD) (m : Nat) (t30 : Bool) (h : HP) : Res2 :=
 some (.ret (vB t30) h, .no)
def e16_2 (k t0 t1 h) := kN k [(p0, t0), (p1, t1)] h
def S16_2 (D : CallD) (m : Nat) (t0 t1 : AV) (h : HP) : Res2 :=
 let t2 := AV.ptr (HP.nxQ h) 0
 let h3 := HP.newQ h (.cells true (AV.cells t0))
 let t3 := AV.ptr (HP.nxQ h3) 0
 let h4 := HP.newQ h3 (.cells true (AV.cells t1))
 let t5 := (AV.ptr (HP.nxQ h) (Nat.add 0 0))
 ldB t5 h4 fun t6 =>
 let t7 := (AV.ptr (HP.nxQ h3) (Nat.add 0 0))
 ldB t7 h4 fun t8 =>
 let t9 := ((t6 == t8) != false)
 obB (brV t9 (
 let t11 := (AV.ptr (HP.nxQ h) (Nat.add 0 4))
 ldIV t11 h4 fun t12 =>
 let t13 := (AV.ptr (HP.nxQ h3) (Nat.add 0 4))
 ldIV t13 h4 fun t14 =>
 let t15 := eqQ t12 t14
 some (vB t15)) (
 some (vB false))) fun t16 =>
 obB (brV t16 (
 let t18 := (AV.ptr (HP.nxQ h) (Nat.add 0 5))
 ldIV t18 h4 fun t19 =>
 let t20 := (AV.ptr (HP.nxQ h3) (Nat.add 0 5))
 ldIV t20 h4 fun t21 =>
 let t22 := eqQ t19 t21
 some (vB t22)) (
 some (vB false))) fun t23 =>
 br t23 (
 let t25 := (AV.ptr (HP.nxQ h) (Nat.add 0 8))
 cellC t25 h4 fun t26 =>
 let t27 := (AV.ptr (HP.nxQ h3) (Nat.add 0 8))
 cellC t27 h4 fun t28 =>
 cal D 33 [t26, t28, ((.fn 34 [] []) : AV)] h4 fun t29 h5 =>
 asB t29 fun t29a =>
 S16_0 D m t29a h5) (
 S16_0 D m false h4)
def S16 : SFn := fun D m args h u => nou u <| popV args fun t0 args => popV args fun t1 args => endA args (S16_2 D m t0 t1 h)
theorem T16_0 (hE : FX x16 D m E) : S16_0 D m = e16_0 (E (.opq false l16_0 c16_1) []) := by unfold S16_0; rw [hE (.opq false l16_0 c16_1)]; kernel_rfl
theorem T16_2 (hE : FX x16 D m E) : S16_2 D m = e16_2 (E c16_e []) := by unfold S16_2; rw [T16_0 hE, hE c16_e]; kernel_rfl
theorem X16 : XTie S16 x16 := X_of fun D m E hE args h u => by unfold S16; rw [T16_2 hE]; kernel_rfl
/- 17 -/
def v17_0 : List Pos := [p4]
def c17_0 : XC := (.sO [.ld p21 q4 .v, .cl p22 40 [q21] .v, .cl p23 39 [q22] .v, .mv p2 q23 .v] (.s .ret))
def v17_1 : List Pos := [p3, p4, p11, p12, p13]
def c17_1b : XC := (.sO [.bn p14 .lss q13 q12 .b] (.seq (.cond q14 .skip (.exit 0)) (.seq (.block 1 (.seq (.oX [.P p15 (.iaddr (.sl 17) q11 q13) .v, .L p16 (.cells 17 q15) .v, .al p6 (.new [(.bool false), (.bool false), (.bool false), (.str []), (kI 0), (kI 0), .nils, (.bool false), .nils, (kI 0), .nils, .nils, (.str []), (kI 0), (kI 0), (kI 0), (kI 0)]), .ss 17 q6 q16]) (.oX [.L p17 (.cells 17 q6) .v, .P p18 (.mkfn 37 [] [q3, q4]) .v, .cl p19 36 [q17, q18] .v]))) (.s (.oX [.bn p20 .add q13 (ci 1) tI, .mv p13 q20 tI])))))
def c17_e : XC := (.sO [.al p1 (.box q0), .mv p2 (.c .nils) .v] (.sO [.L p7 (.cells 1 q1) .v, .cl p8 35 [q7] .v, .al p3 (.new [.nilm]), .st q3 q8] (.sO [.al p9 (.mkmap), .al p4 (.new [.nilm]), .st q4 q9] (.sj v17_0 (.sO [.fa p10 0 q1, .ld p11 q10 .v, .P p12 (.lenl q11) tI, .mv p13 (ci 0) tI] (.block 0 (.loop v17_1 c17_1b))) c17_0))))
def x17 : XFn := ⟨[.v], false, [(.tmp p2)], c17_e⟩
def e17_0 (k t4 h) := kN k [(p4, t4)] h
def S17_0 (D : CallD) (m : Nat) (t4 : AV) (h : HP) : Res2 :=
 cellC t4 h fun t21 =>
 cal D 40 [t21] h fun t22 h10 =>
 cal D 39 [t22] h10 fun t23 h11 =>
 some (.ret t23 h11, .no)
def e17_1 (k t3 t4 t11 t12 t13 h) := kN k [(p3, t3), (p4, t4), (p11, t11), (p12, (vI t12)), (p13, (vI t13))] h
def S17_1b (D : CallD) (m : Nat) (g1 : AV → AV → AV → Int → Int → HP → Res2) (t3 t4 t11 : AV) (t12 t13 : Int) (h : HP) : Res2 :=
 let t14 := ltQ t13 t12
 br t14 (
 iasC 17 t11 (vI t13) fun t15 =>
 cellsC 17 t15 h fun t16 =>
 let t6 := AV.ptr (HP.nxQ h) 0
 let h12 := HP.newQ h (.cells true [(.bool false), (.bool false), (.bool false), (.str []), (kI 0), (kI 0), .nils, (.bool false), .nils, (kI 0), .nils, .nils, (.str []), (kI 0), (kI 0), (kI 0), (kI 0)])
 stsC 17 t6 t16 h12 fun h13 =>
 cellsC 17 t6 h13 fun t17 =>
 let t18 := (AV.fn 37 [] [t3, t4])
 cal D 36 [t17, t18] h13 fun t19 h14 =>
 let t20 := wrQ .i64 (addQ t13 (Int.ofNat 1))
 g1 t3 t4 t11 t12 t20 h14) (
 S17_0 D m t4 h)
def S17_1 (D : CallD) (m : Nat) : AV → AV → AV → Int → Int → HP → Res2 := nrec (fun _ _ _ _ _ _ => none) (fun _ g => S17_1b D m g) m
def e17_2 (k t0 h) := kN k [(p0, t0)] h
def S17_2 (D : CallD) (m : Nat) (t0 : AV) (h : HP) : Res2 :=
 let t1 := AV.ptr (HP.nxQ h) 0
 let h3 := HP.newQ h (.cells true (AV.cells t0))
 cellsC 1 t1 h3 fun t7 =>
 cal D 35 [t7] h3 fun t8 h4 =>
 let t3 := AV.ptr (HP.nxQ h4) 0
 let h5 := HP.newQ h4 (.cells true [.nilm])
 stoC t3 t8 h5 fun h6 =>
 let t9 := AV.map (HP.nxQ h6)
 let h7 := HP.newQ h6 (.map [] 0)
 let t4 := AV.ptr (HP.nxQ h7) 0
 let h8 := HP.newQ h7 (.cells true [.nilm])
 stoC t4 t9 h8 fun h9 =>
 let t10 := (AV.ptr (HP.nxQ h) (Nat.add 0 0))
 cellC t10 h9 fun t11 =>
 lenC t11 fun vt12 => asI .i64 vt12 fun t12 =>
 S17_1 D m t3 t4 t11 t12 (Int.ofNat 0) h9
def S17 : SFn := fun D m args h u => nou u <| popV args fun t0 args => endA args (S17_2 D m t0 h)
theorem T17_0 (hE : FX x17 D m E) : S17_0 D m = e17_0 (E c17_0 []) := by unfold S17_0; rw [hE c17_0]; kernel_rfl
theorem T17_1b (hE : FX x17 D m E) (G1) : S17_1b D m (e17_1 G1) = e17_1 (E c17_1b [.lp v17_1 G1, .blk 0, .sj v17_0 c17_0]) := by unfold S17_1b; rw [T17_0 hE, hE c17_1b]; kernel_rfl
theorem T17_1 (hE : FX x17 D m E) : S17_1 D m = e17_1 (nrec (fun _ => none) (fun _ G1 st => E c17_1b [.lp v17_1 G1, .blk 0, .sj v17_0 c17_0] st) m) :=
  nrec_emb e17_1 (fun _ _ _ _ _ _ => none) (fun g => S17_1b D m g) (fun G1 st => E c17_1b [.lp v17_1 G1, .blk 0, .sj v17_0 c17_0] st) rfl (fun g => T17_1b hE g) m
theorem T17_2 (hE : FX x17 D m E) : S17_2 D m = e17_2 (E c17_e []) := by unfold S17_2; rw [T17_1 hE, hE c17_e]; kernel_rfl
theorem X17 : XTie S17 x17 := X_of fun D m E hE args h u => by unfold S17; rw [T17_2 hE]; kernel_rfl
/- 18 -/
def v18_0 : List Pos := [p7]
def c18_0 : XC := (.sO [.mv p38 q7 .v, .mv p4 q38 .v] (.s .ret))
def v18_2 : List Pos := [p6, p7, p14, p15, p16]
def c18_2 : XC := (.s (.oX [.bn p37 .add q16 (ci 1) tI, .mv p16 q37 tI]))
def v18_1 : List Pos := [p6, p7, p14, p15, p16]
def c18_1b : XC := (.sO [.bn p17 .lss q16 q15 .b] (.seq (.cond q17 .skip (.exit 0)) (.sj v18_2 (.block 1 (.sO [.P p18 (.iaddr (.sl 17) q14 q16) .v, .L p19 (.cells 17 q18) .v, .al p9 (.new [(.bool false), (.bool false), (.bool false), (.str []), (kI 0), (kI 0), .nils, (.bool false), .nils, (kI 0), .nils, .nils, (.str []), (kI 0), (kI 0), (kI 0), (kI 0)]), .ss 17 q9 q19] (.seq (.seq (.oX [.L p20 (.cells 17 q9) .v, .cl p21 15 [q20] .b, .P p22 (.un .not q21) .b]) (.cond q22 (.exit 1) .skip)) (.sO [.L p23 (.cells 17 q9) .v, .P p24 (.mkfn 43 [] [q6]) .v, .cl p25 36 [q23, q24] .v, .ss 17 q9 q25] (.sO [.ld p26 q6 .v, .fa p27 3 q9, .ld p28 q27 .s, .o ⟨(some p29), (.call (.val q26) [q28]), none, []⟩ .s, .fa p30 3 q9, .st q30 q29, .fa p31 1 q9, .st q31 (cb false), .fa p32 2 q9, .st q32 (cb false)] (.s (.oX [.mv p33 q7 .v, .L p34 (.cells 17 q9) .v, .al p35 (.bsl [(.bool false), (.bool false), (.bool false), (.str []), (kI 0), (kI 0), .nils, (.bool false), .nils, (kI 0), .nils, .nils, (.str []), (kI 0), (kI 0), (kI 0), (kI 0)] 1 [⟨0, 17, q34⟩]), .o ⟨(some p36), (.e (.app 17 200 q33 q35)), none, []⟩ .v, .mv p7 q36 .v]))))))) c18_2)))
def c18_e : XC := (.sO [.al p2 (.box q0), .al p3 (.box q1), .mv p4 (.c .nils) .v] (.sO [.L p10 (.cells 1 q2) .v, .cl p11 35 [q10] .v, .al p5 (.new [.nilm]), .st q5 q11] (.sO [.P p12 (.mkfn 41 [] [q5, q3]) .v, .al p6 (.new [.nilf]), .st q6 q12] (.sO [.mv p7 (.c .nils) .v] (.sj v18_0 (.sO [.fa p13 0 q2, .ld p14 q13 .v, .P p15 (.lenl q14) tI, .mv p16 (ci 0) tI] (.block 0 (.loop v18_1 c18_1b))) c18_0)))))
def x18 : XFn := ⟨[.v, tI], false, [(.tmp p4)], c18_e⟩
def e18_0 (k t7 h) := kN k [(p7, t7)] h
def S18_0 (D : CallD) (m : Nat) (t7 : AV) (h : HP) : Res2 :=
 some (.ret t7 h, .no)
def e18_2 (k t6 t7 t14 t15 t16 h) := kN k [(p6, t6), (p7, t7), (p14, t14), (p15, (vI t15)), (p16, (vI t16))] h
def S18_2 (D : CallD) (m : Nat) (g1 : AV → AV → AV → Int → Int → HP → Res2) (t6 t7 t14 : AV) (t15 t16 : Int) (h : HP) : Res2 :=
 let t37 := wrQ .i64 (addQ t16 (Int.ofNat 1))
 g1 t6 t7 t14 t15 t37 h
def e18_1 (k t6 t7 t14 t15 t16 h) := kN k [(p6, t6), (p7, t7), (p14, t14), (p15, (vI t15)), (p16, (vI t16))] h
def S18_1b (D : CallD) (m : Nat) (g1 : AV → AV → AV → Int → Int → HP → Res2) (t6 t7 t14 : AV) (t15 t16 : Int) (h : HP) : Res2 :=
 let t17 := ltQ t16 t15
 br t17 (
 iasC 17 t14 (vI t16) fun t18 =>
 cellsC 17 t18 h fun t19 =>
 let t9 := AV.ptr (HP.nxQ h) 0
 let h11 := HP.newQ h (.cells true [(.bool false), (.bool false), (.bool false), (.str []), (kI 0), (kI 0), .nils, (.bool false), .nils, (kI 0), .nils, .nils, (.str []), (kI 0), (kI 0), (kI 0), (kI 0)])
 stsC 17 t9 t19 h11 fun h12 =>
 cellsC 17 t9 h12 fun t20 =>
 cal D 15 [t20] h12 fun t21 h13 =>
 asB t21 fun t21a =>
 let t22 := !t21a
 br t22 (
 S18_2 D m g1 t6 t7 t14 t15 t16 h13) (
 cellsC 17 t9 h13 fun t23 =>
 let t24 := (AV.fn 43 [] [t6])
 cal D 36 [t23, t24] h13 fun t25 h14 =>
 stsC 17 t9 t25 h14 fun h15 =>
 cellC t6 h15 fun t26 =>
 let t27 := (AV.ptr (HP.nxQ h) (Nat.add 0 3))
 ldS t27 h15 fun t28 =>
 obQ (target .leaf (.val (.c t26)) [(.c (vS t28))]) fun qh16 =>
 calC D qh16.1 qh16.2 h15 (fun t29 h16 =>
 asS t29 fun t29a =>
 let t30 := (AV.ptr (HP.nxQ h) (Nat.add 0 3))
 stoC t30 (vS t29a) h16 fun h17 =>
 let t31 := (AV.ptr (HP.nxQ h) (Nat.add 0 1))
 stoC t31 (vB false) h17 fun h18 =>
 let t32 := (AV.ptr (HP.nxQ h) (Nat.add 0 2))
 stoC t32 (vB false) h18 fun h19 =>
 cellsC 17 t9 h19 fun t34 =>
 obQ (evA (.bsl [(.bool false), (.bool false), (.bool false), (.str []), (kI 0), (kI 0), .nils, (.bool false), .nils, (kI 0), .nils, .nils, (.str []), (kI 0), (kI 0), (kI 0), (kI 0)] 1 [⟨0, 17, (.c t34)⟩]) .leaf) fun r20 =>
 let t35 := vkV r20.2 (HP.nxQ h19)
 let h21 := HP.newQ h19 r20.1
 eff (.app 17 200 (.c t7) (.c t35)) h21 fun t36 h22 =>
 S18_2 D m g1 t6 t36 t14 t15 t16 h22) (panN))) (
 S18_0 D m t7 h)
def S18_1 (D : CallD) (m : Nat) : AV → AV → AV → Int → Int → HP → Res2 := nrec (fun _ _ _ _ _ _ => none) (fun _ g => S18_1b D m g) m
def e18_3 (k t0 t1 h) := kN k [(p0, t0), (p1, (vI t1))] h
def S18_3 (D : CallD) (m : Nat) (t0 : AV) (t1 : Int) (h : HP) : Res2 :=
 let t2 := AV.ptr (HP.nxQ h) 0
 let h4 := HP.newQ h (.cells true (AV.cells t0))
 let t3 := AV.ptr (HP.nxQ h4) 0
 let h5 := HP.newQ h4 (.cells true (AV.cells (vI t1)))
 cellsC 1 t2 h5 fun t10 =>
 cal D 35 [t10] h5 fun t11 h6 =>
 let t5 := AV.ptr (HP.nxQ h6) 0
 let h7 := HP.newQ h6 (.cells true [.nilm])
 stoC t5 t11 h7 fun h8 =>
 let t12 := (AV.fn 41 [] [t5, t3])
 let t6 := AV.ptr (HP.nxQ h8) 0
 let h9 := HP.newQ h8 (.cells true [.nilf])
 stoC t6 t12 h9 fun h10 =>
 let t13 := (AV.ptr (HP.nxQ h) (Nat.add 0 0))
 cellC t13 h10 fun t14 =>
 lenC t14 fun vt15 => asI .i64 vt15 fun t15 =>
 S18_1 D m t6 (.nils : AV) t14 t15 (Int.ofNat 0) h10
def S18 : SFn := fun D m args h u => nou u <| popV args fun t0 args => popI .i64 args fun t1 args => endA args (S18_3 D m t0 t1 h)
theorem T18_0 (hE : FX x18 D m E) : S18_0 D m = e18_0 (E c18_0 []) := by unfold S18_0; rw [hE c18_0]; kernel_rfl
theorem T18_2 (hE : FX x18 D m E) (G1) : S18_2 D m (e18_1 G1) = e18_2 (E c18_2 [.lp v18_1 G1, .blk 0, .sj v18_0 c18_0]) := by unfold S18_2; rw [hE c18_2]; kernel_rfl
theorem T18_1b (hE : FX x18 D m E) (G1) : S18_1b D m (e18_1 G1) = e18_1 (E c18_1b [.lp v18_1 G1, .blk 0, .sj v18_0 c18_0]) := by unfold S18_1b; rw [T18_2 hE G1, T18_0 hE, hE c18_1b]; kernel_rfl
theorem T18_1 (hE : FX x18 D m E) : S18_1 D m = e18_1 (nrec (fun _ => none) (fun _ G1 st => E c18_1b [.lp v18_1 G1, .blk 0, .sj v18_0 c18_0] st) m) :=
  nrec_emb e18_1 (fun _ _ _ _ _ _ => none) (fun g => S18_1b D m g) (fun G1 st => E c18_1b [.lp v18_1 G1, .blk 0, .sj v18_0 c18_0] st) rfl (fun g => T18_1b hE g) m
theorem T18_3 (hE : FX x18 D m E) : S18_3 D m = e18_3 (E c18_e []) := by unfold S18_3; rw [T18_1 hE, hE c18_e]; kernel_rfl
theorem X18 : XTie S18 x18 := X_of fun D m E hE args h u => by unfold S18; rw [T18_3 hE]; kernel_rfl
/- 27 -/
def v27_0 : List Pos := [p0, p5, p6]
def c27_0b : XC := (.block 1 (.sO [.mv p7 (cb true) .b] (.sO [.mv p14 q0 .s, .mv p15 q6 tI, .cl p16 52 [q14, q15] .v, .mv p13 q16 .v, .P p17 (.ext q13 0) tI, .P p18 (.ext q13 1) .b, .mv p6 q17 tI, .mv p7 q18 .b] (.seq (.seq (.oX [.mv p19 q7 .b, .P p20 (.un .not q19) .b]) (.cond q20 (.seq (.oX [.mv p21 q6 tI, .mv p2 (.c .nils) .v, .mv p3 q21 tI, .mv p4 (ci 10) tI]) .ret) .skip)) (.seq (.seq (.oX [.mv p22 q6 tI, .mv p23 q0 .s, .P p24 (.lens q23) tI, .bn p25 .eql q22 q24 .b]) (.cond q25 (.seq (.oX [.mv p26 q5 .v, .mv p27 q6 tI, .P p28 (.build [(kI 0), (.str []), (kI 0)] [⟨2, 1, q27⟩]) .v, .al p29 (.bsl [(kI 0), (.str []), (kI 0)] 1 [⟨0, 3, q28⟩]), .o ⟨(some p30), (.e (.app 3 32 q26 q29)), none, []⟩ .v, .mv p2 q30 .v, .mv p3 (ci 0) tI, .mv p4 (ci 0) tI]) .ret) .skip)) (.sO [.mv p32 q0 .s, .mv p33 q6 tI, .cl p34 53 [q32, q33] .v, .mv p31 q34 .v, .P p35 (.ext q31 0) .v, .P p36 (.ext q31 1) tI, .al p8 (.new [(kI 0), (.str []), (kI 0)]), .ss 3 q8 q35, .mv p9 q36 tI] (.seq (.seq (.oX [.mv p37 q9 tI, .bn p38 .eql q37 (ci 0) .b]) (.cond q38 (.seq (.oX [.mv p39 q6 tI, .mv p2 (.c .nils) .v, .mv p3 q39 tI, .mv p4 (ci 10) tI]) .ret) .skip)) (.seq (.seq (.oX [.mv p40 q5 .v, .P p41 (.lenl q40) tI, .bn p42 .geq q41 (ci 2500) .b]) (.cond q42 (.seq (.oX [.mv p43 q6 tI, .mv p2 (.c .nils) .v, .mv p3 q43 tI, .mv p4 (ci 5) tI]) .ret) .skip)) (.sO [.mv p44 q5 .v, .L p45 (.cells 3 q8) .v, .al p46 (.bsl [(kI 0), (.str []), (kI 0)] 1 [⟨0, 3, q45⟩]), .o ⟨(some p47), (.e (.app 3 32 q44 q46)), none, []⟩ .v, .mv p5 q47 .v] (.s (.oX [.mv p48 q9 tI, .mv p6 q48 tI])))))))))))
def c27_e : XC := (.sO [.mv p2 (.c .nils) .v, .mv p3 (ci 0) tI, .mv p4 (ci 0) tI] (.seq (.seq (.oX [.mv p10 q0 .s, .P p11 (.lens q10) tI, .bn p12 .gtr q11 (ci 8192) .b]) (.cond q12 (.seq (.oX [.mv p2 (.c .nils) .v, .mv p3 (ci 0) tI, .mv p4 (ci 6) tI]) .ret) .skip)) (.sO [.mv p5 (.c .nils) .v] (.sO [.mv p6 (ci 0) tI] (.block 0 (.loop v27_0 c27_0b))))))
def x27 : XFn := ⟨[.s], false, [(.tmp p2), (.tmp p3), (.tmp p4)], c27_e⟩
def e27_0 (k t0 t5 t6 h) := kN k [(p0, (vS t0)), (p5, t5), (p6, (vI t6))] h
def S27_0b (D : CallD) (m : Nat) (g0 : LN → AV → Int → HP → Res2) (t0 : LN) (t5 : AV) (t6 : Int) (h : HP) : Res2 :=
 cal D 52 [(vS t0), (vI t6)] h fun t16 h2 =>
 extC t16 0 fun vt17 => asI .i64 vt17 fun t17 =>
 extC t16 1 fun vt18 => asB vt18 fun t18 =>
 let t20 := !t18
 br t20 (
 some (.ret (.tup [(.nils : AV), (vI t17), (vI (Int.ofNat 10))]) h2, .no)) (
 let t24 := Int.ofNat (lenL t0)
 let t25 := eqQ t17 t24
 br t25 (
 let t28 := (AV.agg [(vI (Int.ofNat 0)), (vS ([] : LN)), (vI t17)])
 let t29 := AV.slice (HP.nxQ h2) 0 1 (.exact 1)
 let h3 := HP.newQ h2 (.cells true [(vI (Int.ofNat 0)), (vS ([] : LN)), (vI t17)])
 eff (.app 3 32 (.c t5) (.c t29)) h3 fun t30 h4 =>
 some (.ret (.tup [t30, (vI (Int.ofNat 0)), (vI (Int.ofNat 0))]) h4, .no)) (
 cal D 53 [(vS t0), (vI t17)] h2 fun t34 h5 =>
 extC t34 0 fun t35 =>
 extC t34 1 fun vt36 => asI .i64 vt36 fun t36 =>
 let t8 := AV.ptr (HP.nxQ h5) 0
 let h6 := HP.newQ h5 (.cells true [(kI 0), (.str []), (kI 0)])
 stsC 3 t8 t35 h6 fun h7 =>
 let t38 := eqQ t36 (Int.ofNat 0)
 br t38 (
 some (.ret (.tup [(.nils : AV), (vI t17), (vI (Int.ofNat 10))]) h7, .no)) (
 lenC t5 fun vt41 => asI .i64 vt41 fun t41 =>
 let t42 := leQ (Int.ofNat 2500) t41
 br t42 (
 some (.ret (.tup [(.nils : AV), (vI t17), (vI (Int.ofNat 5))]) h7, .no)) (
 cellsC 3 t8 h7 fun t45 =>
 obQ (evA (.bsl [(kI 0), (.str []), (kI 0)] 1 [⟨0, 3, (.c t45)⟩]) .leaf) fun r8 =>
 let t46 := vkV r8.2 (HP.nxQ h7)
 let h9 := HP.newQ h7 r8.1
 eff (.app 3 32 (.c t5) (.c t46)) h9 fun t47 h10 =>
 g0 t0 t47 t36 h10))))
def S27_0 (D : CallD) (m : Nat) : LN → AV → Int → HP → Res2 := nrec (fun _ _ _ _ => none) (fun _ g => S27_0b D m g) m
def e27_1 (k t0 h) := kN k [(p0, (vS t0))] h
def S27_1 (D : CallD) (m : Nat) (t0 : LN) (h : HP) : Res2 :=
 let t11 := Int.ofNat (lenL t0)
 let t12 := ltQ (Int.ofNat 8192) t11
 br t12 (
 some (.ret (.tup [(.nils : AV), (vI (Int.ofNat 0)), (vI (Int.ofNat 6))]) h, .no)) (
 S27_0 D m t0 (.nils : AV) (Int.ofNat 0) h)
def S27 : SFn := fun D m args h u => nou u <| popS args fun t0 args => endA args (S27_1 D m t0 h)
theorem T27_0b (hE : FX x27 D m E) (G0) : S27_0b D m (e27_0 G0) = e27_0 (E c27_0b [.lp v27_0 G0, .blk 0]) := by unfold S27_0b; rw [hE c27_0b]; kernel_rfl
theorem T27_0 (hE : FX x27 D m E) : S27_0 D m = e27_0 (nrec (fun _ => none) (fun _ G0 st => E c27_0b [.lp v27_0 G0, .blk 0] st) m) :=
  nrec_emb e27_0 (fun _ _ _ _ => none) (fun g => S27_0b D m g) (fun G0 st => E c27_0b [.lp v27_0 G0, .blk 0] st) rfl (fun g => T27_0b hE g) m
theorem T27_1 (hE : FX x27 D m E) : S27_1 D m = e27_1 (E c27_e []) := by unfold S27_1; rw [T27_0 hE, hE c27_e]; kernel_rfl
theorem X27 : XTie S27 x27 := X_of fun D m E hE args h u => by unfold S27; rw [T27_1 hE]; kernel_rfl
/- 28 -/
def c28_e : XC := (.sO [.al p1 (.box q0), .al p2 (.new [(kI 0), (.str []), (kI 0)])] (.sO [.fa p3 0 q1, .ld p4 q3 .v, .fa p5 1 q1, .ld p6 q5 tI, .P p7 (.iaddr (.sl 3) q4 q6) .v, .L p8 (.cells 3 q7) .v, .ss 3 q2 q8] (.s .ret)))
def x28 : XFn := ⟨[.v], false, [(.cells 3 p2)], c28_e⟩
def e28_0 (k t0 h) := kN k [(p0, t0)] h
def S28_0 (D : CallD) (m : Nat) (t0 : AV) (h : HP) : Res2 :=
 let t1 := AV.ptr (HP.nxQ h) 0
 let h1 := HP.newQ h (.cells true (AV.cells t0))
 let t2 := AV.ptr (HP.nxQ h1) 0
 let h2 := HP.newQ h1 (.cells true [(kI 0), (.str []), (kI 0)])
 let t3 := (AV.ptr (HP.nxQ h) (Nat.add 0 0))
 cellC t3 h2 fun t4 =>
 let t5 := (AV.ptr (HP.nxQ h) (Nat.add 0 1))
 ldI t5 h2 fun t6 =>
 iasC 3 t4 (vI t6) fun t7 =>
 cellsC 3 t7 h2 fun t8 =>
 stsC 3 t2 t8 h2 fun h3 =>
 cellsC 3 t2 h3 fun t2a =>
 some (.ret t2a h3, .no)
def S28 : SFn := fun D m args h u => nou u <| popV args fun t0 args => endA args (S28_0 D m t0 h)
theorem T28_0 (hE : FX x28 D m E) : S28_0 D m = e28_0 (E c28_e []) := by unfold S28_0; rw [hE c28_e]; kernel_rfl
theorem X28 : XTie S28 x28 := X_of fun D m E hE args h u => by unfold S28; rw [T28_0 hE]; kernel_rfl
/- 29 -/
def v29_1 : List Pos := [p1, p2, p3, p4]
def c29_1 : XC := (.seq (.ops true (XL.of [.L p109 (.cells 5 q1) .v, .L p111 (.cells 17 q4) .v, .o ⟨(some p110), (.call (.fn 60) [q109, (.c (.str [59]))]), none, [⟨none, .cells 17 q4, p111⟩]⟩ .v, .o ⟨none, (.e (.stores 5 q2 q110)), none, [⟨none, .cells 17 q4, p111⟩]⟩ .v, .ss 17 q3 q111])) (.s .ret))
def v29_3 : List Pos := [p1, p2, p3, p4]
def c29_3 : XC := (.sO [.fa p104 5 q4, .ld p105 q104 tI, .bn p106 .gtr q105 (ci 0) .b] (.cond q106 (.s (.oX [.L p107 (.cells 5 q1) .v, .cl p108 60 [q107, (.c (.str [125]))] .v, .ss 5 q1 q108])) (.s .skip)))
def c29_6 : XC := (.sO [.mv p101 q5 .b] (.cond q101 (.s (.oX [.L p102 (.cells 5 q1) .v, .cl p103 55 [q102] .v, .ss 5 q1 q103])) (.s .skip)))
def l29_5 : XL := (XL.of [.mv p5 q100 .b])
def v29_4 : List Pos := [p1, p2, p3, p4, p5]
def c29_4b : XC := (.seq (.seq (.oX [.mv p76 q5 .b, .mv p77 q76 .b, .ge p77 (XL.of [.G p77 true p78 (.faddr 3 q1) .v, .o ⟨(some p79), (.l (.cell q78)), (some (p77, true)), []⟩ tI, .G p77 true p80 (.bin .eql q79 (ci 0)) .b, .P p81 (.pick q77 q80 (cb false)) .b]) p81 .b]) (.cond q81 .skip (.exit 0))) (.block 1 (.sO [.P p82 (.build [(kI 0), (.str []), (.str []), (.int .u32 (.ofNat 0)), (.int .u64 (.ofNat 0)), .nils, (kI 0), (kI 0)] []) .v, .al p6 (.new [(kI 0), (.str []), (.str []), (.int .u32 (.ofNat 0)), (.int .u64 (.ofNat 0)), .nils, (kI 0), (kI 0)]), .ss 8 q6 q82] (.sO [.L p84 (.cells 5 q1) .v, .cl p85 62 [q84] .v, .mv p83 q85 .v, .P p86 (.ext q83 0) .v, .P p87 (.ext q83 1) .v, .ss 5 q1 q86, .ss 8 q6 q87] (.sO [.fa p88 6 q4, .ld p89 q88 .v, .L p90 (.cells 8 q6) .v, .al p91 (.bsl [(kI 0), (.str []), (.str []), (.int .u32 (.ofNat 0)), (.int .u64 (.ofNat 0)), .nils, (kI 0), (kI 0)] 1 [⟨0, 8, q90⟩]), .o ⟨(some p92), (.e (.app 8 96 q89 q91)), none, []⟩ .v, .fa p93 6 q4, .st q93 q92] (.opq false (XL.pre [.fa p94 5 q4, .ld p95 q94 tI, .bn p96 .gtr q95 (ci 0) .b, .mv p97 q96 .b, .sp p97, .o ⟨(some p98), (.l (.cells 5 q1)), (some (p97, true)), []⟩ .v, .o ⟨(some p99), (.call (.fn 54) [q98, (.c (.str [44]))]), (some (p97, true)), []⟩ .b, .P p100 (.pick q97 q99 (cb false)) .b, .jn p97 [p1, p2, p3, p4, p100]] l29_5) c29_6))))))
def v29_2 : List Pos := [p1, p2, p3, p4]
def c29_2 : XC := (.sj v29_3 (.sO [.mv p5 (cb true) .b] (.block 0 (.loop v29_4 c29_4b))) c29_3)
def v29_0 : List Pos := [p1, p2, p3, p4]
def c29_0 : XC := (.sO [.L p20 (.cells 5 q1) .v, .cl p21 28 [q20] .v, .P p22 (.field 2 1 false q21) tI, .fa p23 16 q4, .st q23 q22] (.sO [.L p25 (.cells 5 q1) .v, .cl p26 56 [q25] .v, .mv p24 q26 .v, .P p27 (.ext q24 0) .v, .P p28 (.ext q24 1) tI, .ss 5 q1 q27, .fa p29 4 q4, .st q29 q28] (.sO [.L p31 (.cells 5 q1) .v, .cl p32 57 [q31, (ci 1)] .v, .mv p30 q32 .v, .P p33 (.ext q30 0) .v, .P p34 (.ext q30 1) .s, .ss 5 q1 q33, .fa p35 3 q4, .st q35 q34] (.seq (.seq (.oX [.L p36 (.cells 5 q1) .v, .cl p37 54 [q36, (.c (.str [40]))] .b]) (.cond q37 (.seq (.oX [.fa p38 0 q4, .st q38 (cb true)]) (.seq (.oX [.L p40 (.cells 5 q1) .v, .cl p41 55 [q40] .v, .cl p42 58 [q41] .v, .mv p39 q42 .v, .P p43 (.ext q39 0) .v, .P p44 (.ext q39 1) .v, .ss 5 q1 q43, .fa p45 8 q4, .st q45 q44]) (.seq (.seq (.oX [.L p46 (.cells 5 q1) .v, .cl p47 54 [q46, (.c (.str [123]))] .b]) (.cond q47 (.seq (.oX [.fa p48 7 q4, .st q48 (cb true)]) (.seq (.oX [.L p50 (.cells 5 q1) .v, .cl p51 59 [q50] .v, .mv p49 q51 .v, .P p52 (.ext q49 0) .v, .P p53 (.ext q49 1) .v, .ss 5 q1 q52, .fa p54 9 q4, .ss 7 q54 q53]) (.seq (.ops true (XL.of [.L p55 (.cells 5 q1) .v, .L p56 (.cells 17 q4) .v, .o ⟨none, (.e (.stores 5 q2 q55)), none, [⟨none, .cells 17 q4, p56⟩]⟩ .v, .ss 17 q3 q56])) .ret))) .skip)) (.seq (.ops true (XL.of [.L p57 (.cells 5 q1) .v, .L p59 (.cells 17 q4) .v, .o ⟨(some p58), (.call (.fn 60) [q57, (.c (.str [59]))]), none, [⟨none, .cells 17 q4, p59⟩]⟩ .v, .o ⟨none, (.e (.stores 5 q2 q58)), none, [⟨none, .cells 17 q4, p59⟩]⟩ .v, .ss 17 q3 q59])) .ret)))) .skip)) (.sO [.L p61 (.cells 5 q1) .v, .cl p62 61 [q61] .v, .mv p60 q62 .v, .P p63 (.ext q60 0) .v, .P p64 (.ext q60 1) tI, .ss 5 q1 q63, .fa p65 5 q4, .st q65 q64] (.sj v29_1 (.sO [.L p66 (.cells 5 q1) .v, .cl p67 54 [q66, (.c (.str [61]))] .b] (.cond q67 (.sO [.fa p68 7 q4, .st q68 (cb true)] (.sO [.L p69 (.cells 5 q1) .v, .cl p70 55 [q69] .v, .ss 5 q1 q70] (.sj v29_2 (.sO [.fa p71 5 q4, .ld p72 q71 tI, .bn p73 .gtr q72 (ci 0) .b] (.cond q73 (.s (.oX [.L p74 (.cells 5 q1) .v, .cl p75 60 [q74, (.c (.str [123]))] .v, .ss 5 q1 q75])) (.s .skip))) c29_2))) (.s .skip))) c29_1))))))
def c29_e : XC := (.sO [.al p1 (.box q0), .al p2 (.new [.nils, (kI 0), (kI 0), (kI 0), (kI 0)]), .al p3 (.new [(.bool false), (.bool false), (.bool false), (.str []), (kI 0), (kI 0), .nils, (.bool false), .nils, (kI 0), .nils, .nils, (.str []), (kI 0), (kI 0), (kI 0), (kI 0)])] (.seq (.ops true (XL.of [.L p7 (.cells 5 q1) .v, .L p9 (.cells 5 q1) .v, .al p4 (.new [(.bool false), (.bool false), (.bool false), (.str []), (kI 0), (kI 0), .nils, (.bool false), .nils, (kI 0), .nils, .nils, (.str []), (kI 0), (kI 0), (kI 0), (kI 0)]), .o ⟨(some p8), (.call (.fn 54) [q7, (.c (.str [115, 116, 97, 116, 105, 99]))]), none, [⟨none, .cells 5 q1, p9⟩]⟩ .b, .cl p10 54 [q9, (.c (.str [101, 120, 116, 101, 114, 110]))] .b, .P p11 (.build [(.bool false), (.bool false), (.bool false), (.str []), (kI 0), (kI 0), .nils, (.bool false), .nils, (kI 0), .nils, .nils, (.str []), (kI 0), (kI 0), (kI 0), (kI 0)] [⟨1, 1, q8⟩, ⟨2, 1, q10⟩]) .v, .ss 17 q4 q11])) (.sj v29_0 (.sO [.fa p12 1 q4, .ld p13 q12 .b, .mv p14 q13 .b, .ge p14 (XL.of [.G p14 false p15 (.faddr 2 q4) .v, .o ⟨(some p16), (.l (.cell q15)), (some (p14, false)), []⟩ .b, .P p17 (.pick q14 (cb true) q16) .b]) p17 .b] (.cond q17 (.s (.oX [.L p18 (.cells 5 q1) .v, .cl p19 55 [q18] .v, .ss 5 q1 q19])) (.s .skip))) c29_0)))
def x29 : XFn := ⟨[.v], false, [(.cells 5 p2), (.cells 17 p3)], c29_e⟩
def e29_1 (k t1 t2 t3 t4 h) := kN k [(p1, t1), (p2, t2), (p3, t3), (p4, t4)] h
def S29_1 (D : CallD) (m : Nat) (t1 t2 t3 t4 : AV) (h : HP) : Res2 :=
 cellsC 5 t1 h fun t109 =>
 cellsC 17 t4 h fun t111 =>
 cal D 60 [t109, (vS ([59] : LN))] h fun t110 h42 =>
 br (again [⟨none, .cells 17 q4, p111⟩] (mkT [(p111, t111), (p4, t4)]) h42) (
 stsC 5 t2 t110 h42 fun h43 =>
 br (againE (.stores 5 q2 q110) [⟨none, .cells 17 q4, p111⟩] (mkT [(p2, t2), (p111, t111), (p4, t4)]) h43) (
 stsC 17 t3 t111 h43 fun h44 =>
 cellsC 5 t2 h44 fun t2a =>
 cellsC 17 t3 h44 fun t3a =>
 some (.ret (.tup [t2a, t3a]) h44, .no)) none) none
def e29_3 (k t1 t2 t3 t4 h) := kN k [(p1, t1), (p2, t2), (p3, t3), (p4, t4)] h
def S29_3 (D : CallD) (m : Nat) (t1 t2 t3 t4 : AV) (h : HP) : Res2 :=
 faC 5 t4 fun t104 =>
 ldI t104 h fun t105 =>
 let t106 := ltQ (Int.ofNat 0) t105
 br t106 (
 cellsC 5 t1 h fun t107 =>
 cal D 60 [t107, (vS ([125] : LN))] h fun t108 h49 =>
 stsC 5 t1 t108 h49 fun h50 =>
 S29_1 D m t1 t2 t3 t4 h50) (
 S29_1 D m t1 t2 t3 t4 h)
def e29_5 (k t1 t2 t3 t4 t100 h) := kN k [(p1, t1), (p2, t2), (p3, t3), (p4, t4), (p100, (vB t100))] h
def S29_5 (D : CallD) (m : Nat) (g4 : AV → AV → AV → AV → Bool → HP → Res2) (t1 t2 t3 t4 : AV) (t100 : Bool) (h : HP) : Res2 :=
 br t100 (
 cellsC 5 t1 h fun t102 =>
 cal D 55 [t102] h fun t103 h61 =>
 stsC 5 t1 t103 h61 fun h62 =>
 g4 t1 t2 t3 t4 t100 h62) (
 g4 t1 t2 t3 t4 t100 h)
def e29_4 (k t1 t2 t3 t4 t5 h) := kN k [(p1, t1), (p2, t2), (p3, t3), (p4, t4), (p5, (vB t5))] h
def S29_4b (D : CallD) (m : Nat) (g4 : AV → AV → AV → AV → Bool → HP → Res2) (t1 t2 t3 t4 : AV) (t5 : Bool) (h : HP) : Res2 :=
 obB (brV t5 (
 faCV 3 t1 fun t78 =>
 ldIV t78 h fun t79 =>
 let t80 := eqQ t79 (Int.ofNat 0)
 some (vB t80)) (
 some (vB false))) fun t81 =>
 br t81 (
 let t82 := (AV.agg [(vI (Int.ofNat 0)), (vS ([] : LN)), (vS ([] : LN)), (vW (Int.ofNat 0)), (AV.int .u64 (Int.ofNat 0)), (.nils : AV), (vI (Int.ofNat 0)), (vI (Int.ofNat 0))])
 let t6 := AV.ptr (HP.nxQ h) 0
 let h51 := HP.newQ h (.cells true [(kI 0), (.str []), (.str []), (.int .u32 (.ofNat 0)), (.int .u64 (.ofNat 0)), .nils, (kI 0), (kI 0)])
 stsC 8 t6 t82 h51 fun h52 =>
 cellsC 5 t1 h52 fun t84 =>
 cal D 62 [t84] h52 fun t85 h53 =>
 extC t85 0 fun t86 =>
 extC t85 1 fun t87 =>
 stsC 5 t1 t86 h53 fun h54 =>
 stsC 8 t6 t87 h54 fun h55 =>
 faC 6 t4 fun t88 =>
 cellC t88 h55 fun t89 =>
 cellsC 8 t6 h55 fun t90 =>
 obQ (evA (.bsl [(kI 0), (.str []), (.str []), (.int .u32 (.ofNat 0)), (.int .u64 (.ofNat 0)), .nils, (kI 0), (kI 0)] 1 [⟨0, 8, (.c t90)⟩]) .leaf) fun r56 =>
 let t91 := vkV r56.2 (HP.nxQ h55)
 let h57 := HP.newQ h55 r56.1
 eff (.app 8 96 (.c t89) (.c t91)) h57 fun t92 h58 =>
 faC 6 t4 fun t93 =>
 stoC t93 t92 h58 fun h59 =>
 faC 5 t4 fun t94 =>
 ldI t94 h59 fun t95 =>
 let t96 := ltQ (Int.ofNat 0) t95
 br t96 (
 cellsC 5 t1 h59 fun t98 =>
 cal D 54 [t98, (vS ([44] : LN))] h59 fun t99 h60 =>
 asB t99 fun t99a =>
 S29_5 D m g4 t1 t2 t3 t4 t99a h60) (
 S29_5 D m g4 t1 t2 t3 t4 false h59)) (
 S29_3 D m t1 t2 t3 t4 h)
def S29_4 (D : CallD) (m : Nat) : AV → AV → AV → AV → Bool → HP → Res2 := nrec (fun _ _ _ _ _ _ => none) (fun _ g => S29_4b D m g) m
def e29_2 (k t1 t2 t3 t4 h) := kN k [(p1, t1), (p2, t2), (p3, t3), (p4, t4)] h
def S29_2 (D : CallD) (m : Nat) (t1 t2 t3 t4 : AV) (h : HP) : Res2 :=
 S29_4 D m t1 t2 t3 t4 true h
def e29_0 (k t1 t2 t3 t4 h) := kN k [(p1, t1), (p2, t2), (p3, t3), (p4, t4)] h
def S29_0 (D : CallD) (m : Nat) (t1 t2 t3 t4 : AV) (h : HP) : Res2 :=
 cellsC 5 t1 h fun t20 =>
 cal D 28 [t20] h fun t21 h15 =>
 fldC 2 1 false t21 fun vt22 => asI .i64 vt22 fun t22 =>
 faC 16 t4 fun t23 =>
 stoC t23 (vI t22) h15 fun h16 =>
 cellsC 5 t1 h16 fun t25 =>
 cal D 56 [t25] h16 fun t26 h17 =>
 extC t26 0 fun t27 =>
 extC t26 1 fun vt28 => asI .i64 vt28 fun t28 =>
 stsC 5 t1 t27 h17 fun h18 =>
 faC 4 t4 fun t29 =>
 stoC t29 (vI t28) h18 fun h19 =>
 cellsC 5 t1 h19 fun t31 =>
 cal D 57 [t31, (vI (Int.ofNat 1))] h19 fun t32 h20 =>
 extC t32 0 fun t33 =>
 extC t32 1 fun vt34 => asS vt34 fun t34 =>
 stsC 5 t1 t33 h20 fun h21 =>
 faC 3 t4 fun t35 =>
 stoC t35 (vS t34) h21 fun h22 =>
 cellsC 5 t1 h22 fun t36 =>
 cal D 54 [t36, (vS ([40] : LN))] h22 fun t37 h23 =>
 asB t37 fun t37a =>
 br t37a (
 faC 0 t4 fun t38 =>
 stoC t38 (vB true) h23 fun h24 =>
 cellsC 5 t1 h24 fun t40 =>
 cal D 55 [t40] h24 fun t41 h25 =>
 cal D 58 [t41] h25 fun t42 h26 =>
 extC t42 0 fun t43 =>
 extC t42 1 fun t44 =>
 stsC 5 t1 t43 h26 fun h27 =>
 faC 8 t4 fun t45 =>
 stoC t45 t44 h27 fun h28 =>
 cellsC 5 t1 h28 fun t46 =>
 cal D 54 [t46, (vS ([123] : LN))] h28 fun t47 h29 =>
 asB t47 fun t47a =>
 br t47a (
 faC 7 t4 fun t48 =>
 stoC t48 (vB true) h29 fun h30 =>
 cellsC 5 t1 h30 fun t50 =>
 cal D 59 [t50] h30 fun t51 h31 =>
 extC t51 0 fun t52 =>
 extC t51 1 fun t53 =>
 stsC 5 t1 t52 h31 fun h32 =>
 faC 9 t4 fun t54 =>
 stsC 7 t54 t53 h32 fun h33 =>
 cellsC 5 t1 h33 fun t55 =>
 cellsC 17 t4 h33 fun t56 =>
 stsC 5 t2 t55 h33 fun h34 =>
 br (againE (.stores 5 q2 q55) [⟨none, .cells 17 q4, p56⟩] (mkT [(p2, t2), (p56, t56), (p4, t4)]) h34) (
 stsC 17 t3 t56 h34 fun h35 =>
 cellsC 5 t2 h35 fun t2a =>
 cellsC 17 t3 h35 fun t3a =>
 some (.ret (.tup [t2a, t3a]) h35, .no)) none) (
 cellsC 5 t1 h29 fun t57 =>
 cellsC 17 t4 h29 fun t59 =>
 cal D 60 [t57, (vS ([59] : LN))] h29 fun t58 h36 =>
 br (again [⟨none, .cells 17 q4, p59⟩] (mkT [(p59, t59), (p4, t4)]) h36) (
 stsC 5 t2 t58 h36 fun h37 =>
 br (againE (.stores 5 q2 q58) [⟨none, .cells 17 q4, p59⟩] (mkT [(p2, t2), (p59, t59), (p4, t4)]) h37) (
 stsC 17 t3 t59 h37 fun h38 =>
 cellsC 5 t2 h38 fun t2a =>
 cellsC 17 t3 h38 fun t3a =>
 some (.ret (.tup [t2a, t3a]) h38, .no)) none) none)) (
 cellsC 5 t1 h23 fun t61 =>
 cal D 61 [t61] h23 fun t62 h39 =>
 extC t62 0 fun t63 =>
 extC t62 1 fun vt64 => asI .i64 vt64 fun t64 =>
 stsC 5 t1 t63 h39 fun h40 =>
 faC 5 t4 fun t65 =>
 stoC t65 (vI t64) h40 fun h41 =>
 cellsC 5 t1 h41 fun t66 =>
 cal D 54 [t66, (vS ([61] : LN))] h41 fun t67 h45 =>
 asB t67 fun t67a =>
 br t67a (
 faC 7 t4 fun t68 =>
 stoC t68 (vB true) h45 fun h46 =>
 cellsC 5 t1 h46 fun t69 =>
 cal D 55 [t69] h46 fun t70 h47 =>
 stsC 5 t1 t70 h47 fun h48 =>
 faC 5 t4 fun t71 =>
 ldI t71 h48 fun t72 =>
 let t73 := ltQ (Int.ofNat 0) t72
 br t73 (
 cellsC 5 t1 h48 fun t74 =>
 cal D 60 [t74, (vS ([123] : LN))] h48 fun t75 h63 =>
 stsC 5 t1 t75 h63 fun h64 =>
 S29_2 D m t1 t2 t3 t4 h64) (
 S29_2 D m t1 t2 t3 t4 h48)) (
 S29_1 D m t1 t2 t3 t4 h45))
def e29_7 (k t0 h) := kN k [(p0, t0)] h
def S29_7 (D : CallD) (m : Nat) (t0 : AV) (h : HP) : Res2 :=
 let t1 := AV.ptr (HP.nxQ h) 0
 let h8 := HP.newQ h (.cells true (AV.cells t0))
 let t2 := AV.ptr (HP.nxQ h8) 0
 let h9 := HP.newQ h8 (.cells true [.nils, (kI 0), (kI 0), (kI 0), (kI 0)])
 let t3 := AV.ptr (HP.nxQ h9) 0
 let h10 := HP.newQ h9 (.cells true [(.bool false), (.bool false), (.bool false), (.str []), (kI 0), (kI 0), .nils, (.bool false), .nils, (kI 0), .nils, .nils, (.str []), (kI 0), (kI 0), (kI 0), (kI 0)])
 cellsC 5 t1 h10 fun t7 =>
 cellsC 5 t1 h10 fun t9 =>
 let t4 := AV.ptr (HP.nxQ h10) 0
 let h11 := HP.newQ h10 (.cells true [(.bool false), (.bool false), (.bool false), (.str []), (kI 0), (kI 0), .nils, (.bool false), .nils, (kI 0), .nils, .nils, (.str []), (kI 0), (kI 0), (kI 0), (kI 0)])
 cal D 54 [t7, (vS ([115, 116, 97, 116, 105, 99] : LN))] h11 fun t8 h12 =>
 br (again [⟨none, .cells 5 q1, p9⟩] (mkT [(p9, t9), (p1, t1)]) h12) (
 asB t8 fun t8a =>
 cal D 54 [t9, (vS ([101, 120, 116, 101, 114, 110] : LN))] h12 fun t10 h13 =>
 asB t10 fun t10a =>
 let t11 := (AV.agg [(vB false), (vB t8a), (vB t10a), (vS ([] : LN)), (vI (Int.ofNat 0)), (vI (Int.ofNat 0)), (.nils : AV), (vB false), (.nils : AV), (vI (Int.ofNat 0)), (.nils : AV), (.nils : AV), (vS ([] : LN)), (vI (Int.ofNat 0)), (vI (Int.ofNat 0)), (vI (Int.ofNat 0)), (vI (Int.ofNat 0))])
 stsC 17 t4 t11 h13 fun h14 =>
 let t12 := (AV.ptr (HP.nxQ h10) (Nat.add 0 1))
 ldB t12 h14 fun t13 =>
 obB (brV t13 (
 some (vB true)) (
 let t15 := (AV.ptr (HP.nxQ h10) (Nat.add 0 2))
 ldBV t15 h14 fun t16 =>
 some (vB t16))) fun t17 =>
 br t17 (
 cellsC 5 t1 h14 fun t18 =>
 cal D 55 [t18] h14 fun t19 h65 =>
 stsC 5 t1 t19 h65 fun h66 =>
 S29_0 D m t1 t2 t3 t4 h66) (
 S29_0 D m t1 t2 t3 t4 h14)) none
def S29 : SFn := fun D m args h u => nou u <| popV args fun t0 args => endA args (S29_7 D m t0 h)
theorem T29_1 (hE : FX x29 D m E) : S29_1 D m = e29_1 (E c29_1 []) := by unfold S29_1; rw [hE c29_1]; kernel_rfl
theorem T29_3 (hE : FX x29 D m E) : S29_3 D m = e29_3 (E c29_3 [.sj v29_1 c29_1]) := by unfold S29_3; rw [T29_1 hE, hE c29_3]; kernel_rfl
theorem T29_5 (hE : FX x29 D m E) (G4) : S29_5 D m (e29_4 G4) = e29_5 (E (.opq false l29_5 c29_6) [.blk 1, .lp v29_4 G4, .blk 0, .sj v29_3 c29_3, .sj v29_1 c29_1]) := by unfold S29_5; rw [hE (.opq false l29_5 c29_6)]; kernel_rfl
theorem T29_4b (hE : FX x29 D m E) (G4) : S29_4b D m (e29_4 G4) = e29_4 (E c29_4b [.lp v29_4 G4, .blk 0, .sj v29_3 c29_3, .sj v29_1 c29_1]) := by unfold S29_4b; rw [T29_5 hE G4, T29_3 hE, hE c29_4b]; kernel_rfl
theorem T29_4 (hE : FX x29 D m E) : S29_4 D m = e29_4 (nrec (fun _ => none) (fun _ G4 st => E c29_4b [.lp v29_4 G4, .blk 0, .sj v29_3 c29_3, .sj v29_1 c29_1] st) m) :=
  nrec_emb e29_4 (fun _ _ _ _ _ _ => none) (fun g => S29_4b D m g) (fun G4 st => E c29_4b [.lp v29_4 G4, .blk 0, .sj v29_3 c29_3, .sj v29_1 c29_1] st) rfl (fun g => T29_4b hE g) m
theorem T29_2 (hE : FX x29 D m E) : S29_2 D m = e29_2 (E c29_2 [.sj v29_1 c29_1]) := by unfold S29_2; rw [T29_4 hE, hE c29_2]; kernel_rfl
theorem T29_0 (hE : FX x29 D m E) : S29_0 D m = e29_0 (E c29_0 []) := by unfold S29_0; rw [T29_2 hE, T29_1 hE, hE c29_0]; kernel_rfl
theorem T29_7 (hE : FX x29 D m E) : S29_7 D m = e29_7 (E c29_e []) := by unfold S29_7; rw [T29_0 hE, hE c29_e]; kernel_rfl
theorem X29 : XTie S29 x29 := X_of fun D m E hE args h u => by unfold S29; rw [T29_7 hE]; kernel_rfl
/- 30 -/
def c30_e : XC := (.sO [.al p0 (.new [.nils, (kI 0), (kI 0), (kI 0), (kI 0), (kI 0), (kI 0)])] (.sO [.P p2 (.build [.nils, (kI 0), (kI 0), (kI 0), (kI 0), (kI 0), (kI 0)] []) .v, .al p1 (.new [.nils, (kI 0), (kI 0), (kI 0), (kI 0), (kI 0), (kI 0)]), .ss 7 q1 q2] (.sO [.L p3 (.cells 7 q1) .v, .P p4 (.build [(.str []), (kI 0), (kI 0)] [⟨1, 1, (ci 1)⟩]) .v, .al p5 (.bsl [(.str []), (kI 0), (kI 0)] 1 [⟨0, 3, q4⟩]), .P p6 (.build [(.bool false), (.bool false), (.bool false), (.str []), (kI 0), (kI 0), .nils, (.bool false), .nils, (kI 0), .nils, .nils, (.str []), (kI 0), (kI 0), (kI 0), (kI 0)] [⟨0, 1, (cb true)⟩, ⟨3, 1, (.c (.str [112, 117, 116, 119]))⟩, ⟨8, 1, q5⟩]) .v, .cl p7 63 [q3, q6, (.c (.str [112, 117, 116, 119]))] .v, .ss 7 q1 q7] (.sO [.L p8 (.cells 7 q1) .v, .P p9 (.build [(.str []), (kI 0), (kI 0)] [⟨1, 1, (ci 2)⟩]) .v, .al p10 (.bsl [(.str []), (kI 0), (kI 0)] 1 [⟨0, 3, q9⟩]), .P p11 (.build [(.bool false), (.bool false), (.bool false), (.str []), (kI 0), (kI 0), .nils, (.bool false), .nils, (kI 0), .nils, .nils, (.str []), (kI 0), (kI 0), (kI 0), (kI 0)] [⟨0, 1, (cb true)⟩, ⟨3, 1, (.c (.str [112, 117, 116, 100]))⟩, ⟨8, 1, q10⟩]) .v, .cl p12 63 [q8, q11, (.c (.str [112, 117, 116, 100]))] .v, .ss 7 q1 q12] (.sO [.L p13 (.cells 7 q1) .v, .P p14 (.build [(.bool false), (.bool false), (.bool false), (.str []), (kI 0), (kI 0), .nils, (.bool false), .nils, (kI 0), .nils, .nils, (.str []), (kI 0), (kI 0), (kI 0), (kI 0)] [⟨0, 1, (cb true)⟩, ⟨3, 1, (.c (.str [103, 101, 116, 119]))⟩, ⟨4, 1, (ci 1)⟩]) .v, .cl p15 63 [q13, q14, (.c (.str [103, 101, 116, 119]))] .v, .ss 7 q1 q15] (.sO [.fa p16 1 q1, .st q16 (ci 1)] (.sO [.L p17 (.cells 7 q1) .v, .ss 7 q0 q17] (.s .ret))))))))
def x30 : XFn := ⟨[], false, [(.cells 7 p0)], c30_e⟩
def e30_0 (k h) := kN k [] h
def S30_0 (D : CallD) (m : Nat) (h : HP) : Res2 :=
 let t0 := AV.ptr (HP.nxQ h) 0
 let h1 := HP.newQ h (.cells true [.nils, (kI 0), (kI 0), (kI 0), (kI 0), (kI 0), (kI 0)])
 let t2 := (AV.agg [(.nils : AV), (vI (Int.ofNat 0)), (vI (Int.ofNat 0)), (vI (Int.ofNat 0)), (vI (Int.ofNat 0)), (vI (Int.ofNat 0)), (vI (Int.ofNat 0))])
 let t1 := AV.ptr (HP.nxQ h1) 0
 let h2 := HP.newQ h1 (.cells true [.nils, (kI 0), (kI 0), (kI 0), (kI 0), (kI 0), (kI 0)])
 stsC 7 t1 t2 h2 fun h3 =>
 cellsC 7 t1 h3 fun t3 =>
 let t4 := (AV.agg [(vS ([] : LN)), (vI (Int.ofNat 1)), (vI (Int.ofNat 0))])
 let t5 := AV.slice (HP.nxQ h3) 0 1 (.exact 1)
 let h4 := HP.newQ h3 (.cells true [(vS ([] : LN)), (vI (Int.ofNat 1)), (vI (Int.ofNat 0))])
 let t6 := (AV.agg [(vB true), (vB false), (vB false), (vS ([112, 117, 116, 119] : LN)), (vI (Int.ofNat 0)), (vI (Int.ofNat 0)), (.nils : AV), (vB false), t5, (vI (Int.ofNat 0)), (.nils : AV), (.nils : AV), (vS ([] : LN)), (vI (Int.ofNat 0)), (vI (Int.ofNat 0)), (vI (Int.ofNat 0)), (vI (Int.ofNat 0))])
 cal D 63 [t3, t6, (vS ([112, 117, 116, 119] : LN))] h4 fun t7 h5 =>
 stsC 7 t1 t7 h5 fun h6 =>
 cellsC 7 t1 h6 fun t8 =>
 let t9 := (AV.agg [(vS ([] : LN)), (vI (Int.ofNat 2)), (vI (Int.ofNat 0))])
 let t10 := AV.slice (HP.nxQ h6) 0 1 (.exact 1)
 let h7 := HP.newQ h6 (.cells true [(vS ([] : LN)), (vI (Int.ofNat 2)), (vI (Int.ofNat 0))])
 let t11 := (AV.agg [(vB true), (vB false), (vB false), (vS ([112, 117, 116, 100] : LN)), (vI (Int.ofNat 0)), (vI (Int.ofNat 0)), (.nils : AV), (vB false), t10, (vI (Int.ofNat 0)), (.nils : AV), (.nils : AV), (vS ([] : LN)), (vI (Int.ofNat 0)), (vI (Int.ofNat 0)), (vI (Int.ofNat 0)), (vI (Int.ofNat 0))])
 cal D 63 [t8, t11, (vS ([112, 117, 116, 100] : LN))] h7 fun t12 h8 =>
 stsC 7 t1 t12 h8 fun h9 =>
 cellsC 7 t1 h9 fun t13 =>
 let t14 := (AV.agg [(vB true), (vB false), (vB false), (vS ([103, 101, 116, 119] : LN)), (vI (Int.ofNat 1)), (vI (Int.ofNat 0)), (.nils : AV), (vB false), (.nils : AV), (vI (Int.ofNat 0)), (.nils : AV), (.nils : AV), (vS ([] : LN)), (vI (Int.ofNat 0)), (vI (Int.ofNat 0)), (vI (Int.ofNat 0)), (vI (Int.ofNat 0))])
 cal D 63 [t13, t14, (vS ([103, 101, 116, 119] : LN))] h9 fun t15 h10 =>
 stsC 7 t1 t15 h10 fun h11 =>
 let t16 := (AV.ptr (HP.nxQ h1) (Nat.add 0 1))
 stoC t16 (vI (Int.ofNat 1)) h11 fun h12 =>
 cellsC 7 t1 h12 fun t17 =>
 stsC 7 t0 t17 h12 fun h13 =>
 cellsC 7 t0 h13 fun t0a =>
 some (.ret t0a h13, .no)
def S30 : SFn := fun D m args h u => nou u <| endA args (S30_0 D m h)
theorem T30_0 (hE : FX x30 D m E) : S30_0 D m = e30_0 (E c30_e []) := by unfold S30_0; rw [hE c30_e]; kernel_rfl
theorem X30 : XTie S30 x30 := X_of fun D m E hE args h u => by unfold S30; rw [T30_0 hE]; kernel_rfl
/- 31 -/
def v31_7 : List Pos := [p3, p4, p6, p7]
def c31_7 : XC := (.seq (.ops true (XL.of [.L p280 (.cells 7 q3) .v, .L p282 (.cells 17 q4) .v, .o ⟨(some p281), (.call (.fn 72) [q280]), none, [⟨none, .cells 17 q4, p282⟩]⟩ .v, .o ⟨none, (.e (.stores 7 q6 q281)), none, [⟨none, .cells 17 q4, p282⟩]⟩ .v, .ss 17 q7 q282])) (.s .ret))
def v31_6 : List Pos := [p3, p4, p6, p7, p15]
def c31_6 : XC := (.sO [.mv p257 q15 .v, .fa p258 6 q4, .st q258 q257] (.sj v31_7 (.sO [.fa p259 0 q4, .ld p260 q259 .b, .mv p261 q260 .b, .ge p261 (XL.of [.G p261 true p262 (.faddr 7 q4) .v, .o ⟨(some p263), (.l (.cell q262)), (some (p261, true)), []⟩ .b, .P p264 (.pick q261 q263 (cb false)) .b]) p264 .b, .mv p265 q264 .b, .ge p265 (XL.of [.G p265 true p266 (.faddr 5 q3) .v, .o ⟨(some p267), (.l (.cell q266)), (some (p265, true)), []⟩ tI, .G p265 true p268 (.bin .eql q267 (ci 0)) .b, .P p269 (.pick q265 q268 (cb false)) .b]) p269 .b] (.cond q269 (.s (.oX [.L p271 (.cells 7 q3) .v, .fa p272 9 q4, .fa p273 2 q272, .ld p274 q273 .v, .cl p275 71 [q271, q274] .v, .mv p270 q275 .v, .P p276 (.ext q270 0) .v, .P p277 (.ext q270 1) .v, .ss 7 q3 q276, .fa p278 9 q4, .fa p279 2 q278, .st q279 q277])) (.s .skip))) c31_7))
def v31_9 : List Pos := [p3, p4, p6, p7, p15, p216, p217]
def c31_9 : XC := (.s (.oX [.bn p256 .add q217 (ci 1) tI, .mv p217 q256 tI]))
def v31_10 : List Pos := [p3, p4, p6, p7, p15, p17, p216, p217]
def c31_10 : XC := (.s (.oX [.mv p252 q15 .v, .L p253 (.cells 8 q17) .v, .al p254 (.bsl [(kI 0), (.str []), (.str []), (.int .u32 (.ofNat 0)), (.int .u64 (.ofNat 0)), .nils, (kI 0), (kI 0)] 1 [⟨0, 8, q253⟩]), .o ⟨(some p255), (.e (.app 8 96 q252 q254)), none, []⟩ .v, .mv p15 q255 .v]))
def v31_8 : List Pos := [p3, p4, p6, p7, p15, p216, p217]
def c31_8b : XC := (.sO [.bn p218 .lss q217 q216 .b] (.seq (.cond q218 .skip (.exit 6)) (.sj v31_9 (.block 7 (.sO [.mv p219 q217 tI, .mv p16 q219 tI] (.sO [.P p220 (.build [(kI 0), (.str []), (.str []), (.int .u32 (.ofNat 0)), (.int .u64 (.ofNat 0)), .nils, (kI 0), (kI 0)] []) .v, .al p17 (.new [(kI 0), (.str []), (.str []), (.int .u32 (.ofNat 0)), (.int .u64 (.ofNat 0)), .nils, (kI 0), (kI 0)]), .ss 8 q17 q220] (.seq (.ops true (XL.of [.L p222 (.cells 7 q3) .v, .fa p223 6 q4, .ld p224 q223 .v, .mv p225 q16 tI, .P p226 (.iaddr (.sl 8) q224 q225) .v, .L p227 (.cells 8 q226) .v, .fa p228 4 q4, .ld p229 q228 tI, .fa p230 6 q4, .ld p231 q230 .v, .mv p232 q16 tI, .P p233 (.iaddr (.sl 8) q231 q232) .v, .fa p234 7 q233, .ld p235 q234 tI, .cl p236 70 [q222, q227, q229, q235] .v, .mv p221 q236 .v, .P p237 (.ext q221 0) .v, .P p238 (.ext q221 1) .v, .ss 7 q3 q237, .ss 8 q17 q238])) (.sj v31_10 (.sO [.fa p239 5 q4, .ld p240 q239 tI, .bn p241 .gtr q240 (ci 0) .b, .mv p242 q241 .b, .ge p242 (XL.of [.G p242 true p243 (.mov q16) tI, .G p242 true p244 (.faddr 5 q4) .v, .o ⟨(some p245), (.l (.cell q244)), (some (p242, true)), []⟩ tI, .G p242 true p246 (.bin .geq q243 q245) .b, .P p247 (.pick q242 q246 (cb false)) .b]) p247 .b] (.cond q247 (.s (.oX [.L p248 (.cells 7 q3) .v, .fa p249 7 q17, .ld p250 q249 tI, .cl p251 32 [q248, (ci 1), q250] .v, .ss 7 q3 q251])) (.s .skip))) c31_10))))) c31_9)))
def v31_5 : List Pos := [p3, p4, p6, p7, p10]
def c31_5 : XC := (.sO [.mv p212 q10 .v, .fa p213 8 q4, .st q213 q212] (.sO [.mv p15 (.c .nils) .v] (.sj v31_6 (.sO [.fa p214 6 q4, .ld p215 q214 .v, .P p216 (.lenl q215) tI, .mv p217 (ci 0) tI] (.block 6 (.loop v31_8 c31_8b))) c31_6)))
def v31_12 : List Pos := [p3, p4, p6, p7, p10, p161, p162]
def c31_12 : XC := (.s (.oX [.bn p211 .add q162 (ci 1) tI, .mv p162 q211 tI]))
def v31_14 : List Pos := [p3, p4, p6, p7, p10, p12, p161, p162]
def c31_14 : XC := (.sO [.L p197 (.cells 7 q3) .v, .fa p198 0 q12, .ld p199 q198 .s, .fa p200 1 q12, .ld p201 q200 tI, .P p202 (.build [(.bool false), (.bool false), (.bool false), (.str []), (kI 0), (kI 0), .nils, (.bool false), .nils, (kI 0), .nils, .nils, (.str []), (kI 0), (kI 0), (kI 0), (kI 0)] [⟨3, 1, q199⟩, ⟨4, 1, q201⟩]) .v, .cl p203 69 [q197, q202] .v, .mv p196 q203 .v, .P p204 (.ext q196 0) .v, .P p205 (.ext q196 1) .s, .ss 7 q3 q204, .fa p206 0 q12, .st q206 q205] (.s (.oX [.mv p207 q10 .v, .L p208 (.cells 3 q12) .v, .al p209 (.bsl [(.str []), (kI 0), (kI 0)] 1 [⟨0, 3, q208⟩]), .o ⟨(some p210), (.e (.app 3 32 q207 q209)), none, []⟩ .v, .mv p10 q210 .v])))
def v31_13 : List Pos := [p3, p4, p6, p7, p10, p12, p161, p162]
def c31_13 : XC := (.sj v31_14 (.sO [.L p178 (.cells 7 q3) .v, .fa p179 0 q12, .ld p180 q179 .s, .cl p181 68 [q178, q180] .v, .mv p177 q181 .v, .P p182 (.ext q177 0) .v, .P p183 (.ext q177 1) .b, .al p13 (.new [(.bool false), (.bool false), (.bool false), (.str []), (kI 0), (kI 0), .nils, (.bool false), .nils, (kI 0), .nils, .nils, (.str []), (kI 0), (kI 0), (kI 0), (kI 0), (.str []), (kI 0)]), .ss 19 q13 q182, .mv p14 q183 .b] (.sO [.mv p184 q14 .b, .mv p185 q184 .b, .ge p185 (XL.of [.G p185 true p186 (.faddr 18 q13) .v, .o ⟨(some p187), (.l (.cell q186)), (some (p185, true)), []⟩ tI, .G p185 true p188 (.faddr 1 q3) .v, .o ⟨(some p189), (.l (.cell q188)), (some (p185, true)), []⟩ tI, .G p185 true p190 (.bin .eql q187 q189) .b, .P p191 (.pick q185 q190 (cb false)) .b]) p191 .b] (.cond q191 (.s (.oX [.L p192 (.cells 7 q3) .v, .fa p193 2 q12, .ld p194 q193 tI, .cl p195 32 [q192, (ci 13), q194] .v, .ss 7 q3 q195])) (.s .skip)))) c31_14)
def v31_11 : List Pos := [p3, p4, p6, p7, p10, p161, p162]
def c31_11b : XC := (.sO [.bn p163 .lss q162 q161 .b] (.seq (.cond q163 .skip (.exit 4)) (.sj v31_12 (.block 5 (.sO [.mv p164 q162 tI, .mv p11 q164 tI] (.sO [.fa p165 8 q4, .ld p166 q165 .v, .mv p167 q11 tI, .P p168 (.iaddr (.sl 3) q166 q167) .v, .L p169 (.cells 3 q168) .v, .al p12 (.new [(.str []), (kI 0), (kI 0)]), .ss 3 q12 q169] (.sj v31_13 (.sO [.fa p170 1 q12, .ld p171 q170 tI, .bn p172 .eql q171 (ci 0) .b] (.cond q172 (.s (.oX [.L p173 (.cells 7 q3) .v, .fa p174 2 q12, .ld p175 q174 tI, .cl p176 32 [q173, (ci 14), q175] .v, .ss 7 q3 q176])) (.s .skip))) c31_13)))) c31_12)))
def v31_4 : List Pos := [p3, p4, p6, p7]
def c31_4 : XC := (.sO [.L p149 (.cells 7 q3) .v, .L p150 (.cells 17 q4) .v, .fa p151 3 q4, .ld p152 q151 .s, .cl p153 63 [q149, q150, q152] .v, .cl p154 67 [q153] .v, .ss 7 q3 q154] (.sO [.fa p155 4 q4, .ld p156 q155 tI, .fa p157 2 q3, .st q157 q156] (.sO [.fa p158 3 q3, .st q158 (ci 0)] (.sO [.mv p10 (.c .nils) .v] (.sj v31_5 (.sO [.fa p159 8 q4, .ld p160 q159 .v, .P p161 (.lenl q160) tI, .mv p162 (ci 0) tI] (.block 4 (.loop v31_11 c31_11b))) c31_5)))))
def v31_3 : List Pos := [p3, p4, p6, p7]
def c31_3 : XC := (.sj v31_4 (.sO [.fa p122 3 q4, .ld p123 q122 .s, .bn p124 .eql q123 (.c (.str [109, 97, 105, 110])) .b, .mv p125 q124 .b, .ge p125 (XL.of [.G p125 true p126 (.faddr 0 q4) .v, .o ⟨(some p127), (.l (.cell q126)), (some (p125, true)), []⟩ .b, .G p125 true p128 (.un .not q127) .b, .G p125 true p129 (.mov q128) .b, .ge p129 (XL.of [.G p129 false p130 (.faddr 1 q4) .v, .o ⟨(some p131), (.l (.cell q130)), (some (p129, false)), []⟩ .b, .G p125 true p132 (.pick q129 (cb true) q131) .b]) p132 .b, .G p125 true p133 (.mov q132) .b, .ge p133 (XL.of [.G p133 false p134 (.faddr 4 q4) .v, .o ⟨(some p135), (.l (.cell q134)), (some (p133, false)), []⟩ tI, .G p133 false p136 (.bin .neq q135 (ci 1)) .b, .G p125 true p137 (.pick q133 (cb true) q136) .b]) p137 .b, .G p125 true p138 (.mov q137) .b, .ge p138 (XL.of [.G p138 false p139 (.faddr 8 q4) .v, .o ⟨(some p140), (.l (.cell q139)), (some (p138, false)), []⟩ .v, .G p138 false p141 (.lenl q140) tI, .G p138 false p142 (.bin .gtr q141 (ci 0)) .b, .G p125 true p143 (.pick q138 (cb true) q142) .b]) p143 .b, .P p144 (.pick q125 q143 (cb false)) .b]) p144 .b] (.cond q144 (.s (.oX [.L p145 (.cells 7 q3) .v, .fa p146 16 q4, .ld p147 q146 tI, .cl p148 32 [q145, (ci 14), q147] .v, .ss 7 q3 q148])) (.s .skip))) c31_4)
def c31_18 : XC := (.cond q117 (.s (.oX [.L p118 (.cells 7 q3) .v, .fa p119 16 q4, .ld p120 q119 tI, .cl p121 32 [q118, (ci 14), q120] .v, .ss 7 q3 q121])) (.s .skip))
def l31_17 : XL := (XL.of [])
def l31_16 : XL := (XL.pre [.G p94 true p109 (.mov q108) .b, .ge p109 (XL.of [.G p109 false p110 (.faddr 2 q4) .v, .o ⟨(some p111), (.l (.cell q110)), (some (p109, false)), []⟩ .b, .G p109 false p112 (.mov q111) .b, .ge p112 (XL.of [.G p112 true p113 (.faddr 7 q4) .v, .o ⟨(some p114), (.l (.cell q113)), (some (p112, true)), []⟩ .b, .G p109 false p115 (.pick q112 q114 (cb false)) .b]) p115 .b, .G p94 true p116 (.pick q109 (cb true) q115) .b]) p116 .b, .P p117 (.pick q94 q116 (cb false)) .b, .jn p94 [p3, p4, p6, p7, p117]] l31_17)
def l31_15 : XL := (XL.pre [.G p94 true p108 (.pick q98 (cb true) q107) .b, .jn p98 [p3, p4, p6, p7, p94, p108]] l31_16)
def v31_2 : List Pos := [p3, p4, p6, p7]
def c31_2 : XC := (.sj v31_3 (.opq false (XL.pre [.fa p91 0 q4, .ld p92 q91 .b, .P p93 (.un .not q92) .b, .mv p94 q93 .b, .sp p94, .G p94 true p95 (.faddr 4 q4) .v, .o ⟨(some p96), (.l (.cell q95)), (some (p94, true)), []⟩ tI, .G p94 true p97 (.bin .eql q96 (ci 0)) .b, .G p94 true p98 (.mov q97) .b, .sp p98, .G p98 false p99 (.faddr 5 q4) .v, .o ⟨(some p100), (.l (.cell q99)), (some (p98, false)), []⟩ tI, .G p98 false p101 (.bin .gtr q100 (ci 0)) .b, .G p98 false p102 (.mov q101) .b, .sp p102, .G p102 true p103 (.faddr 4 q4) .v, .o ⟨(some p104), (.l (.cell q103)), (some (p102, true)), []⟩ tI, .o ⟨(some p105), (.call (.fn 66) [q104]), (some (p102, true)), []⟩ .b, .G p102 true p106 (.un .not q105) .b, .G p98 false p107 (.pick q102 q106 (cb false)) .b, .jn p102 [p3, p4, p6, p7, p94, p98, p107]] l31_15) c31_18) c31_3)
def v31_20 : List Pos := [p2, p3, p4, p6, p7, p65, p66]
def c31_20 : XC := (.s (.oX [.bn p90 .add q66 (ci 1) tI, .mv p66 q90 tI]))
def c31_22 : XC := (.cond q85 (.s (.oX [.L p86 (.cells 7 q3) .v, .fa p87 16 q4, .ld p88 q87 tI, .cl p89 32 [q86, (ci 14), q88] .v, .ss 7 q3 q89])) (.s .skip))
def l31_21 : XL := (XL.of [])
def v31_19 : List Pos := [p2, p3, p4, p6, p7, p65, p66]
def c31_19b : XC := (.sO [.bn p67 .lss q66 q65 .b] (.seq (.cond q67 .skip (.exit 2)) (.sj v31_20 (.block 3 (.sO [.mv p68 q66 tI, .mv p9 q68 tI] (.opq true (XL.pre [.mv p69 q2 .v, .mv p70 q9 tI, .P p71 (.iaddr (.sl 17) q69 q70) .v, .fa p72 3 q71, .ld p73 q72 .s, .fa p74 3 q4, .ld p75 q74 .s, .bn p76 .eql q73 q75 .b, .mv p77 q76 .b, .sp p77, .G p77 true p78 (.mov q2) .v, .G p77 true p79 (.mov q9) tI, .G p77 true p80 (.iaddr (.sl 17) q78 q79) .v, .o ⟨(some p81), (.l (.cells 17 q80)), (some (p77, true)), []⟩ .v, .o ⟨(some p82), (.l (.cells 17 q4)), (some (p77, true)), []⟩ .v, .o ⟨(some p83), (.call (.fn 65) [q81, q82]), (some (p77, true)), []⟩ .b, .G p77 true p84 (.un .not q83) .b, .P p85 (.pick q77 q84 (cb false)) .b, .jn p77 [p2, p3, p4, p6, p7, p65, p66, p85]] l31_21) c31_22))) c31_20)))
def v31_1 : List Pos := [p2, p3, p4, p6, p7]
def c31_1 : XC := (.sj v31_2 (.sO [.mv p64 q2 .v, .P p65 (.lenl q64) tI, .mv p66 (ci 0) tI] (.block 2 (.loop v31_19 c31_19b))) c31_2)
def v31_24 : List Pos := [p2, p3, p4, p6, p7, p26, p27]
def c31_24 : XC := (.s (.oX [.bn p63 .add q27 (ci 1) tI, .mv p27 q63 tI]))
def c31_28 : XC := (.cond q58 (.s (.oX [.L p59 (.cells 7 q3) .v, .fa p60 16 q4, .ld p61 q60 tI, .cl p62 32 [q59, (ci 13), q61] .v, .ss 7 q3 q62])) (.s .skip))
def l31_27 : XL := (XL.of [])
def l31_26 : XL := (XL.pre [.P p58 (.pick q38 q57 (cb false)) .b, .jn p38 [p2, p3, p4, p6, p7, p26, p27, p58]] l31_27)
def l31_25 : XL := (XL.pre [.G p38 true p57 (.pick q47 (cb true) q56) .b, .jn p47 [p2, p3, p4, p6, p7, p26, p27, p38, p57]] l31_26)
def v31_23 : List Pos := [p2, p3, p4, p6, p7, p26, p27]
def c31_23b : XC := (.sO [.bn p28 .lss q27 q26 .b] (.seq (.cond q28 .skip (.exit 0)) (.sj v31_24 (.block 1 (.sO [.mv p29 q27 tI, .mv p8 q29 tI] (.opq true (XL.pre [.mv p30 q2 .v, .mv p31 q8 tI, .P p32 (.iaddr (.sl 17) q30 q31) .v, .fa p33 3 q32, .ld p34 q33 .s, .fa p35 3 q4, .ld p36 q35 .s, .bn p37 .eql q34 q36 .b, .mv p38 q37 .b, .sp p38, .G p38 true p39 (.mov q2) .v, .G p38 true p40 (.mov q8) tI, .G p38 true p41 (.iaddr (.sl 17) q39 q40) .v, .G p38 true p42 (.faddr 0 q41) .v, .o ⟨(some p43), (.l (.cell q42)), (some (p38, true)), []⟩ .b, .G p38 true p44 (.faddr 0 q4) .v, .o ⟨(some p45), (.l (.cell q44)), (some (p38, true)), []⟩ .b, .G p38 true p46 (.eqb true q43 q45) .b, .G p38 true p47 (.mov q46) .b, .sp p47, .G p47 false p48 (.mov q2) .v, .G p47 false p49 (.mov q8) tI, .G p47 false p50 (.iaddr (.sl 17) q48 q49) .v, .o ⟨(some p51), (.l (.cells 17 q50)), (some (p47, false)), []⟩ .v, .o ⟨(some p52), (.call (.fn 48) [q51]), (some (p47, false)), []⟩ .b, .G p47 false p53 (.mov q52) .b, .sp p53, .o ⟨(some p54), (.l (.cells 17 q4)), (some (p53, true)), []⟩ .v, .o ⟨(some p55), (.call (.fn 48) [q54]), (some (p53, true)), []⟩ .b, .G p47 false p56 (.pick q53 q55 (cb false)) .b, .jn p53 [p2, p3, p4, p6, p7, p26, p27, p38, p47, p56]] l31_25) c31_28))) c31_24)))
def v31_0 : List Pos := [p2, p3, p4, p6, p7]
def c31_0 : XC := (.sj v31_1 (.sO [.mv p25 q2 .v, .P p26 (.lenl q25) tI, .mv p27 (ci 0) tI] (.block 0 (.loop v31_23 c31_23b))) c31_1)
def c31_e : XC := (.sO [.al p3 (.box q0), .al p4 (.box q1), .al p6 (.new [.nils, (kI 0), (kI 0), (kI 0), (kI 0), (kI 0), (kI 0)]), .al p7 (.new [(.bool false), (.bool false), (.bool false), (.str []), (kI 0), (kI 0), .nils, (.bool false), .nils, (kI 0), .nils, .nils, (.str []), (kI 0), (kI 0), (kI 0), (kI 0)])] (.sj v31_0 (.sO [.fa p18 3 q4, .ld p19 q18 .s, .cl p20 64 [q19] .b] (.cond q20 (.s (.oX [.L p21 (.cells 7 q3) .v, .fa p22 16 q4, .ld p23 q22 tI, .cl p24 32 [q21, (ci 13), q23] .v, .ss 7 q3 q24])) (.s .skip))) c31_0))
def x31 : XFn := ⟨[.v, .v, .v], false, [(.cells 7 p6), (.cells 17 p7)], c31_e⟩
def e31_7 (k t3 t4 t6 t7 h) := kN k [(p3, t3), (p4, t4), (p6, t6), (p7, t7)] h
def S31_7 (D : CallD) (m : Nat) (t3 t4 t6 t7 : AV) (h : HP) : Res2 :=
 cellsC 7 t3 h fun t280 =>
 cellsC 17 t4 h fun t282 =>
 cal D 72 [t280] h fun t281 h41 =>
 br (again [⟨none, .cells 17 q4, p282⟩] (mkT [(p282, t282), (p4, t4)]) h41) (
 stsC 7 t6 t281 h41 fun h42 =>
 br (againE (.stores 7 q6 q281) [⟨none, .cells 17 q4, p282⟩] (mkT [(p6, t6), (p282, t282), (p4, t4)]) h42) (
 stsC 17 t7 t282 h42 fun h43 =>
 cellsC 7 t6 h43 fun t6a =>
 cellsC 17 t7 h43 fun t7a =>
 some (.ret (.tup [t6a, t7a]) h43, .no)) none) none
def e31_6 (k t3 t4 t6 t7 t15 h) := kN k [(p3, t3), (p4, t4), (p6, t6), (p7, t7), (p15, t15)] h
def S31_6 (D : CallD) (m : Nat) (t3 t4 t6 t7 t15 : AV) (h : HP) : Res2 :=
 faC 6 t4 fun t258 =>
 stoC t258 t15 h fun h40 =>
 faC 0 t4 fun t259 =>
 ldB t259 h40 fun t260 =>
 obB (brV t260 (
 faCV 7 t4 fun t262 =>
 ldBV t262 h40 fun t263 =>
 some (vB t263)) (
 some (vB false))) fun t264 =>
 obB (brV t264 (
 faCV 5 t3 fun t266 =>
 ldIV t266 h40 fun t267 =>
 let t268 := eqQ t267 (Int.ofNat 0)
 some (vB t268)) (
 some (vB false))) fun t269 =>
 br t269 (
 cellsC 7 t3 h40 fun t271 =>
 faC 9 t4 fun t272 =>
 faC 2 t272 fun t273 =>
 cellC t273 h40 fun t274 =>
 cal D 71 [t271, t274] h40 fun t275 h44 =>
 extC t275 0 fun t276 =>
 extC t275 1 fun t277 =>
 stsC 7 t3 t276 h44 fun h45 =>
 faC 9 t4 fun t278 =>
 faC 2 t278 fun t279 =>
 stoC t279 t277 h45 fun h46 =>
 S31_7 D m t3 t4 t6 t7 h46) (
 S31_7 D m t3 t4 t6 t7 h40)
def e31_9 (k t3 t4 t6 t7 t15 t216 t217 h) := kN k [(p3, t3), (p4, t4), (p6, t6), (p7, t7), (p15, t15), (p216, (vI t216)), (p217, (vI t217))] h
def S31_9 (D : CallD) (m : Nat) (g8 : AV → AV → AV → AV → AV → Int → Int → HP → Res2) (t3 t4 t6 t7 t15 : AV) (t216 t217 : Int) (h : HP) : Res2 :=
 let t256 := wrQ .i64 (addQ t217 (Int.ofNat 1))
 g8 t3 t4 t6 t7 t15 t216 t256 h
def e31_10 (k t3 t4 t6 t7 t15 t17 t216 t217 h) := kN k [(p3, t3), (p4, t4), (p6, t6), (p7, t7), (p15, t15), (p17, t17), (p216, (vI t216)), (p217, (vI t217))] h
def S31_10 (D : CallD) (m : Nat) (g8 : AV → AV → AV → AV → AV → Int → Int → HP → Res2) (t3 t4 t6 t7 t15 t17 : AV) (t216 t217 : Int) (h : HP) : Res2 :=
 cellsC 8 t17 h fun t253 =>
 obQ (evA (.bsl [(kI 0), (.str []), (.str []), (.int .u32 (.ofNat 0)), (.int .u64 (.ofNat 0)), .nils, (kI 0), (kI 0)] 1 [⟨0, 8, (.c t253)⟩]) .leaf) fun r52 =>
 let t254 := vkV r52.2 (HP.nxQ h)
 let h53 := HP.newQ h r52.1
 eff (.app 8 96 (.c t15) (.c t254)) h53 fun t255 h54 =>
 S31_9 D m g8 t3 t4 t6 t7 t255 t216 t217 h54
def e31_8 (k t3 t4 t6 t7 t15 t216 t217 h) := kN k [(p3, t3), (p4, t4), (p6, t6), (p7, t7), (p15, t15), (p216, (vI t216)), (p217, (vI t217))] h
def S31_8b (D : CallD) (m : Nat) (g8 : AV → AV → AV → AV → AV → Int → Int → HP → Res2) (t3 t4 t6 t7 t15 : AV) (t216 t217 : Int) (h : HP) : Res2 :=
 let t218 := ltQ t217 t216
 br t218 (
 let t220 := (AV.agg [(vI (Int.ofNat 0)), (vS ([] : LN)), (vS ([] : LN)), (vW (Int.ofNat 0)), (AV.int .u64 (Int.ofNat 0)), (.nils : AV), (vI (Int.ofNat 0)), (vI (Int.ofNat 0))])
 let t17 := AV.ptr (HP.nxQ h) 0
 let h47 := HP.newQ h (.cells true [(kI 0), (.str []), (.str []), (.int .u32 (.ofNat 0)), (.int .u64 (.ofNat 0)), .nils, (kI 0), (kI 0)])
 stsC 8 t17 t220 h47 fun h48 =>
 cellsC 7 t3 h48 fun t222 =>
 faC 6 t4 fun t223 =>
 cellC t223 h48 fun t224 =>
 iasC 8 t224 (vI t217) fun t226 =>
 cellsC 8 t226 h48 fun t227 =>
 faC 4 t4 fun t228 =>
 ldI t228 h48 fun t229 =>
 faC 6 t4 fun t230 =>
 cellC t230 h48 fun t231 =>
 iasC 8 t231 (vI t217) fun t233 =>
 faC 7 t233 fun t234 =>
 ldI t234 h48 fun t235 =>
 cal D 70 [t222, t227, (vI t229), (vI t235)] h48 fun t236 h49 =>
 extC t236 0 fun t237 =>
 extC t236 1 fun t238 =>
 stsC 7 t3 t237 h49 fun h50 =>
 stsC 8 t17 t238 h50 fun h51 =>
 faC 5 t4 fun t239 =>
 ldI t239 h51 fun t240 =>
 let t241 := ltQ (Int.ofNat 0) t240
 obB (brV t241 (
 faCV 5 t4 fun t244 =>
 ldIV t244 h51 fun t245 =>
 let t246 := leQ t245 t217
 some (vB t246)) (
 some (vB false))) fun t247 =>
 br t247 (
 cellsC 7 t3 h51 fun t248 =>
 let t249 := (AV.ptr (HP.nxQ h) (Nat.add 0 7))
 ldI t249 h51 fun t250 =>
 cal D 32 [t248, (vI (Int.ofNat 1)), (vI t250)] h51 fun t251 h55 =>
 stsC 7 t3 t251 h55 fun h56 =>
 S31_10 D m g8 t3 t4 t6 t7 t15 t17 t216 t217 h56) (
 S31_10 D m g8 t3 t4 t6 t7 t15 t17 t216 t217 h51)) (
 S31_6 D m t3 t4 t6 t7 t15 h)
def S31_8 (D : CallD) (m : Nat) : AV → AV → AV → AV → AV → Int → Int → HP → Res2 := nrec (fun _ _ _ _ _ _ _ _ => none) (fun _ g => S31_8b D m g) m
def e31_5 (k t3 t4 t6 t7 t10 h) := kN k [(p3, t3), (p4, t4), (p6, t6), (p7, t7), (p10, t10)] h
def S31_5 (D : CallD) (m : Nat) (t3 t4 t6 t7 t10 : AV) (h : HP) : Res2 :=
 faC 8 t4 fun t213 =>
 stoC t213 t10 h fun h39 =>
 faC 6 t4 fun t214 =>
 cellC t214 h39 fun t215 =>
 lenC t215 fun vt216 => asI .i64 vt216 fun t216 =>
 S31_8 D m t3 t4 t6 t7 (.nils : AV) t216 (Int.ofNat 0) h39
def e31_12 (k t3 t4 t6 t7 t10 t161 t162 h) := kN k [(p3, t3), (p4, t4), (p6, t6), (p7, t7), (p10, t10), (p161, (vI t161)), (p162, (vI t162))] h
def S31_12 (D : CallD) (m : Nat) (g11 : AV → AV → AV → AV → AV → Int → Int → HP → Res2) (t3 t4 t6 t7 t10 : AV) (t161 t162 : Int) (h : HP) : Res2 :=
 let t211 := wrQ .i64 (addQ t162 (Int.ofNat 1))
 g11 t3 t4 t6 t7 t10 t161 t211 h
def e31_14 (k t3 t4 t6 t7 t10 t12 t161 t162 h) := kN k [(p3, t3), (p4, t4), (p6, t6), (p7, t7), (p10, t10), (p12, t12), (p161, (vI t161)), (p162, (vI t162))] h
def S31_14 (D : CallD) (m : Nat) (g11 : AV → AV → AV → AV → AV → Int → Int → HP → Res2) (t3 t4 t6 t7 t10 t12 : AV) (t161 t162 : Int) (h : HP) : Res2 :=
 cellsC 7 t3 h fun t197 =>
 faC 0 t12 fun t198 =>
 ldS t198 h fun t199 =>
 faC 1 t12 fun t200 =>
 ldI t200 h fun t201 =>
 let t202 := (AV.agg [(vB false), (vB false), (vB false), (vS t199), (vI t201), (vI (Int.ofNat 0)), (.nils : AV), (vB false), (.nils : AV), (vI (Int.ofNat 0)), (.nils : AV), (.nils : AV), (vS ([] : LN)), (vI (Int.ofNat 0)), (vI (Int.ofNat 0)), (vI (Int.ofNat 0)), (vI (Int.ofNat 0))])
 cal D 69 [t197, t202] h fun t203 h59 =>
 extC t203 0 fun t204 =>
 extC t203 1 fun vt205 => asS vt205 fun t205 =>
 stsC 7 t3 t204 h59 fun h60 =>
 faC 0 t12 fun t206 =>
 stoC t206 (vS t205) h60 fun h61 =>
 cellsC 3 t12 h61 fun t208 =>
 obQ (evA (.bsl [(.str []), (kI 0), (kI 0)] 1 [⟨0, 3, (.c t208)⟩]) .leaf) fun r62 =>
 let t209 := vkV r62.2 (HP.nxQ h61)
 let h63 := HP.newQ h61 r62.1
 eff (.app 3 32 (.c t10) (.c t209)) h63 fun t210 h64 =>
 S31_12 D m g11 t3 t4 t6 t7 t210 t161 t162 h64
def e31_13 (k t3 t4 t6 t7 t10 t12 t161 t162 h) := kN k [(p3, t3), (p4, t4), (p6, t6), (p7, t7), (p10, t10), (p12, t12), (p161, (vI t161)), (p162, (vI t162))] h
def S31_13 (D : CallD) (m : Nat) (g11 : AV → AV → AV → AV → AV → Int → Int → HP → Res2) (t3 t4 t6 t7 t10 t12 : AV) (t161 t162 : Int) (h : HP) : Res2 :=
 cellsC 7 t3 h fun t178 =>
 faC 0 t12 fun t179 =>
 ldS t179 h fun t180 =>
 cal D 68 [t178, (vS t180)] h fun t181 h65 =>
 extC t181 0 fun t182 =>
 extC t181 1 fun vt183 => asB vt183 fun t183 =>
 let t13 := AV.ptr (HP.nxQ h65) 0
 let h66 := HP.newQ h65 (.cells true [(.bool false), (.bool false), (.bool false), (.str []), (kI 0), (kI 0), .nils, (.bool false), .nils, (kI 0), .nils, .nils, (.str []), (kI 0), (kI 0), (kI 0), (kI 0), (.str []), (kI 0)])
 stsC 19 t13 t182 h66 fun h67 =>
 obB (brV t183 (
 let t186 := (AV.ptr (HP.nxQ h65) (Nat.add 0 18))
 ldIV t186 h67 fun t187 =>
 faCV 1 t3 fun t188 =>
 ldIV t188 h67 fun t189 =>
 let t190 := eqQ t187 t189
 some (vB t190)) (
 some (vB false))) fun t191 =>
 br t191 (
 cellsC 7 t3 h67 fun t192 =>
 faC 2 t12 fun t193 =>
 ldI t193 h67 fun t194 =>
 cal D 32 [t192, (vI (Int.ofNat 13)), (vI t194)] h67 fun t195 h68 =>
 stsC 7 t3 t195 h68 fun h69 =>
 S31_14 D m g11 t3 t4 t6 t7 t10 t12 t161 t162 h69) (
 S31_14 D m g11 t3 t4 t6 t7 t10 t12 t161 t162 h67)
def e31_11 (k t3 t4 t6 t7 t10 t161 t162 h) := kN k [(p3, t3), (p4, t4), (p6, t6), (p7, t7), (p10, t10), (p161, (vI t161)), (p162, (vI t162))] h
def S31_11b (D : CallD) (m : Nat) (g11 : AV → AV → AV → AV → AV → Int → Int → HP → Res2) (t3 t4 t6 t7 t10 : AV) (t161 t162 : Int) (h : HP) : Res2 :=
 let t163 := ltQ t162 t161
 br t163 (
 faC 8 t4 fun t165 =>
 cellC t165 h fun t166 =>
 iasC 3 t166 (vI t162) fun t168 =>
 cellsC 3 t168 h fun t169 =>
 let t12 := AV.ptr (HP.nxQ h) 0
 let h57 := HP.newQ h (.cells true [(.str []), (kI 0), (kI 0)])
 stsC 3 t12 t169 h57 fun h58 =>
 let t170 := (AV.ptr (HP.nxQ h) (Nat.add 0 1))
 ldI t170 h58 fun t171 =>
 let t172 := eqQ t171 (Int.ofNat 0)
 br t172 (
 cellsC 7 t3 h58 fun t173 =>
 let t174 := (AV.ptr (HP.nxQ h) (Nat.add 0 2))
 ldI t174 h58 fun t175 =>
 cal D 32 [t173, (vI (Int.ofNat 14)), (vI t175)] h58 fun t176 h70 =>
 stsC 7 t3 t176 h70 fun h71 =>
 S31_13 D m g11 t3 t4 t6 t7 t10 t12 t161 t162 h71) (
 S31_13 D m g11 t3 t4 t6 t7 t10 t12 t161 t162 h58)) (
 S31_5 D m t3 t4 t6 t7 t10 h)
def S31_11 (D : CallD) (m : Nat) : AV → AV → AV → AV → AV → Int → Int → HP → Res2 := nrec (fun _ _ _ _ _ _ _ _ => none) (fun _ g => S31_11b D m g) m
def e31_4 (k t3 t4 t6 t7 h) := kN k [(p3, t3), (p4, t4), (p6, t6), (p7, t7)] h
def S31_4 (D : CallD) (m : Nat) (t3 t4 t6 t7 : AV) (h : HP) : Res2 :=
 cellsC 7 t3 h fun t149 =>
 cellsC 17 t4 h fun t150 =>
 faC 3 t4 fun t151 =>
 ldS t151 h fun t152 =>
 cal D 63 [t149, t150, (vS t152)] h fun t153 h34 =>
 cal D 67 [t153] h34 fun t154 h35 =>
 stsC 7 t3 t154 h35 fun h36 =>
 faC 4 t4 fun t155 =>
 ldI t155 h36 fun t156 =>
 faC 2 t3 fun t157 =>
 stoC t157 (vI t156) h36 fun h37 =>
 faC 3 t3 fun t158 =>
 stoC t158 (vI (Int.ofNat 0)) h37 fun h38 =>
 faC 8 t4 fun t159 =>
 cellC t159 h38 fun t160 =>
 lenC t160 fun vt161 => asI .i64 vt161 fun t161 =>
 S31_11 D m t3 t4 t6 t7 (.nils : AV) t161 (Int.ofNat 0) h38
def e31_3 (k t3 t4 t6 t7 h) := kN k [(p3, t3), (p4, t4), (p6, t6), (p7, t7)] h
def S31_3 (D : CallD) (m : Nat) (t3 t4 t6 t7 : AV) (h : HP) : Res2 :=
 faC 3 t4 fun t122 =>
 ldS t122 h fun t123 =>
 let t124 := eqL t123 ([109, 97, 105, 110] : LN)
 obB (brV t124 (
 faCV 0 t4 fun t126 =>
 ldBV t126 h fun t127 =>
 let t128 := !t127
 obBV (brV t128 (
 some (vB true)) (
 faCV 1 t4 fun t130 =>
 ldBV t130 h fun t131 =>
 some (vB t131))) fun t132 =>
 obBV (brV t132 (
 some (vB true)) (
 faCV 4 t4 fun t134 =>
 ldIV t134 h fun t135 =>
 let t136 := notQ (eqQ t135 (Int.ofNat 1))
 some (vB t136))) fun t137 =>
 obBV (brV t137 (
 some (vB true)) (
 faCV 8 t4 fun t139 =>
 cellCV t139 h fun t140 =>
 lenCV t140 fun vt141 => asIV .i64 vt141 fun t141 =>
 let t142 := ltQ (Int.ofNat 0) t141
 some (vB t142))) fun t143 =>
 some (vB t143)) (
 some (vB false))) fun t144 =>
 br t144 (
 cellsC 7 t3 h fun t145 =>
 faC 16 t4 fun t146 =>
 ldI t146 h fun t147 =>
 cal D 32 [t145, (vI (Int.ofNat 14)), (vI t147)] h fun t148 h72 =>
 stsC 7 t3 t148 h72 fun h73 =>
 S31_4 D m t3 t4 t6 t7 h73) (
 S31_4 D m t3 t4 t6 t7 h)
def e31_17 (k t3 t4 t6 t7 t117 h) := kN k [(p3, t3), (p4, t4), (p6, t6), (p7, t7), (p117, (vB t117))] h
def S31_17 (D : CallD) (m : Nat) (t3 t4 t6 t7 : AV) (t117 : Bool) (h : HP) : Res2 :=
 br t117 (
 cellsC 7 t3 h fun t118 =>
 faC 16 t4 fun t119 =>
 ldI t119 h fun t120 =>
 cal D 32 [t118, (vI (Int.ofNat 14)), (vI t120)] h fun t121 h74 =>
 stsC 7 t3 t121 h74 fun h75 =>
 S31_3 D m t3 t4 t6 t7 h75) (
 S31_3 D m t3 t4 t6 t7 h)
def e31_16 (k t3 t4 t6 t7 t108 h) := kN k [(p3, t3), (p4, t4), (p6, t6), (p7, t7), (p94, .bool true), (p108, (vB t108))] h
def S31_16 (D : CallD) (m : Nat) (t3 t4 t6 t7 : AV) (t108 : Bool) (h : HP) : Res2 :=
 obB (brV t108 (
 some (vB true)) (
 faCV 2 t4 fun t110 =>
 ldBV t110 h fun t111 =>
 obBV (brV t111 (
 faCV 7 t4 fun t113 =>
 ldBV t113 h fun t114 =>
 some (vB t114)) (
 some (vB false))) fun t115 =>
 some (vB t115))) fun t116 =>
 S31_17 D m t3 t4 t6 t7 t116 h
def e31_15 (k t3 t4 t6 t7 t98 t107 h) := kN k [(p3, t3), (p4, t4), (p6, t6), (p7, t7), (p94, .bool true), (p98, (vB t98)), (p107, (vB t107))] h
def S31_15 (D : CallD) (m : Nat) (t3 t4 t6 t7 : AV) (t98 t107 : Bool) (h : HP) : Res2 :=
 obB (brV t98 (some (vB true)) (some (vB t107))) fun t108 =>
 S31_16 D m t3 t4 t6 t7 t108 h
def e31_2 (k t3 t4 t6 t7 h) := kN k [(p3, t3), (p4, t4), (p6, t6), (p7, t7)] h
def S31_2 (D : CallD) (m : Nat) (t3 t4 t6 t7 : AV) (h : HP) : Res2 :=
 faC 0 t4 fun t91 =>
 ldB t91 h fun t92 =>
 let t93 := !t92
 br t93 (
 faC 4 t4 fun t95 =>
 ldI t95 h fun t96 =>
 let t97 := eqQ t96 (Int.ofNat 0)
 br t97 (
 S31_16 D m t3 t4 t6 t7 true h) (
 faC 5 t4 fun t99 =>
 ldI t99 h fun t100 =>
 let t101 := ltQ (Int.ofNat 0) t100
 br t101 (
 faC 4 t4 fun t103 =>
 ldI t103 h fun t104 =>
 cal D 66 [(vI t104)] h fun t105 h76 =>
 asB t105 fun t105a =>
 let t106 := !t105a
 S31_15 D m t3 t4 t6 t7 false t106 h76) (
 S31_15 D m t3 t4 t6 t7 false false h))) (
 S31_17 D m t3 t4 t6 t7 false h)
def e31_20 (k t2 t3 t4 t6 t7 t65 t66 h) := kN k [(p2, t2), (p3, t3), (p4, t4), (p6, t6), (p7, t7), (p65, (vI t65)), (p66, (vI t66))] h
def S31_20 (D : CallD) (m : Nat) (g19 : AV → AV → AV → AV → AV → Int → Int → HP → Res2) (t2 t3 t4 t6 t7 : AV) (t65 t66 : Int) (h : HP) : Res2 :=
 let t90 := wrQ .i64 (addQ t66 (Int.ofNat 1))
 g19 t2 t3 t4 t6 t7 t65 t90 h
def e31_21 (k t2 t3 t4 t6 t7 t65 t66 t85 h) := kN k [(p2, t2), (p3, t3), (p4, t4), (p6, t6), (p7, t7), (p65, (vI t65)), (p66, (vI t66)), (p85, (vB t85))] h
def S31_21 (D : CallD) (m : Nat) (g19 : AV → AV → AV → AV → AV → Int → Int → HP → Res2) (t2 t3 t4 t6 t7 : AV) (t65 t66 : Int) (t85 : Bool) (h : HP) : Res2 :=
 br t85 (
 cellsC 7 t3 h fun t86 =>
 faC 16 t4 fun t87 =>
 ldI t87 h fun t88 =>
 cal D 32 [t86, (vI (Int.ofNat 14)), (vI t88)] h fun t89 h78 =>
 stsC 7 t3 t89 h78 fun h79 =>
 S31_20 D m g19 t2 t3 t4 t6 t7 t65 t66 h79) (
 S31_20 D m g19 t2 t3 t4 t6 t7 t65 t66 h)
def e31_19 (k t2 t3 t4 t6 t7 t65 t66 h) := kN k [(p2, t2), (p3, t3), (p4, t4), (p6, t6), (p7, t7), (p65, (vI t65)), (p66, (vI t66))] h
def S31_19b (D : CallD) (m : Nat) (g19 : AV → AV → AV → AV → AV → Int → Int → HP → Res2) (t2 t3 t4 t6 t7 : AV) (t65 t66 : Int) (h : HP) : Res2 :=
 let t67 := ltQ t66 t65
 br t67 (
 iasC 17 t2 (vI t66) fun t71 =>
 faC 3 t71 fun t72 =>
 ldS t72 h fun t73 =>
 faC 3 t4 fun t74 =>
 ldS t74 h fun t75 =>
 let t76 := eqL t73 t75
 br t76 (
 iasC 17 t2 (vI t66) fun t80 =>
 cellsC 17 t80 h fun t81 =>
 cellsC 17 t4 h fun t82 =>
 cal D 65 [t81, t82] h fun t83 h77 =>
 asB t83 fun t83a =>
 let t84 := !t83a
 S31_21 D m g19 t2 t3 t4 t6 t7 t65 t66 t84 h77) (
 S31_21 D m g19 t2 t3 t4 t6 t7 t65 t66 false h)) (
 S31_2 D m t3 t4 t6 t7 h)
def S31_19 (D : CallD) (m : Nat) : AV → AV → AV → AV → AV → Int → Int → HP → Res2 := nrec (fun _ _ _ _ _ _ _ _ => none) (fun _ g => S31_19b D m g) m
def e31_1 (k t2 t3 t4 t6 t7 h) := kN k [(p2, t2), (p3, t3), (p4, t4), (p6, t6), (p7, t7)] h
def S31_1 (D : CallD) (m : Nat) (t2 t3 t4 t6 t7 : AV) (h : HP) : Res2 :=
 lenC t2 fun vt65 => asI .i64 vt65 fun t65 =>
 S31_19 D m t2 t3 t4 t6 t7 t65 (Int.ofNat 0) h
def e31_24 (k t2 t3 t4 t6 t7 t26 t27 h) := kN k [(p2, t2), (p3, t3), (p4, t4), (p6, t6), (p7, t7), (p26, (vI t26)), (p27, (vI t27))] h
def S31_24 (D : CallD) (m : Nat) (g23 : AV → AV → AV → AV → AV → Int → Int → HP → Res2) (t2 t3 t4 t6 t7 : AV) (t26 t27 : Int) (h : HP) : Res2 :=
 let t63 := wrQ .i64 (addQ t27 (Int.ofNat 1))
 g23 t2 t3 t4 t6 t7 t26 t63 h
def e31_27 (k t2 t3 t4 t6 t7 t26 t27 t58 h) := kN k [(p2, t2), (p3, t3), (p4, t4), (p6, t6), (p7, t7), (p26, (vI t26)), (p27, (vI t27)), (p58, (vB t58))] h
def S31_27 (D : CallD) (m : Nat) (g23 : AV → AV → AV → AV → AV → Int → Int → HP → Res2) (t2 t3 t4 t6 t7 : AV) (t26 t27 : Int) (t58 : Bool) (h : HP) : Res2 :=
 br t58 (
 cellsC 7 t3 h fun t59 =>
 faC 16 t4 fun t60 =>
 ldI t60 h fun t61 =>
 cal D 32 [t59, (vI (Int.ofNat 13)), (vI t61)] h fun t62 h80 =>
 stsC 7 t3 t62 h80 fun h81 =>
 S31_24 D m g23 t2 t3 t4 t6 t7 t26 t27 h81) (
 S31_24 D m g23 t2 t3 t4 t6 t7 t26 t27 h)
def e31_26 (k t2 t3 t4 t6 t7 t26 t27 t38 t57 h) := kN k [(p2, t2), (p3, t3), (p4, t4), (p6, t6), (p7, t7), (p26, (vI t26)), (p27, (vI t27)), (p38, (vB t38)), (p57, (vB t57))] h
def S31_26 (D : CallD) (m : Nat) (g23 : AV → AV → AV → AV → AV → Int → Int → HP → Res2) (t2 t3 t4 t6 t7 : AV) (t26 t27 : Int) (t38 t57 : Bool) (h : HP) : Res2 :=
 obB (brV t38 (some (vB t57)) (some (vB false))) fun t58 =>
 S31_27 D m g23 t2 t3 t4 t6 t7 t26 t27 t58 h
def e31_25 (k t2 t3 t4 t6 t7 t26 t27 t47 t56 h) := kN k [(p2, t2), (p3, t3), (p4, t4), (p6, t6), (p7, t7), (p26, (vI t26)), (p27, (vI t27)), (p38, .bool true), (p47, (vB t47)), (p56, (vB t56))] h
def S31_25 (D : CallD) (m : Nat) (g23 : AV → AV → AV → AV → AV → Int → Int → HP → Res2) (t2 t3 t4 t6 t7 : AV) (t26 t27 : Int) (t47 t56 : Bool) (h : HP) : Res2 :=
 obB (brV t47 (some (vB true)) (some (vB t56))) fun t57 =>
 S31_26 D m g23 t2 t3 t4 t6 t7 t26 t27 true t57 h
def e31_23 (k t2 t3 t4 t6 t7 t26 t27 h) := kN k [(p2, t2), (p3, t3), (p4, t4), (p6, t6), (p7, t7), (p26, (vI t26)), (p27, (vI t27))] h
def S31_23b (D : CallD) (m : Nat) (g23 : AV → AV → AV → AV → AV → Int → Int → HP → Res2) (t2 t3 t4 t6 t7 : AV) (t26 t27 : Int) (h : HP) : Res2 :=
 let t28 := ltQ t27 t26
 br t28 (
 iasC 17 t2 (vI t27) fun t32 =>
 faC 3 t32 fun t33 =>
 ldS t33 h fun t34 =>
 faC 3 t4 fun t35 =>
 ldS t35 h fun t36 =>
 let t37 := eqL t34 t36
 br t37 (
 iasC 17 t2 (vI t27) fun t41 =>
 faC 0 t41 fun t42 =>
 ldB t42 h fun t43 =>
 faC 0 t4 fun t44 =>
 ldB t44 h fun t45 =>
 let t46 := ((t43 == t45) != true)
 br t46 (
 S31_26 D m g23 t2 t3 t4 t6 t7 t26 t27 true true h) (
 iasC 17 t2 (vI t27) fun t50 =>
 cellsC 17 t50 h fun t51 =>
 cal D 48 [t51] h fun t52 h82 =>
 asB t52 fun t52a =>
 br t52a (
 cellsC 17 t4 h82 fun t54 =>
 cal D 48 [t54] h82 fun t55 h83 =>
 asB t55 fun t55a =>
 S31_25 D m g23 t2 t3 t4 t6 t7 t26 t27 false t55a h83) (
 S31_25 D m g23 t2 t3 t4 t6 t7 t26 t27 false false h82))) (
 S31_27 D m g23 t2 t3 t4 t6 t7 t26 t27 false h)) (
 S31_1 D m t2 t3 t4 t6 t7 h)
def S31_23 (D : CallD) (m : Nat) : AV → AV → AV → AV → AV → Int → Int → HP → Res2 := nrec (fun _ _ _ _ _ _ _ _ => none) (fun _ g => S31_23b D m g) m
def e31_0 (k t2 t3 t4 t6 t7 h) := kN k [(p2, t2), (p3, t3), (p4, t4), (p6, t6), (p7, t7)] h
def S31_0 (D : CallD) (m : Nat) (t2 t3 t4 t6 t7 : AV) (h : HP) : Res2 :=
 lenC t2 fun vt26 => asI .i64 vt26 fun t26 =>
 S31_23 D m t2 t3 t4 t6 t7 t26 (Int.ofNat 0) h
def e31_29 (k t0 t1 t2 h) := kN k [(p0, t0), (p1, t1), (p2, t2)] h
def S31_29 (D : CallD) (m : Nat) (t0 t1 t2 : AV) (h : HP) : Res2 :=
 let t3 := AV.ptr (HP.nxQ h) 0
 let h30 := HP.newQ h (.cells true (AV.cells t0))
 let t4 := AV.ptr (HP.nxQ h30) 0
 let h31 := HP.newQ h30 (.cells true (AV.cells t1))
 let t6 := AV.ptr (HP.nxQ h31) 0
 let h32 := HP.newQ h31 (.cells true [.nils, (kI 0), (kI 0), (kI 0), (kI 0), (kI 0), (kI 0)])
 let t7 := AV.ptr (HP.nxQ h32) 0
 let h33 := HP.newQ h32 (.cells true [(.bool false), (.bool false), (.bool false), (.str []), (kI 0), (kI 0), .nils, (.bool false), .nils, (kI 0), .nils, .nils, (.str []), (kI 0), (kI 0), (kI 0), (kI 0)])
 let t18 := (AV.ptr (HP.nxQ h30) (Nat.add 0 3))
 ldS t18 h33 fun t19 =>
 cal D 64 [(vS t19)] h33 fun t20 h84 =>
 asB t20 fun t20a =>
 br t20a (
 cellsC 7 t3 h84 fun t21 =>
 let t22 := (AV.ptr (HP.nxQ h30) (Nat.add 0 16))
 ldI t22 h84 fun t23 =>
 cal D 32 [t21, (vI (Int.ofNat 13)), (vI t23)] h84 fun t24 h85 =>
 stsC 7 t3 t24 h85 fun h86 =>
 S31_0 D m t2 t3 t4 t6 t7 h86) (
 S31_0 D m t2 t3 t4 t6 t7 h84)
def S31 : SFn := fun D m args h u => nou u <| popV args fun t0 args => popV args fun t1 args => popV args fun t2 args => endA args (S31_29 D m t0 t1 t2 h)
theorem T31_7 (hE : FX x31 D m E) : S31_7 D m = e31_7 (E c31_7 []) := by unfold S31_7; rw [hE c31_7]; kernel_rfl
theorem T31_6 (hE : FX x31 D m E) : S31_6 D m = e31_6 (E c31_6 []) := by unfold S31_6; rw [T31_7 hE, hE c31_6]; kernel_rfl
theorem T31_9 (hE : FX x31 D m E) (G8) : S31_9 D m (e31_8 G8) = e31_9 (E c31_9 [.lp v31_8 G8, .blk 6, .sj v31_6 c31_6]) := by unfold S31_9; rw [hE c31_9]; kernel_rfl
theorem T31_10 (hE : FX x31 D m E) (G8) : S31_10 D m (e31_8 G8) = e31_10 (E c31_10 [.blk 7, .sj v31_9 c31_9, .lp v31_8 G8, .blk 6, .sj v31_6 c31_6]) := by unfold S31_10; rw [T31_9 hE G8, hE c31_10]; kernel_rfl
theorem T31_8b (hE : FX x31 D m E) (G8) : S31_8b D m (e31_8 G8) = e31_8 (E c31_8b [.lp v31_8 G8, .blk 6, .sj v31_6 c31_6]) := by unfold S31_8b; rw [T31_10 hE G8, T31_6 hE, hE c31_8b]; kernel_rfl
theorem T31_8 (hE : FX x31 D m E) : S31_8 D m = e31_8 (nrec (fun _ => none) (fun _ G8 st => E c31_8b [.lp v31_8 G8, .blk 6, .sj v31_6 c31_6] st) m) :=
  nrec_emb e31_8 (fun _ _ _ _ _ _ _ _ => none) (fun g => S31_8b D m g) (fun G8 st => E c31_8b [.lp v31_8 G8, .blk 6, .sj v31_6 c31_6] st) rfl (fun g => T31_8b hE g) m
theorem T31_5 (hE : FX x31 D m E) : S31_5 D m = e31_5 (E c31_5 []) := by unfold S31_5; rw [T31_8 hE, hE c31_5]; kernel_rfl
theorem T31_12 (hE : FX x31 D m E) (G11) : S31_12 D m (e31_11 G11) = e31_12 (E c31_12 [.lp v31_11 G11, .blk 4, .sj v31_5 c31_5]) := by unfold S31_12; rw [hE c31_12]; kernel_rfl
theorem T31_14 (hE : FX x31 D m E) (G11) : S31_14 D m (e31_11 G11) = e31_14 (E c31_14 [.blk 5, .sj v31_12 c31_12, .lp v31_11 G11, .blk 4, .sj v31_5 c31_5]) := by unfold S31_14; rw [T31_12 hE G11, hE c31_14]; kernel_rfl
theorem T31_13 (hE : FX x31 D m E) (G11) : S31_13 D m (e31_11 G11) = e31_13 (E c31_13 [.blk 5, .sj v31_12 c31_12, .lp v31_11 G11, .blk 4, .sj v31_5 c31_5]) := by unfold S31_13; rw [T31_14 hE G11, hE c31_13]; kernel_rfl
theorem T31_11b (hE : FX x31 D m E) (G11) : S31_11b D m (e31_11 G11) = e31_11 (E c31_11b [.lp v31_11 G11, .blk 4, .sj v31_5 c31_5]) := by unfold S31_11b; rw [T31_13 hE G11, T31_5 hE, hE c31_11b]; kernel_rfl
theorem T31_11 (hE : FX x31 D m E) : S31_11 D m = e31_11 (nrec (fun _ => none) (fun _ G11 st => E c31_11b [.lp v31_11 G11, .blk 4, .sj v31_5 c31_5] st) m) :=
  nrec_emb e31_11 (fun _ _ _ _ _ _ _ _ => none) (fun g => S31_11b D m g) (fun G11 st => E c31_11b [.lp v31_11 G11, .blk 4, .sj v31_5 c31_5] st) rfl (fun g => T31_11b hE g) m
theorem T31_4 (hE : FX x31 D m E) : S31_4 D m = e31_4 (E c31_4 []) := by unfold S31_4; rw [T31_11 hE, hE c31_4]; kernel_rfl
theorem T31_3 (hE : FX x31 D m E) : S31_3 D m = e31_3 (E c31_3 []) := by unfold S31_3; rw [T31_4 hE, hE c31_3]; kernel_rfl
theorem T31_17 (hE : FX x31 D m E) : S31_17 D m = e31_17 (E (.opq false l31_17 c31_18) [.sj v31_3 c31_3]) := by unfold S31_17; rw [T31_3 hE, hE (.opq false l31_17 c31_18)]; kernel_rfl
theorem T31_16 (hE : FX x31 D m E) : S31_16 D m = e31_16 (E (.opq false l31_16 c31_18) [.sj v31_3 c31_3]) := by unfold S31_16; rw [T31_17 hE, hE (.opq false l31_16 c31_18)]; kernel_rfl
theorem T31_15 (hE : FX x31 D m E) : S31_15 D m = e31_15 (E (.opq false l31_15 c31_18) [.sj v31_3 c31_3]) := by unfold S31_15; rw [T31_16 hE, hE (.opq false l31_15 c31_18)]; kernel_rfl
theorem T31_2 (hE : FX x31 D m E) : S31_2 D m = e31_2 (E c31_2 []) := by unfold S31_2; rw [T31_16 hE, T31_15 hE, T31_17 hE, hE c31_2]; kernel_rfl
theorem T31_20 (hE : FX x31 D m E) (G19) : S31_20 D m (e31_19 G19) = e31_20 (E c31_20 [.lp v31_19 G19, .blk 2, .sj v31_2 c31_2]) := by unfold S31_20; rw [hE c31_20]; kernel_rfl
theorem T31_21 (hE : FX x31 D m E) (G19) : S31_21 D m (e31_19 G19) = e31_21 (E (.opq true l31_21 c31_22) [.blk 3, .sj v31_20 c31_20, .lp v31_19 G19, .blk 2, .sj v31_2 c31_2]) := by unfold S31_21; rw [T31_20 hE G19, hE (.opq true l31_21 c31_22)]; kernel_rfl
theorem T31_19b (hE : FX x31 D m E) (G19) : S31_19b D m (e31_19 G19) = e31_19 (E c31_19b [.lp v31_19 G19, .blk 2, .sj v31_2 c31_2]) := by unfold S31_19b; rw [T31_21 hE G19, T31_2 hE, hE c31_19b]; kernel_rfl
theorem T31_19 (hE : FX x31 D m E) : S31_19 D m = e31_19 (nrec (fun _ => none) (fun _ G19 st => E c31_19b [.lp v31_19 G19, .blk 2, .sj v31_2 c31_2] st) m) :=
  nrec_emb e31_19 (fun _ _ _ _ _ _ _ _ => none) (fun g => S31_19b D m g) (fun G19 st => E c31_19b [.lp v31_19 G19, .blk 2, .sj v31_2 c31_2] st) rfl (fun g => T31_19b hE g) m
theorem T31_1 (hE : FX x31 D m E) : S31_1 D m = e31_1 (E c31_1 []) := by unfold S31_1; rw [T31_19 hE, hE c31_1]; kernel_rfl
theorem T31_24 (hE : FX x31 D m E) (G23) : S31_24 D m (e31_23 G23) = e31_24 (E c31_24 [.lp v31_23 G23, .blk 0, .sj v31_1 c31_1]) := by unfold S31_24; rw [hE c31_24]; kernel_rfl
theorem T31_27 (hE : FX x31 D m E) (G23) : S31_27 D m (e31_23 G23) = e31_27 (E (.opq true l31_27 c31_28) [.blk 1, .sj v31_24 c31_24, .lp v31_23 G23, .blk 0, .sj v31_1 c31_1]) := by unfold S31_27; rw [T31_24 hE G23, hE (.opq true l31_27 c31_28)]; kernel_rfl
theorem T31_26 (hE : FX x31 D m E) (G23) : S31_26 D m (e31_23 G23) = e31_26 (E (.opq true l31_26 c31_28) [.blk 1, .sj v31_24 c31_24, .lp v31_23 G23, .blk 0, .sj v31_1 c31_1]) := by unfold S31_26; rw [T31_27 hE G23, hE (.opq true l31_26 c31_28)]; kernel_rfl
theorem T31_25 (hE : FX x31 D m E) (G23) : S31_25 D m (e31_23 G23) = e31_25 (E (.opq true l31_25 c31_28) [.blk 1, .sj v31_24 c31_24, .lp v31_23 G23, .blk 0, .sj v31_1 c31_1]) := by unfold S31_25; rw [T31_26 hE G23, hE (.opq true l31_25 c31_28)]; kernel_rfl
theorem T31_23b (hE : FX x31 D m E) (G23) : S31_23b D m (e31_23 G23) = e31_23 (E c31_23b [.lp v31_23 G23, .blk 0, .sj v31_1 c31_1]) := by unfold S31_23b; rw [T31_26 hE G23, T31_25 hE G23, T31_27 hE G23, T31_1 hE, hE c31_23b]; kernel_rfl
theorem T31_23 (hE : FX x31 D m E) : S31_23 D m = e31_23 (nrec (fun _ => none) (fun _ G23 st => E c31_23b [.lp v31_23 G23, .blk 0, .sj v31_1 c31_1] st) m) :=
  nrec_emb e31_23 (fun _ _ _ _ _ _ _ _ => none) (fun g => S31_23b D m g) (fun G23 st => E c31_23b [.lp v31_23 G23, .blk 0, .sj v31_1 c31_1] st) rfl (fun g => T31_23b hE g) m
theorem T31_0 (hE : FX x31 D m E) : S31_0 D m = e31_0 (E c31_0 []) := by unfold S31_0; rw [T31_23 hE, hE c31_0]; kernel_rfl
theorem T31_29 (hE : FX x31 D m E) : S31_29 D m = e31_29 (E c31_e []) := by unfold S31_29; rw [T31_0 hE, hE c31_e]; kernel_rfl
theorem X31 : XTie S31 x31 := X_of fun D m E hE args h u => by unfold S31; rw [T31_29 hE]; kernel_rfl
/- 33 -/
def v33_0 : List Pos := []
def c33_0 : XC := (.sO [.mv p6 (cb true) .b] (.s .ret))
def v33_1 : List Pos := [p1, p2, p15, p16, p17]
def c33_1b : XC := (.sO [.bn p18 .lss q17 q16 .b] (.seq (.cond q18 .skip (.exit 0)) (.seq (.block 1 (.seq (.oX [.mv p19 q17 tI, .P p20 (.iaddr (.sl 3) q15 q17) .v, .L p21 (.cells 3 q20) .v, .al p8 (.new [(.str []), (kI 0), (kI 0)]), .mv p7 q19 tI, .ss 3 q8 q21]) (.seq (.oX [.mv p22 q1 .v, .mv p23 q7 tI, .P p24 (.iaddr (.sl 3) q22 q23) .v, .L p25 (.cells 3 q24) .v, .al p9 (.new [(.str []), (kI 0), (kI 0)]), .ss 3 q9 q25]) (.seq (.oX [.mv p26 q2 .v, .L p27 (.cells 3 q8) .v, .L p28 (.cells 3 q9) .v, .o ⟨(some p29), (.call (.val q26) [q27, q28]), none, []⟩ .b, .P p30 (.un .not q29) .b]) (.cond q30 (.seq (.oX [.mv p6 (cb false) .b]) .ret) .skip))))) (.s (.oX [.bn p31 .add q17 (ci 1) tI, .mv p17 q31 tI])))))
def c33_e : XC := (.sO [.mv p6 (cb false) .b] (.seq (.seq (.oX [.mv p10 q0 .v, .P p11 (.lenl q10) tI, .mv p12 q1 .v, .P p13 (.lenl q12) tI, .bn p14 .neq q11 q13 .b]) (.cond q14 (.seq (.oX [.mv p6 (cb false) .b]) .ret) .skip)) (.sj v33_0 (.sO [.mv p15 q0 .v, .P p16 (.lenl q15) tI, .mv p17 (ci 0) tI] (.block 0 (.loop v33_1 c33_1b))) c33_0)))
def x33 : XFn := ⟨[.v, .v, .v], false, [(.tmp p6)], c33_e⟩
def e33_0 (k h) := kN k [] h
def S33_0 (D : CallD) (m : Nat) (h : HP) : Res2 :=
 some (.ret (vB true) h, .no)
def e33_1 (k t1 t2 t15 t16 t17 h) := kN k [(p1, t1), (p2, t2), (p15, t15), (p16, (vI t16)), (p17, (vI t17))] h
def S33_1b (D : CallD) (m : Nat) (g1 : AV → AV → AV → Int → Int → HP → Res2) (t1 t2 t15 : AV) (t16 t17 : Int) (h : HP) : Res2 :=
 let t18 := ltQ t17 t16
 br t18 (
 iasC 3 t15 (vI t17) fun t20 =>
 cellsC 3 t20 h fun t21 =>
 let t8 := AV.ptr (HP.nxQ h) 0
 let h3 := HP.newQ h (.cells true [(.str []), (kI 0), (kI 0)])
 stsC 3 t8 t21 h3 fun h4 =>
 iasC 3 t1 (vI t17) fun t24 =>
 cellsC 3 t24 h4 fun t25 =>
 let t9 := AV.ptr (HP.nxQ h4) 0
 let h5 := HP.newQ h4 (.cells true [(.str []), (kI 0), (kI 0)])
 stsC 3 t9 t25 h5 fun h6 =>
 cellsC 3 t8 h6 fun t27 =>
 cellsC 3 t9 h6 fun t28 =>
 obQ (target .leaf (.val (.c t2)) [(.c t27), (.c t28)]) fun qh7 =>
 calC D qh7.1 qh7.2 h6 (fun t29 h7 =>
 asB t29 fun t29a =>
 let t30 := !t29a
 br t30 (
 some (.ret (vB false) h7, .no)) (
 let t31 := wrQ .i64 (addQ t17 (Int.ofNat 1))
 g1 t1 t2 t15 t16 t31 h7)) (panN)) (
 S33_0 D m h)
def S33_1 (D : CallD) (m : Nat) : AV → AV → AV → Int → Int → HP → Res2 := nrec (fun _ _ _ _ _ _ => none) (fun _ g => S33_1b D m g) m
def e33_2 (k t0 t1 t2 h) := kN k [(p0, t0), (p1, t1), (p2, t2)] h
def S33_2 (D : CallD) (m : Nat) (t0 t1 t2 : AV) (h : HP) : Res2 :=
 lenC t0 fun vt11 => asI .i64 vt11 fun t11 =>
 lenC t1 fun vt13 => asI .i64 vt13 fun t13 =>
 let t14 := notQ (eqQ t11 t13)
 br t14 (
 some (.ret (vB false) h, .no)) (
 lenC t0 fun vt16 => asI .i64 vt16 fun t16 =>
 S33_1 D m t1 t2 t0 t16 (Int.ofNat 0) h)
def S33 : SFn := fun D m args h u => nou u <| popV args fun t0 args => popV args fun t1 args => popV args fun t2 args => endA args (S33_2 D m t0 t1 t2 h)
theorem T33_0 (hE : FX x33 D m E) : S33_0 D m = e33_0 (E c33_0 []) := by unfold S33_0; rw [hE c33_0]; kernel_rfl
theorem T33_1b (hE : FX x33 D m E) (G1) : S33_1b D m (e33_1 G1) = e33_1 (E c33_1b [.lp v33_1 G1, .blk 0, .sj v33_0 c33_0]) := by unfold S33_1b; rw [T33_0 hE, hE c33_1b]; kernel_rfl
theorem T33_1 (hE : FX x33 D m E) : S33_1 D m = e33_1 (nrec (fun _ => none) (fun _ G1 st => E c33_1b [.lp v33_1 G1, .blk 0, .sj v33_0 c33_0] st) m) :=
  nrec_emb e33_1 (fun _ _ _ _ _ _ => none) (fun g => S33_1b D m g) (fun G1 st => E c33_1b [.lp v33_1 G1, .blk 0, .sj v33_0 c33_0] st) rfl (fun g => T33_1b hE g) m
theorem T33_2 (hE : FX x33 D m E) : S33_2 D m = e33_2 (E c33_e []) := by unfold S33_2; rw [T33_1 hE, hE c33_e]; kernel_rfl
theorem X33 : XTie S33 x33 := X_of fun D m E hE args h u => by unfold S33; rw [T33_2 hE]; kernel_rfl
/- 35 -/
def v35_0 : List Pos := [p3]
def c35_0 : XC := (.sO [.mv p20 q3 .v, .mv p2 q20 .v] (.s .ret))
def v35_2 : List Pos := [p3, p8, p9, p10]
def c35_2 : XC := (.s (.oX [.bn p19 .add q10 (ci 1) tI, .mv p10 q19 tI]))
def v35_1 : List Pos := [p3, p8, p9, p10]
def c35_1b : XC := (.sO [.bn p11 .lss q10 q9 .b] (.seq (.cond q11 .skip (.exit 0)) (.sj v35_2 (.block 1 (.sO [.P p12 (.iaddr (.sl 17) q8 q10) .v, .L p13 (.cells 17 q12) .v, .al p5 (.new [(.bool false), (.bool false), (.bool false), (.str []), (kI 0), (kI 0), .nils, (.bool false), .nils, (kI 0), .nils, .nils, (.str []), (kI 0), (kI 0), (kI 0), (kI 0)]), .ss 17 q5 q13] (.sO [.fa p14 1 q5, .ld p15 q14 .b] (.cond q15 (.s (.oX [.mv p16 q3 .v, .fa p17 3 q5, .ld p18 q17 .s, .o ⟨none, (.e (.mset .str q16 q18 (cb true))), none, []⟩ .v])) (.s .skip))))) c35_2)))
def c35_e : XC := (.sO [.al p1 (.box q0), .mv p2 (.c .nilm) .v] (.sO [.al p6 (.mkmap), .mv p3 q6 .v] (.sj v35_0 (.sO [.fa p7 0 q1, .ld p8 q7 .v, .P p9 (.lenl q8) tI, .mv p10 (ci 0) tI] (.block 0 (.loop v35_1 c35_1b))) c35_0)))
def x35 : XFn := ⟨[.v], false, [(.tmp p2)], c35_e⟩
def e35_0 (k t3 h) := kN k [(p3, t3)] h
def S35_0 (D : CallD) (m : Nat) (t3 : AV) (h : HP) : Res2 :=
 some (.ret t3 h, .no)
def e35_2 (k t3 t8 t9 t10 h) := kN k [(p3, t3), (p8, t8), (p9, (vI t9)), (p10, (vI t10))] h
def S35_2 (D : CallD) (m : Nat) (g1 : AV → AV → Int → Int → HP → Res2) (t3 t8 : AV) (t9 t10 : Int) (h : HP) : Res2 :=
 let t19 := wrQ .i64 (addQ t10 (Int.ofNat 1))
 g1 t3 t8 t9 t19 h
def e35_1 (k t3 t8 t9 t10 h) := kN k [(p3, t3), (p8, t8), (p9, (vI t9)), (p10, (vI t10))] h
def S35_1b (D : CallD) (m : Nat) (g1 : AV → AV → Int → Int → HP → Res2) (t3 t8 : AV) (t9 t10 : Int) (h : HP) : Res2 :=
 let t11 := ltQ t10 t9
 br t11 (
 iasC 17 t8 (vI t10) fun t12 =>
 cellsC 17 t12 h fun t13 =>
 let t5 := AV.ptr (HP.nxQ h) 0
 let h6 := HP.newQ h (.cells true [(.bool false), (.bool false), (.bool false), (.str []), (kI 0), (kI 0), .nils, (.bool false), .nils, (kI 0), .nils, .nils, (.str []), (kI 0), (kI 0), (kI 0), (kI 0)])
 stsC 17 t5 t13 h6 fun h7 =>
 let t14 := (AV.ptr (HP.nxQ h) (Nat.add 0 1))
 ldB t14 h7 fun t15 =>
 br t15 (
 let t17 := (AV.ptr (HP.nxQ h) (Nat.add 0 3))
 ldS t17 h7 fun t18 =>
 eff (.mset .str (.c t3) (.c (vS t18)) (.c (vB true))) h7 fun t0 h8 =>
 S35_2 D m g1 t3 t8 t9 t10 h8) (
 S35_2 D m g1 t3 t8 t9 t10 h7)) (
 S35_0 D m t3 h)
def S35_1 (D : CallD) (m : Nat) : AV → AV → Int → Int → HP → Res2 := nrec (fun _ _ _ _ _ => none) (fun _ g => S35_1b D m g) m
def e35_3 (k t0 h) := kN k [(p0, t0)] h
def S35_3 (D : CallD) (m : Nat) (t0 : AV) (h : HP) : Res2 :=
 let t1 := AV.ptr (HP.nxQ h) 0
 let h4 := HP.newQ h (.cells true (AV.cells t0))
 let t6 := AV.map (HP.nxQ h4)
 let h5 := HP.newQ h4 (.map [] 0)
 let t7 := (AV.ptr (HP.nxQ h) (Nat.add 0 0))
 cellC t7 h5 fun t8 =>
 lenC t8 fun vt9 => asI .i64 vt9 fun t9 =>
 S35_1 D m t6 t8 t9 (Int.ofNat 0) h5
def S35 : SFn := fun D m args h u => nou u <| popV args fun t0 args => endA args (S35_3 D m t0 h)
theorem T35_0 (hE : FX x35 D m E) : S35_0 D m = e35_0 (E c35_0 []) := by unfold S35_0; rw [hE c35_0]; kernel_rfl
theorem T35_2 (hE : FX x35 D m E) (G1) : S35_2 D m (e35_1 G1) = e35_2 (E c35_2 [.lp v35_1 G1, .blk 0, .sj v35_0 c35_0]) := by unfold S35_2; rw [hE c35_2]; kernel_rfl
theorem T35_1b (hE : FX x35 D m E) (G1) : S35_1b D m (e35_1 G1) = e35_1 (E c35_1b [.lp v35_1 G1, .blk 0, .sj v35_0 c35_0]) := by unfold S35_1b; rw [T35_2 hE G1, T35_0 hE, hE c35_1b]; kernel_rfl
theorem T35_1 (hE : FX x35 D m E) : S35_1 D m = e35_1 (nrec (fun _ => none) (fun _ G1 st => E c35_1b [.lp v35_1 G1, .blk 0, .sj v35_0 c35_0] st) m) :=
  nrec_emb e35_1 (fun _ _ _ _ _ => none) (fun g => S35_1b D m g) (fun G1 st => E c35_1b [.lp v35_1 G1, .blk 0, .sj v35_0 c35_0] st) rfl (fun g => T35_1b hE g) m
theorem T35_3 (hE : FX x35 D m E) : S35_3 D m = e35_3 (E c35_e []) := by unfold S35_3; rw [T35_1 hE, hE c35_e]; kernel_rfl
theorem X35 : XTie S35 x35 := X_of fun D m E hE args h u => by unfold S35; rw [T35_3 hE]; kernel_rfl
/- 36 -/
def c36_e : XC := (.sO [.al p2 (.box q0), .al p4 (.new [(.bool false), (.bool false), (.bool false), (.str []), (kI 0), (kI 0), .nils, (.bool false), .nils, (kI 0), .nils, .nils, (.str []), (kI 0), (kI 0), (kI 0), (kI 0)])] (.sO [.fa p5 8 q2, .ld p6 q5 .v, .cl p7 73 [q6] .v, .fa p8 8 q2, .st q8 q7] (.sO [.fa p9 6 q2, .ld p10 q9 .v, .mv p11 q1 .v, .cl p12 74 [q10, q11] .v, .fa p13 6 q2, .st q13 q12] (.sO [.fa p14 9 q2, .L p15 (.cells 7 q14) .v, .al p16 (.bsl [(kI 0), .nils, .nils, (.str []), (kI 0), (kI 0), (kI 0)] 1 [⟨0, 7, q15⟩]), .mv p17 q1 .v, .cl p18 75 [q16, q17] .v, .P p19 (.iaddr (.sl 7) q18 (ci 0)) .v, .L p20 (.cells 7 q19) .v, .fa p21 9 q2, .ss 7 q21 q20] (.sO [.L p22 (.cells 17 q2) .v, .ss 17 q4 q22] (.s .ret))))))
def x36 : XFn := ⟨[.v, .v], false, [(.cells 17 p4)], c36_e⟩
def e36_0 (k t0 t1 h) := kN k [(p0, t0), (p1, t1)] h
def S36_0 (D : CallD) (m : Nat) (t0 t1 : AV) (h : HP) : Res2 :=
 let t2 := AV.ptr (HP.nxQ h) 0
 let h1 := HP.newQ h (.cells true (AV.cells t0))
 let t4 := AV.ptr (HP.nxQ h1) 0
 let h2 := HP.newQ h1 (.cells true [(.bool false), (.bool false), (.bool false), (.str []), (kI 0), (kI 0), .nils, (.bool false), .nils, (kI 0), .nils, .nils, (.str []), (kI 0), (kI 0), (kI 0), (kI 0)])
 let t5 := (AV.ptr (HP.nxQ h) (Nat.add 0 8))
 cellC t5 h2 fun t6 =>
 cal D 73 [t6] h2 fun t7 h3 =>
 let t8 := (AV.ptr (HP.nxQ h) (Nat.add 0 8))
 stoC t8 t7 h3 fun h4 =>
 let t9 := (AV.ptr (HP.nxQ h) (Nat.add 0 6))
 cellC t9 h4 fun t10 =>
 cal D 74 [t10, t1] h4 fun t12 h5 =>
 let t13 := (AV.ptr (HP.nxQ h) (Nat.add 0 6))
 stoC t13 t12 h5 fun h6 =>
 let t14 := (AV.ptr (HP.nxQ h) (Nat.add 0 9))
 cellsC 7 t14 h6 fun t15 =>
 obQ (evA (.bsl [(kI 0), .nils, .nils, (.str []), (kI 0), (kI 0), (kI 0)] 1 [⟨0, 7, (.c t15)⟩]) .leaf) fun r7 =>
 let t16 := vkV r7.2 (HP.nxQ h6)
 let h8 := HP.newQ h6 r7.1
 cal D 75 [t16, t1] h8 fun t18 h9 =>
 iasC 7 t18 (vI (Int.ofNat 0)) fun t19 =>
 cellsC 7 t19 h9 fun t20 =>
 let t21 := (AV.ptr (HP.nxQ h) (Nat.add 0 9))
 stsC 7 t21 t20 h9 fun h10 =>
 cellsC 17 t2 h10 fun t22 =>
 stsC 17 t4 t22 h10 fun h11 =>
 cellsC 17 t4 h11 fun t4a =>
 some (.ret t4a h11, .no)
def S36 : SFn := fun D m args h u => nou u <| popV args fun t0 args => popV args fun t1 args => endA args (S36_0 D m t0 t1 h)
theorem T36_0 (hE : FX x36 D m E) : S36_0 D m = e36_0 (E c36_e []) := by unfold S36_0; rw [hE c36_e]; kernel_rfl
theorem X36 : XTie S36 x36 := X_of fun D m E hE args h u => by unfold S36; rw [T36_0 hE]; kernel_rfl
/- 37 -/
def c37_e : XC := (.seq (.ops true (XL.of [.mv p4 q0 .v, .cl p5 38 [q4] .b, .mv p6 q5 .b, .ge p6 (XL.of [.o ⟨(some p7), (.l (.cell q1)), (some (p6, true)), []⟩ .v, .G p6 true p8 (.mov q0) .v, .G p6 true p9 (.nilck q8) .v, .G p6 true p10 (.faddr 2 q9) .v, .o ⟨(some p11), (.l (.cell q10)), (some (p6, true)), []⟩ .s, .o ⟨(some p12), (.l (.look .str (.bool false) false q7 q11)), (some (p6, true)), []⟩ .b, .G p6 true p13 (.un .not q12) .b, .P p14 (.pick q6 q13 (cb false)) .b]) p14 .b])) (.cond q14 (.s (.ops true (XL.of [.ld p15 q2 .v, .mv p16 q0 .v, .P p17 (.nilck q16) .v, .fa p18 2 q17, .ld p19 q18 .s, .o ⟨none, (.e (.mset .str q15 q19 (cb true))), none, []⟩ .v]))) (.s .skip)))
def x37 : XFn := ⟨[.v, .v, .v], false, [], c37_e⟩
def e37_0 (k t0 t1 t2 h) := kN k [(p0, t0), (p1, t1), (p2, t2)] h
def S37_0 (D : CallD) (m : Nat) (t0 t1 t2 : AV) (h : HP) : Res2 :=
 cal D 38 [t0] h fun t5 h1 =>
 asB t5 fun t5a =>
 obB (brV t5a (
 cellCV t1 h1 fun t7 =>
 nilckCV t0 fun t9 =>
 faCV 2 t9 fun t10 =>
 ldSV t10 h1 fun t11 =>
 obBV (evL (.look .str (.bool false) false (.c t7) (.c (vS t11))) .leaf h1) fun t12 =>
 let t13 := !t12
 some (vB t13)) (
 some (vB false))) fun t14 =>
 br t14 (
 cellC t2 h1 fun t15 =>
 nilckC t0 fun t17 =>
 faC 2 t17 fun t18 =>
 ldS t18 h1 fun t19 =>
 eff (.mset .str (.c t15) (.c (vS t19)) (.c (vB true))) h1 fun t0a h2 =>
 some (.ret (.tup []) h2, .no)) (
 some (.ret (.tup []) h1, .no))
def S37 : SFn := fun D m args h u => nou u <| popV args fun t0 args => popV args fun t1 args => popV args fun t2 args => endA args (S37_0 D m t0 t1 t2 h)
theorem T37_0 (hE : FX x37 D m E) : S37_0 D m = e37_0 (E c37_e []) := by unfold S37_0; rw [hE c37_e]; kernel_rfl
theorem X37 : XTie S37 x37 := X_of fun D m E hE args h u => by unfold S37; rw [T37_0 hE]; kernel_rfl
/- 38 -/
def c38_e : XC := (.sO [.mv p2 (cb false) .b] (.sO [.mv p4 q0 .v, .P p5 (.nilck q4) .v, .fa p6 2 q5, .ld p7 q6 .s, .bn p8 .eql q7 (.c (.str [112, 117, 116, 119])) .b, .mv p9 q8 .b, .ge p9 (XL.of [.G p9 false p10 (.mov q0) .v, .G p9 false p11 (.nilck q10) .v, .G p9 false p12 (.faddr 2 q11) .v, .o ⟨(some p13), (.l (.cell q12)), (some (p9, false)), []⟩ .s, .G p9 false p14 (.bin .eql q13 (.c (.str [112, 117, 116, 100]))) .b, .P p15 (.pick q9 (cb true) q14) .b]) p15 .b, .mv p16 q15 .b, .ge p16 (XL.of [.G p16 false p17 (.mov q0) .v, .G p16 false p18 (.nilck q17) .v, .G p16 false p19 (.faddr 2 q18) .v, .o ⟨(some p20), (.l (.cell q19)), (some (p16, false)), []⟩ .s, .G p16 false p21 (.bin .eql q20 (.c (.str [103, 101, 116, 119]))) .b, .P p22 (.pick q16 (cb true) q21) .b]) p22 .b, .mv p3 q22 .b] (.sO [.mv p23 q0 .v, .P p24 (.nilck q23) .v, .fa p25 0 q24, .ld p26 q25 tI, .bn p27 .eql q26 (ci 3) .b, .mv p28 q27 .b, .ge p28 (XL.of [.G p28 false p29 (.mov q0) .v, .G p28 false p30 (.nilck q29) .v, .G p28 false p31 (.faddr 0 q30) .v, .o ⟨(some p32), (.l (.cell q31)), (some (p28, false)), []⟩ tI, .G p28 false p33 (.bin .eql q32 (ci 7)) .b, .P p34 (.pick q28 (cb true) q33) .b]) p34 .b, .mv p35 q34 .b, .ge p35 (XL.of [.G p35 true p36 (.mov q0) .v, .G p35 true p37 (.nilck q36) .v, .G p35 true p38 (.faddr 2 q37) .v, .o ⟨(some p39), (.l (.cell q38)), (some (p35, true)), []⟩ .s, .G p35 true p40 (.bin .neq q39 (.c (.str []))) .b, .P p41 (.pick q35 q40 (cb false)) .b]) p41 .b, .mv p42 q41 .b, .ge p42 (XL.of [.G p42 true p43 (.mov q0) .v, .G p42 true p44 (.nilck q43) .v, .G p42 true p45 (.faddr 2 q44) .v, .o ⟨(some p46), (.l (.cell q45)), (some (p42, true)), []⟩ .s, .G p42 true p47 (.idxs q46 (ci 0)) tC, .G p42 true p48 (.bin .neq q47 (.c (.int .u8 (.ofNat 36)))) .b, .P p49 (.pick q42 q48 (cb false)) .b]) p49 .b, .mv p50 q49 .b, .ge p50 (XL.of [.G p50 true p51 (.mov q3) .b, .G p50 true p52 (.un .not q51) .b, .P p53 (.pick q50 q52 (cb false)) .b]) p53 .b, .mv p2 q53 .b] (.s .ret))))
def x38 : XFn := ⟨[.v], false, [(.tmp p2)], c38_e⟩
def e38_0 (k t0 h) := kN k [(p0, t0)] h
def S38_0 (D : CallD) (m : Nat) (t0 : AV) (h : HP) : Res2 :=
 nilckC t0 fun t5 =>
 faC 2 t5 fun t6 =>
 ldS t6 h fun t7 =>
 let t8 := eqL t7 ([112, 117, 116, 119] : LN)
 obB (brV t8 (
 some (vB true)) (
 nilckCV t0 fun t11 =>
 faCV 2 t11 fun t12 =>
 ldSV t12 h fun t13 =>
 let t14 := eqL t13 ([112, 117, 116, 100] : LN)
 some (vB t14))) fun t15 =>
 obB (brV t15 (
 some (vB true)) (
 nilckCV t0 fun t18 =>
 faCV 2 t18 fun t19 =>
 ldSV t19 h fun t20 =>
 let t21 := eqL t20 ([103, 101, 116, 119] : LN)
 some (vB t21))) fun t22 =>
 nilckC t0 fun t24 =>
 faC 0 t24 fun t25 =>
 ldI t25 h fun t26 =>
 let t27 := eqQ t26 (Int.ofNat 3)
 obB (brV t27 (
 some (vB true)) (
 nilckCV t0 fun t30 =>
 faCV 0 t30 fun t31 =>
 ldIV t31 h fun t32 =>
 let t33 := eqQ t32 (Int.ofNat 7)
 some (vB t33))) fun t34 =>
 obB (brV t34 (
 nilckCV t0 fun t37 =>
 faCV 2 t37 fun t38 =>
 ldSV t38 h fun t39 =>
 let t40 := !(eqL t39 ([] : LN))
 some (vB t40)) (
 some (vB false))) fun t41 =>
 obB (brV t41 (
 nilckCV t0 fun t44 =>
 faCV 2 t44 fun t45 =>
 ldSV t45 h fun t46 =>
 ixCV (vS t46) (vI (Int.ofNat 0)) fun vt47 => asIV .u8 vt47 fun t47 =>
 let t48 := notQ (eqQ t47 (Int.ofNat 36))
 some (vB t48)) (
 some (vB false))) fun t49 =>
 obB (brV t49 (
 let t52 := !t22
 some (vB t52)) (
 some (vB false))) fun t53 =>
 some (.ret (vB t53) h, .no)
def S38 : SFn := fun D m args h u => nou u <| popV args fun t0 args => endA args (S38_0 D m t0 h)
theorem T38_0 (hE : FX x38 D m E) : S38_0 D m = e38_0 (E c38_e []) := by unfold S38_0; rw [hE c38_e]; kernel_rfl
theorem X38 : XTie S38 x38 := X_of fun D m E hE args h u => by unfold S38; rw [T38_0 hE]; kernel_rfl
/- 40 -/
def c40_e : XC := (.sO [.al p1 (.box q0), .mv p2 (.c .nilf) .v] (.sO [.P p3 (.mkfn 77 [] [q1]) .v, .mv p2 q3 .v] (.s .ret)))
def x40 : XFn := ⟨[.v], false, [(.tmp p2)], c40_e⟩
def e40_0 (k t0 h) := kN k [(p0, t0)] h
def S40_0 (D : CallD) (m : Nat) (t0 : AV) (h : HP) : Res2 :=
 let t1 := AV.ptr (HP.nxQ h) 0
 let h1 := HP.newQ h (.cells true (AV.cells t0))
 let t3 := (AV.fn 77 [] [t1])
 some (.ret t3 h1, .no)
def S40 : SFn := fun D m args h u => nou u <| popV args fun t0 args => endA args (S40_0 D m t0 h)
theorem T40_0 (hE : FX x40 D m E) : S40_0 D m = e40_0 (E c40_e []) := by unfold S40_0; rw [hE c40_e]; kernel_rfl
theorem X40 : XTie S40 x40 := X_of fun D m E hE args h u => by unfold S40; rw [T40_0 hE]; kernel_rfl
/- 41 -/
def c41_e : XC := (.sO [.mv p4 (.c (.str [])) .s] (.seq (.seq (.oX [.ld p5 q1 .v, .mv p6 q0 .s, .L p7 (.look .str (.bool false) false q5 q6) .b]) (.cond q7 (.seq (.oX [.ld p8 q2 tI, .cl p9 42 [q8] .s, .bn p10 .add q9 (.c (.str [46])) .s, .mv p11 q0 .s, .bn p12 .add q10 q11 .s, .mv p4 q12 .s]) .ret) .skip)) (.sO [.mv p13 q0 .s, .mv p4 q13 .s] (.s .ret))))
def x41 : XFn := ⟨[.s, .v, .v], false, [(.tmp p4)], c41_e⟩
def e41_0 (k t0 t1 t2 h) := kN k [(p0, (vS t0)), (p1, t1), (p2, t2)] h
def S41_0 (D : CallD) (m : Nat) (t0 : LN) (t1 t2 : AV) (h : HP) : Res2 :=
 cellC t1 h fun t5 =>
 obB (evL (.look .str (.bool false) false (.c t5) (.c (vS t0))) .leaf h) fun t7 =>
 br t7 (
 ldI t2 h fun t8 =>
 cal D 42 [(vI t8)] h fun t9 h1 =>
 asS t9 fun t9a =>
 obS (strBin .add t9a ([46] : LN)) fun t10 =>
 obS (strBin .add t10 t0) fun t12 =>
 some (.ret (vS t12) h1, .no)) (
 some (.ret (vS t0) h, .no))
def S41 : SFn := fun D m args h u => nou u <| popS args fun t0 args => popV args fun t1 args => popV args fun t2 args => endA args (S41_0 D m t0 t1 t2 h)
theorem T41_0 (hE : FX x41 D m E) : S41_0 D m = e41_0 (E c41_e []) := by unfold S41_0; rw [hE c41_e]; kernel_rfl
theorem X41 : XTie S41 x41 := X_of fun D m E hE args h u => by unfold S41; rw [T41_0 hE]; kernel_rfl
/- 42 -/
def c42_e : XC := (.sO [.mv p2 (.c (.str [])) .s] (.sO [.mv p3 q0 tI, .cl p4 78 [q3] .s, .mv p2 q4 .s] (.s .ret)))
def x42 : XFn := ⟨[tI], false, [(.tmp p2)], c42_e⟩
def e42_0 (k t0 h) := kN k [(p0, (vI t0))] h
def S42_0 (D : CallD) (m : Nat) (t0 : Int) (h : HP) : Res2 :=
 cal D 78 [(vI t0)] h fun t4 h1 =>
 asS t4 fun t4a =>
 some (.ret (vS t4a) h1, .no)
def S42 : SFn := fun D m args h u => nou u <| popI .i64 args fun t0 args => endA args (S42_0 D m t0 h)
theorem T42_0 (hE : FX x42 D m E) : S42_0 D m = e42_0 (E c42_e []) := by unfold S42_0; rw [hE c42_e]; kernel_rfl
theorem X42 : XTie S42 x42 := X_of fun D m E hE args h u => by unfold S42; rw [T42_0 hE]; kernel_rfl
/- 43 -/
def c43_e : XC := (.sO [.mv p3 q0 .v, .cl p4 38 [q3] .b] (.cond q4 (.s (.ops true (XL.of [.mv p5 q0 .v, .ld p6 q1 .v, .mv p7 q0 .v, .P p8 (.nilck q7) .v, .fa p9 2 q8, .ld p10 q9 .s, .o ⟨(some p11), (.call (.val q6) [q10]), none, []⟩ .s, .P p12 (.nilck q5) .v, .fa p13 2 q12, .st q13 q11]))) (.s .skip)))
def x43 : XFn := ⟨[.v, .v], false, [], c43_e⟩
def e43_0 (k t0 t1 h) := kN k [(p0, t0), (p1, t1)] h
def S43_0 (D : CallD) (m : Nat) (t0 t1 : AV) (h : HP) : Res2 :=
 cal D 38 [t0] h fun t4 h1 =>
 asB t4 fun t4a =>
 br t4a (
 cellC t1 h1 fun t6 =>
 nilckC t0 fun t8 =>
 faC 2 t8 fun t9 =>
 ldS t9 h1 fun t10 =>
 obQ (target .leaf (.val (.c t6)) [(.c (vS t10))]) fun qh2 =>
 calC D qh2.1 qh2.2 h1 (fun t11 h2 =>
 asS t11 fun t11a =>
 nilckC t0 fun t12 =>
 faC 2 t12 fun t13 =>
 stoC t13 (vS t11a) h2 fun h3 =>
 some (.ret (.tup []) h3, .no)) (panN)) (
 some (.ret (.tup []) h1, .no))
def S43 : SFn := fun D m args h u => nou u <| popV args fun t0 args => popV args fun t1 args => endA args (S43_0 D m t0 t1 h)
theorem T43_0 (hE : FX x43 D m E) : S43_0 D m = e43_0 (E c43_e []) := by unfold S43_0; rw [hE c43_e]; kernel_rfl
theorem X43 : XTie S43 x43 := X_of fun D m E hE args h u => by unfold S43; rw [T43_0 hE]; kernel_rfl
/- 52 -/
def v52_0 : List Pos := [p1]
def c52_0 : XC := (.sO [.mv p75 q1 tI, .mv p4 q75 tI, .mv p5 (cb true) .b] (.s .ret))
def v52_2 : List Pos := [p0, p1]
def c52_2b : XC := (.seq (.seq (.oX [.mv p38 q1 tI, .mv p39 q0 .s, .P p40 (.lens q39) tI, .bn p41 .lss q38 q40 .b, .mv p42 q41 .b, .ge p42 (XL.of [.G p42 true p43 (.mov q0) .s, .G p42 true p44 (.mov q1) tI, .G p42 true p45 (.idxs q43 q44) tC, .G p42 true p46 (.bin .neq q45 (.c (.int .u8 (.ofNat 10)))) .b, .P p47 (.pick q42 q46 (cb false)) .b]) p47 .b]) (.cond q47 .skip (.exit 2))) (.block 3 (.s (.oX [.mv p48 q1 tI, .bn p49 .add q48 (ci 1) tI, .mv p1 q49 tI]))))
def v52_3 : List Pos := [p0, p1, p6]
def c52_3 : XC := (.seq (.seq (.oX [.mv p67 q6 tI, .mv p68 q0 .s, .P p69 (.lens q68) tI, .bn p70 .geq q67 q69 .b]) (.cond q70 (.seq (.oX [.mv p71 q1 tI, .mv p4 q71 tI, .mv p5 (cb false) .b]) .ret) .skip)) (.s (.oX [.mv p72 q6 tI, .bn p73 .add q72 (ci 2) tI, .mv p1 q73 tI])))
def v52_5 : List Pos := [p0, p1, p6]
def c52_5 : XC := (.block 5 (.s (.oX [.mv p65 q6 tI, .bn p66 .add q65 (ci 1) tI, .mv p6 q66 tI])))
def c52_7 : XC := (.cond q64 (.s .skip) (.s (.exit 4)))
def l52_6 : XL := (XL.of [])
def v52_4 : List Pos := [p0, p1, p6]
def c52_4b : XC := (.sj v52_5 (.opq false (XL.pre [.mv p55 q6 tI, .mv p56 q0 .s, .P p57 (.lens q56) tI, .bn p58 .lss q55 q57 .b, .mv p59 q58 .b, .sp p59, .G p59 true p60 (.mov q0) .s, .G p59 true p61 (.mov q6) tI, .o ⟨(some p62), (.call (.fn 91) [q60, q61, (.c (.str [42, 47]))]), (some (p59, true)), []⟩ .b, .G p59 true p63 (.un .not q62) .b, .P p64 (.pick q59 q63 (cb false)) .b, .jn p59 [p0, p1, p6, p64]] l52_6) c52_7) c52_5)
def v52_1 : List Pos := [p0, p1]
def c52_1b : XC := (.seq (.seq (.oX [.mv p7 q1 tI, .mv p8 q0 .s, .P p9 (.lens q8) tI, .bn p10 .lss q7 q9 .b]) (.cond q10 .skip (.exit 0))) (.block 1 (.sO [.mv p11 q0 .s, .mv p12 q1 tI, .P p13 (.idxs q11 q12) tC, .bn p14 .eql q13 (.c (.int .u8 (.ofNat 32))) .b, .mv p15 q14 .b, .ge p15 (XL.of [.G p15 false p16 (.mov q0) .s, .G p15 false p17 (.mov q1) tI, .G p15 false p18 (.idxs q16 q17) tC, .G p15 false p19 (.bin .eql q18 (.c (.int .u8 (.ofNat 9)))) .b, .P p20 (.pick q15 (cb true) q19) .b]) p20 .b, .mv p21 q20 .b, .ge p21 (XL.of [.G p21 false p22 (.mov q0) .s, .G p21 false p23 (.mov q1) tI, .G p21 false p24 (.idxs q22 q23) tC, .G p21 false p25 (.bin .eql q24 (.c (.int .u8 (.ofNat 10)))) .b, .P p26 (.pick q21 (cb true) q25) .b]) p26 .b, .mv p27 q26 .b, .ge p27 (XL.of [.G p27 false p28 (.mov q0) .s, .G p27 false p29 (.mov q1) tI, .G p27 false p30 (.idxs q28 q29) tC, .G p27 false p31 (.bin .eql q30 (.c (.int .u8 (.ofNat 13)))) .b, .P p32 (.pick q27 (cb true) q31) .b]) p32 .b] (.cond q32 (.s (.oX [.mv p33 q1 tI, .bn p34 .add q33 (ci 1) tI, .mv p1 q34 tI])) (.sO [.mv p35 q0 .s, .mv p36 q1 tI, .cl p37 91 [q35, q36, (.c (.str [47, 47]))] .b] (.cond q37 (.block 2 (.loop v52_2 c52_2b)) (.sO [.mv p50 q0 .s, .mv p51 q1 tI, .cl p52 91 [q50, q51, (.c (.str [47, 42]))] .b] (.cond q52 (.sO [.mv p53 q1 tI, .bn p54 .add q53 (ci 2) tI, .mv p6 q54 tI] (.sj v52_3 (.block 4 (.loop v52_4 c52_4b)) c52_3)) (.sO [.mv p74 q1 tI, .mv p4 q74 tI, .mv p5 (cb true) .b] (.s .ret))))))))))
def c52_e : XC := (.sO [.mv p4 (ci 0) tI, .mv p5 (cb false) .b] (.sj v52_0 (.block 0 (.loop v52_1 c52_1b)) c52_0))
def x52 : XFn := ⟨[.s, tI], false, [(.tmp p4), (.tmp p5)], c52_e⟩
def e52_0 (k t1 h) := kN k [(p1, (vI t1))] h
def S52_0 (D : CallD) (m : Nat) (t1 : Int) (h : HP) : Res2 :=
 some (.ret (.tup [(vI t1), (vB true)]) h, .no)
def e52_2 (k t0 t1 h) := kN k [(p0, (vS t0)), (p1, (vI t1))] h
def S52_2b (D : CallD) (m : Nat) (g2 : LN → Int → HP → Res2) (g1 : LN → Int → HP → Res2) (t0 : LN) (t1 : Int) (h : HP) : Res2 :=
 let t40 := Int.ofNat (lenL t0)
 let t41 := ltQ t1 t40
 obB (brV t41 (
 ixCV (vS t0) (vI t1) fun vt45 => asIV .u8 vt45 fun t45 =>
 let t46 := notQ (eqQ t45 (Int.ofNat 10))
 some (vB t46)) (
 some (vB false))) fun t47 =>
 br t47 (
 let t49 := wrQ .i64 (addQ t1 (Int.ofNat 1))
 g2 t0 t49 h) (
 g1 t0 t1 h)
def S52_2 (D : CallD) (m : Nat) (g1 : LN → Int → HP → Res2) : LN → Int → HP → Res2 := nrec (fun _ _ _ => none) (fun _ g => S52_2b D m g g1) m
def e52_3 (k t0 t1 t6 h) := kN k [(p0, (vS t0)), (p1, (vI t1)), (p6, (vI t6))] h
def S52_3 (D : CallD) (m : Nat) (g1 : LN → Int → HP → Res2) (t0 : LN) (t1 t6 : Int) (h : HP) : Res2 :=
 let t69 := Int.ofNat (lenL t0)
 let t70 := leQ t69 t6
 br t70 (
 some (.ret (.tup [(vI t1), (vB false)]) h, .no)) (
 let t73 := wrQ .i64 (addQ t6 (Int.ofNat 2))
 g1 t0 t73 h)
def e52_5 (k t0 t1 t6 h) := kN k [(p0, (vS t0)), (p1, (vI t1)), (p6, (vI t6))] h
def S52_5 (D : CallD) (m : Nat) (g4 : LN → Int → Int → HP → Res2) (g1 : LN → Int → HP → Res2) (t0 : LN) (t1 t6 : Int) (h : HP) : Res2 :=
 let t66 := wrQ .i64 (addQ t6 (Int.ofNat 1))
 g4 t0 t1 t66 h
def e52_6 (k t0 t1 t6 t64 h) := kN k [(p0, (vS t0)), (p1, (vI t1)), (p6, (vI t6)), (p64, (vB t64))] h
def S52_6 (D : CallD) (m : Nat) (g4 : LN → Int → Int → HP → Res2) (g1 : LN → Int → HP → Res2) (t0 : LN) (t1 t6 : Int) (t64 : Bool) (h : HP) : Res2 :=
 br t64 (
 S52_5 D m g4 g1 t0 t1 t6 h) (
 S52_3 D m g1 t0 t1 t6 h)
def e52_4 (k t0 t1 t6 h) := kN k [(p0, (vS t0)), (p1, (vI t1)), (p6, (vI t6))] h
def S52_4b (D : CallD) (m : Nat) (g4 : LN → Int → Int → HP → Res2) (g1 : LN → Int → HP → Res2) (t0 : LN) (t1 t6 : Int) (h : HP) : Res2 :=
 let t57 := Int.ofNat (lenL t0)
 let t58 := ltQ t6 t57
 br t58 (
 cal D 91 [(vS t0), (vI t6), (vS ([42, 47] : LN))] h fun t62 h11 =>
 asB t62 fun t62a =>
 let t63 := !t62a
 S52_6 D m g4 g1 t0 t1 t6 t63 h11) (
 S52_6 D m g4 g1 t0 t1 t6 false h)
def S52_4 (D : CallD) (m : Nat) (g1 : LN → Int → HP → Res2) : LN → Int → Int → HP → Res2 := nrec (fun _ _ _ _ => none) (fun _ g => S52_4b D m g g1) m
def e52_1 (k t0 t1 h) := kN k [(p0, (vS t0)), (p1, (vI t1))] h
def S52_1b (D : CallD) (m : Nat) (g1 : LN → Int → HP → Res2) (t0 : LN) (t1 : Int) (h : HP) : Res2 :=
 let t9 := Int.ofNat (lenL t0)
 let t10 := ltQ t1 t9
 br t10 (
 ixC (vS t0) (vI t1) fun vt13 => asI .u8 vt13 fun t13 =>
 let t14 := eqQ t13 (Int.ofNat 32)
 obB (brV t14 (
 some (vB true)) (
 ixCV (vS t0) (vI t1) fun vt18 => asIV .u8 vt18 fun t18 =>
 let t19 := eqQ t18 (Int.ofNat 9)
 some (vB t19))) fun t20 =>
 obB (brV t20 (
 some (vB true)) (
 ixCV (vS t0) (vI t1) fun vt24 => asIV .u8 vt24 fun t24 =>
 let t25 := eqQ t24 (Int.ofNat 10)
 some (vB t25))) fun t26 =>
 obB (brV t26 (
 some (vB true)) (
 ixCV (vS t0) (vI t1) fun vt30 => asIV .u8 vt30 fun t30 =>
 let t31 := eqQ t30 (Int.ofNat 13)
 some (vB t31))) fun t32 =>
 br t32 (
 let t34 := wrQ .i64 (addQ t1 (Int.ofNat 1))
 g1 t0 t34 h) (
 cal D 91 [(vS t0), (vI t1), (vS ([47, 47] : LN))] h fun t37 h9 =>
 asB t37 fun t37a =>
 br t37a (
 S52_2 D m g1 t0 t1 h9) (
 cal D 91 [(vS t0), (vI t1), (vS ([47, 42] : LN))] h9 fun t52 h10 =>
 asB t52 fun t52a =>
 br t52a (
 let t54 := wrQ .i64 (addQ t1 (Int.ofNat 2))
 S52_4 D m g1 t0 t1 t54 h10) (
 some (.ret (.tup [(vI t1), (vB true)]) h10, .no))))) (
 S52_0 D m t1 h)
def S52_1 (D : CallD) (m : Nat) : LN → Int → HP → Res2 := nrec (fun _ _ _ => none) (fun _ g => S52_1b D m g) m
def e52_8 (k t0 t1 h) := kN k [(p0, (vS t0)), (p1, (vI t1))] h
def S52_8 (D : CallD) (m : Nat) (t0 : LN) (t1 : Int) (h : HP) : Res2 :=
 S52_1 D m t0 t1 h
def S52 : SFn := fun D m args h u => nou u <| popS args fun t0 args => popI .i64 args fun t1 args => endA args (S52_8 D m t0 t1 h)
theorem T52_0 (hE : FX x52 D m E) : S52_0 D m = e52_0 (E c52_0 []) := by unfold S52_0; rw [hE c52_0]; kernel_rfl
theorem T52_2b (hE : FX x52 D m E) (G2) (G1) : S52_2b D m (e52_2 G2) (e52_1 G1) = e52_2 (E c52_2b [.lp v52_2 G2, .blk 2, .blk 1, .lp v52_1 G1, .blk 0, .sj v52_0 c52_0]) := by unfold S52_2b; rw [hE c52_2b]; kernel_rfl
theorem T52_2 (hE : FX x52 D m E) (G1) : S52_2 D m (e52_1 G1) = e52_2 (nrec (fun _ => none) (fun _ G2 st => E c52_2b [.lp v52_2 G2, .blk 2, .blk 1, .lp v52_1 G1, .blk 0, .sj v52_0 c52_0] st) m) :=
  nrec_emb e52_2 (fun _ _ _ => none) (fun g => S52_2b D m g (e52_1 G1)) (fun G2 st => E c52_2b [.lp v52_2 G2, .blk 2, .blk 1, .lp v52_1 G1, .blk 0, .sj v52_0 c52_0] st) rfl (fun g => T52_2b hE g G1) m
theorem T52_3 (hE : FX x52 D m E) (G1) : S52_3 D m (e52_1 G1) = e52_3 (E c52_3 [.blk 1, .lp v52_1 G1, .blk 0, .sj v52_0 c52_0]) := by unfold S52_3; rw [hE c52_3]; kernel_rfl
theorem T52_5 (hE : FX x52 D m E) (G4) (G1) : S52_5 D m (e52_4 G4) (e52_1 G1) = e52_5 (E c52_5 [.lp v52_4 G4, .blk 4, .sj v52_3 c52_3, .blk 1, .lp v52_1 G1, .blk 0, .sj v52_0 c52_0]) := by unfold S52_5; rw [hE c52_5]; kernel_rfl
theorem T52_6 (hE : FX x52 D m E) (G4) (G1) : S52_6 D m (e52_4 G4) (e52_1 G1) = e52_6 (E (.opq false l52_6 c52_7) [.sj v52_5 c52_5, .lp v52_4 G4, .blk 4, .sj v52_3 c52_3, .blk 1, .lp v52_1 G1, .blk 0, .sj v52_0 c52_0]) := by unfold S52_6; rw [T52_5 hE G4 G1, T52_3 hE G1, hE (.opq false l52_6 c52_7)]; kernel_rfl
theorem T52_4b (hE : FX x52 D m E) (G4) (G1) : S52_4b D m (e52_4 G4) (e52_1 G1) = e52_4 (E c52_4b [.lp v52_4 G4, .blk 4, .sj v52_3 c52_3, .blk 1, .lp v52_1 G1, .blk 0, .sj v52_0 c52_0]) := by unfold S52_4b; rw [T52_6 hE G4 G1, hE c52_4b]; kernel_rfl
theorem T52_4 (hE : FX x52 D m E) (G1) : S52_4 D m (e52_1 G1) = e52_4 (nrec (fun _ => none) (fun _ G4 st => E c52_4b [.lp v52_4 G4, .blk 4, .sj v52_3 c52_3, .blk 1, .lp v52_1 G1, .blk 0, .sj v52_0 c52_0] st) m) :=
  nrec_emb e52_4 (fun _ _ _ _ => none) (fun g => S52_4b D m g (e52_1 G1)) (fun G4 st => E c52_4b [.lp v52_4 G4, .blk 4, .sj v52_3 c52_3, .blk 1, .lp v52_1 G1, .blk 0, .sj v52_0 c52_0] st) rfl (fun g => T52_4b hE g G1) m
theorem T52_1b (hE : FX x52 D m E) (G1) : S52_1b D m (e52_1 G1) = e52_1 (E c52_1b [.lp v52_1 G1, .blk 0, .sj v52_0 c52_0]) := by unfold S52_1b; rw [T52_2 hE G1, T52_4 hE G1, T52_0 hE, hE c52_1b]; kernel_rfl
theorem T52_1 (hE : FX x52 D m E) : S52_1 D m = e52_1 (nrec (fun _ => none) (fun _ G1 st => E c52_1b [.lp v52_1 G1, .blk 0, .sj v52_0 c52_0] st) m) :=
  nrec_emb e52_1 (fun _ _ _ => none) (fun g => S52_1b D m g) (fun G1 st => E c52_1b [.lp v52_1 G1, .blk 0, .sj v52_0 c52_0] st) rfl (fun g => T52_1b hE g) m
theorem T52_8 (hE : FX x52 D m E) : S52_8 D m = e52_8 (E c52_e []) := by unfold S52_8; rw [T52_1 hE, hE c52_e]; kernel_rfl
theorem X52 : XTie S52 x52 := X_of fun D m E hE args h u => by unfold S52; rw [T52_8 hE]; kernel_rfl
/- 53 -/
def v53_1 : List Pos := [p4, p6, p7]
def c53_1 : XC := (.sO [.L p96 (.cells 3 q6) .v, .mv p97 q7 tI, .ss 3 q4 q96, .mv p5 q97 tI] (.s .ret))
def v53_0 : List Pos := [p0, p1, p4, p6, p7]
def c53_0 : XC := (.sj v53_1 (.sO [.mv p89 q7 tI, .bn p90 .gtr q89 (ci 0) .b] (.cond q90 (.s (.oX [.mv p91 q0 .s, .mv p92 q1 tI, .mv p93 q7 tI, .P p94 (.slice .str q91 (some q92) (some q93) none) .s, .fa p95 1 q6, .st q95 q94])) (.s .skip))) c53_1)
def v53_2 : List Pos := [p0, p1, p4, p6, p7]
def c53_2 : XC := (.sO [.fa p37 0 q6, .st q37 (ci 1)] (.sO [.mv p38 q0 .s, .mv p39 q1 tI, .mv p40 q7 tI, .P p41 (.slice .str q38 (some q39) (some q40) none) .s, .cl p42 94 [q41] .b] (.cond q42 (.s (.oX [.fa p43 0 q6, .st q43 (ci 5)])) (.sO [.mv p44 q7 tI, .mv p45 q1 tI, .bn p46 .sub q44 q45 tI, .bn p47 .gtr q46 (ci 40) .b] (.cond q47 (.sO [.L p48 (.cells 3 q6) .v, .ss 3 q4 q48, .mv p5 (ci 0) tI] (.s .ret)) (.s .skip))))))
def v53_4 : List Pos := [p0, p1, p4, p6, p7]
def c53_4 : XC := (.block 1 (.s (.oX [.mv p35 q7 tI, .bn p36 .add q35 (ci 1) tI, .mv p7 q36 tI])))
def c53_7 : XC := (.cond q34 (.s .skip) (.s (.exit 0)))
def l53_6 : XL := (XL.of [])
def l53_5 : XL := (XL.pre [.P p34 (.pick q23 q33 (cb false)) .b, .jn p23 [p0, p1, p4, p6, p7, p34]] l53_6)
def v53_3 : List Pos := [p0, p1, p4, p6, p7]
def c53_3b : XC := (.sj v53_4 (.opq false (XL.pre [.mv p19 q7 tI, .mv p20 q0 .s, .P p21 (.lens q20) tI, .bn p22 .lss q19 q21 .b, .mv p23 q22 .b, .sp p23, .G p23 true p24 (.mov q0) .s, .G p23 true p25 (.mov q7) tI, .G p23 true p26 (.idxs q24 q25) tC, .o ⟨(some p27), (.call (.fn 92) [q26]), (some (p23, true)), []⟩ .b, .G p23 true p28 (.mov q27) .b, .sp p28, .G p28 false p29 (.mov q0) .s, .G p28 false p30 (.mov q7) tI, .G p28 false p31 (.idxs q29 q30) tC, .o ⟨(some p32), (.call (.fn 93) [q31]), (some (p28, false)), []⟩ .b, .G p23 true p33 (.pick q28 (cb true) q32) .b, .jn p28 [p0, p1, p4, p6, p7, p23, p33]] l53_5) c53_7) c53_4)
def v53_9 : List Pos := [p0, p1, p4, p6, p7]
def c53_9 : XC := (.s (.oX [.fa p88 0 q6, .st q88 (ci 4)]))
def v53_11 : List Pos := [p0, p1, p4, p6, p7, p8, p76]
def c53_11 : XC := (.s (.oX [.bn p87 .add q76 (ci 1) tI, .mv p76 q87 tI]))
def v53_10 : List Pos := [p0, p1, p4, p6, p7, p8, p76]
def c53_10b : XC := (.sO [.bn p77 .lss q76 (ci 8) .b] (.seq (.cond q77 .skip (.exit 4)) (.sj v53_11 (.block 5 (.sO [.mv p78 q76 tI, .mv p11 q78 tI] (.sO [.mv p79 q0 .s, .mv p80 q1 tI, .mv p81 q11 tI, .P p82 (.iaddr (.arr 8 1) q8 q81) .v, .ld p83 q82 .s, .cl p84 91 [q79, q80, q83] .b] (.cond q84 (.s (.oX [.mv p85 q1 tI, .bn p86 .add q85 (ci 2) tI, .mv p7 q86 tI])) (.s .skip))))) c53_11)))
def v53_8 : List Pos := [p0, p1, p4, p6, p7, p8]
def c53_8 : XC := (.sj v53_9 (.sO [.mv p76 (ci 0) tI] (.block 4 (.loop v53_10 c53_10b))) c53_9)
def v53_13 : List Pos := [p0, p1, p4, p6, p7, p8, p9, p10]
def c53_13 : XC := (.s (.oX [.mv p65 q10 tI, .bn p66 .add q65 (ci 1) tI, .mv p10 q66 tI]))
def v53_12 : List Pos := [p0, p1, p4, p6, p7, p8, p9, p10]
def c53_12b : XC := (.seq (.seq (.oX [.mv p61 q10 tI, .mv p62 q9 .s, .P p63 (.lens q62) tI, .bn p64 .lss q61 q63 .b]) (.cond q64 .skip (.exit 2))) (.sj v53_13 (.block 3 (.seq (.ops true (XL.of [.mv p67 q9 .s, .mv p68 q10 tI, .P p69 (.idxs q67 q68) tC, .mv p70 q0 .s, .mv p71 q1 tI, .P p72 (.idxs q70 q71) tC, .bn p73 .eql q69 q72 .b])) (.cond q73 (.s (.oX [.mv p74 q1 tI, .bn p75 .add q74 (ci 1) tI, .mv p7 q75 tI])) (.s .skip)))) c53_13))
def c53_e : XC := (.sO [.al p4 (.new [(kI 0), (.str []), (kI 0)]), .mv p5 (ci 0) tI] (.sO [.mv p12 q1 tI, .P p13 (.build [(kI 0), (.str []), (kI 0)] [⟨2, 1, q12⟩]) .v, .al p6 (.new [(kI 0), (.str []), (kI 0)]), .ss 3 q6 q13] (.sO [.mv p7 (ci 0) tI] (.sj v53_0 (.sO [.mv p14 q0 .s, .mv p15 q1 tI, .P p16 (.idxs q14 q15) tC, .cl p17 92 [q16] .b] (.cond q17 (.sO [.mv p18 q1 tI, .mv p7 q18 tI] (.sj v53_2 (.block 0 (.loop v53_3 c53_3b)) c53_2)) (.sO [.mv p49 q0 .s, .mv p50 q1 tI, .P p51 (.idxs q49 q50) tC, .cl p52 93 [q51] .b] (.cond q52 (.s (.oX [.mv p54 q0 .s, .mv p55 q1 tI, .cl p56 95 [q54, q55] .v, .mv p53 q56 .v, .P p57 (.ext q53 0) tI, .P p58 (.ext q53 1) tI, .fa p59 0 q6, .st q59 q57, .mv p7 q58 tI])) (.sO [.P p60 (.build [(.str []), (.str []), (.str []), (.str []), (.str []), (.str []), (.str []), (.str [])] [⟨0, 1, (.c (.str [60, 60]))⟩, ⟨1, 1, (.c (.str [62, 62]))⟩, ⟨2, 1, (.c (.str [60, 61]))⟩, ⟨3, 1, (.c (.str [62, 61]))⟩, ⟨4, 1, (.c (.str [61, 61]))⟩, ⟨5, 1, (.c (.str [33, 61]))⟩, ⟨6, 1, (.c (.str [38, 38]))⟩, ⟨7, 1, (.c (.str [124, 124]))⟩]) .v, .al p8 (.new [(.str []), (.str []), (.str []), (.str []), (.str []), (.str []), (.str []), (.str [])]), .ss 8 q8 q60] (.sO [.mv p9 (.c (.str [43, 45, 42, 47, 37, 38, 124, 94, 126, 33, 60, 62, 61, 40, 41, 123, 125, 91, 93, 59, 44])) .s] (.sj v53_8 (.sO [.mv p10 (ci 0) tI] (.block 2 (.loop v53_12 c53_12b))) c53_8))))))) c53_0))))
def x53 : XFn := ⟨[.s, tI], false, [(.cells 3 p4), (.tmp p5)], c53_e⟩
def e53_1 (k t4 t6 t7 h) := kN k [(p4, t4), (p6, t6), (p7, (vI t7))] h
def S53_1 (D : CallD) (m : Nat) (t4 t6 : AV) (t7 : Int) (h : HP) : Res2 :=
 cellsC 3 t6 h fun t96 =>
 stsC 3 t4 t96 h fun h18 =>
 cellsC 3 t4 h18 fun t4a =>
 some (.ret (.tup [t4a, (vI t7)]) h18, .no)
def e53_0 (k t0 t1 t4 t6 t7 h) := kN k [(p0, (vS t0)), (p1, (vI t1)), (p4, t4), (p6, t6), (p7, (vI t7))] h
def S53_0 (D : CallD) (m : Nat) (t0 : LN) (t1 : Int) (t4 t6 : AV) (t7 : Int) (h : HP) : Res2 :=
 let t90 := ltQ (Int.ofNat 0) t7
 br t90 (
 slC (vS t0) (some (vI t1)) (some (vI t7)) fun vt94 => asS vt94 fun t94 =>
 faC 1 t6 fun t95 =>
 stoC t95 (vS t94) h fun h19 =>
 S53_1 D m t4 t6 t7 h19) (
 S53_1 D m t4 t6 t7 h)
def e53_2 (k t0 t1 t4 t6 t7 h) := kN k [(p0, (vS t0)), (p1, (vI t1)), (p4, t4), (p6, t6), (p7, (vI t7))] h
def S53_2 (D : CallD) (m : Nat) (t0 : LN) (t1 : Int) (t4 t6 : AV) (t7 : Int) (h : HP) : Res2 :=
 faC 0 t6 fun t37 =>
 stoC t37 (vI (Int.ofNat 1)) h fun h21 =>
 slC (vS t0) (some (vI t1)) (some (vI t7)) fun vt41 => asS vt41 fun t41 =>
 cal D 94 [(vS t41)] h21 fun t42 h22 =>
 asB t42 fun t42a =>
 br t42a (
 faC 0 t6 fun t43 =>
 stoC t43 (vI (Int.ofNat 5)) h22 fun h23 =>
 S53_0 D m t0 t1 t4 t6 t7 h23) (
 let t46 := wrQ .i64 (t7 - t1)
 let t47 := ltQ (Int.ofNat 40) t46
 br t47 (
 cellsC 3 t6 h22 fun t48 =>
 stsC 3 t4 t48 h22 fun h24 =>
 cellsC 3 t4 h24 fun t4a =>
 some (.ret (.tup [t4a, (vI (Int.ofNat 0))]) h24, .no)) (
 S53_0 D m t0 t1 t4 t6 t7 h22))
def e53_4 (k t0 t1 t4 t6 t7 h) := kN k [(p0, (vS t0)), (p1, (vI t1)), (p4, t4), (p6, t6), (p7, (vI t7))] h
def S53_4 (D : CallD) (m : Nat) (g3 : LN → Int → AV → AV → Int → HP → Res2) (t0 : LN) (t1 : Int) (t4 t6 : AV) (t7 : Int) (h : HP) : Res2 :=
 let t36 := wrQ .i64 (addQ t7 (Int.ofNat 1))
 g3 t0 t1 t4 t6 t36 h
def e53_6 (k t0 t1 t4 t6 t7 t34 h) := kN k [(p0, (vS t0)), (p1, (vI t1)), (p4, t4), (p6, t6), (p7, (vI t7)), (p34, (vB t34))] h
def S53_6 (D : CallD) (m : Nat) (g3 : LN → Int → AV → AV → Int → HP → Res2) (t0 : LN) (t1 : Int) (t4 t6 : AV) (t7 : Int) (t34 : Bool) (h : HP) : Res2 :=
 br t34 (
 S53_4 D m g3 t0 t1 t4 t6 t7 h) (
 S53_2 D m t0 t1 t4 t6 t7 h)
def e53_5 (k t0 t1 t4 t6 t7 t23 t33 h) := kN k [(p0, (vS t0)), (p1, (vI t1)), (p4, t4), (p6, t6), (p7, (vI t7)), (p23, (vB t23)), (p33, (vB t33))] h
def S53_5 (D : CallD) (m : Nat) (g3 : LN → Int → AV → AV → Int → HP → Res2) (t0 : LN) (t1 : Int) (t4 t6 : AV) (t7 : Int) (t23 t33 : Bool) (h : HP) : Res2 :=
 obB (brV t23 (some (vB t33)) (some (vB false))) fun t34 =>
 S53_6 D m g3 t0 t1 t4 t6 t7 t34 h
def e53_3 (k t0 t1 t4 t6 t7 h) := kN k [(p0, (vS t0)), (p1, (vI t1)), (p4, t4), (p6, t6), (p7, (vI t7))] h
def S53_3b (D : CallD) (m : Nat) (g3 : LN → Int → AV → AV → Int → HP → Res2) (t0 : LN) (t1 : Int) (t4 t6 : AV) (t7 : Int) (h : HP) : Res2 :=
 let t21 := Int.ofNat (lenL t0)
 let t22 := ltQ t7 t21
 br t22 (
 ixC (vS t0) (vI t7) fun vt26 => asI .u8 vt26 fun t26 =>
 cal D 92 [(vC t26)] h fun t27 h25 =>
 asB t27 fun t27a =>
 br t27a (
 S53_5 D m g3 t0 t1 t4 t6 t7 true true h25) (
 ixC (vS t0) (vI t7) fun vt31 => asI .u8 vt31 fun t31 =>
 cal D 93 [(vC t31)] h25 fun t32 h26 =>
 asB t32 fun t32a =>
 S53_5 D m g3 t0 t1 t4 t6 t7 true t32a h26)) (
 S53_6 D m g3 t0 t1 t4 t6 t7 false h)
def S53_3 (D : CallD) (m : Nat) : LN → Int → AV → AV → Int → HP → Res2 := nrec (fun _ _ _ _ _ _ => none) (fun _ g => S53_3b D m g) m
def e53_9 (k t0 t1 t4 t6 t7 h) := kN k [(p0, (vS t0)), (p1, (vI t1)), (p4, t4), (p6, t6), (p7, (vI t7))] h
def S53_9 (D : CallD) (m : Nat) (t0 : LN) (t1 : Int) (t4 t6 : AV) (t7 : Int) (h : HP) : Res2 :=
 faC 0 t6 fun t88 =>
 stoC t88 (vI (Int.ofNat 4)) h fun h32 =>
 S53_0 D m t0 t1 t4 t6 t7 h32
def e53_11 (k t0 t1 t4 t6 t7 t8 t76 h) := kN k [(p0, (vS t0)), (p1, (vI t1)), (p4, t4), (p6, t6), (p7, (vI t7)), (p8, t8), (p76, (vI t76))] h
def S53_11 (D : CallD) (m : Nat) (g10 : LN → Int → AV → AV → Int → AV → Int → HP → Res2) (t0 : LN) (t1 : Int) (t4 t6 : AV) (t7 : Int) (t8 : AV) (t76 : Int) (h : HP) : Res2 :=
 let t87 := wrQ .i64 (addQ t76 (Int.ofNat 1))
 g10 t0 t1 t4 t6 t7 t8 t87 h
def e53_10 (k t0 t1 t4 t6 t7 t8 t76 h) := kN k [(p0, (vS t0)), (p1, (vI t1)), (p4, t4), (p6, t6), (p7, (vI t7)), (p8, t8), (p76, (vI t76))] h
def S53_10b (D : CallD) (m : Nat) (g10 : LN → Int → AV → AV → Int → AV → Int → HP → Res2) (t0 : LN) (t1 : Int) (t4 t6 : AV) (t7 : Int) (t8 : AV) (t76 : Int) (h : HP) : Res2 :=
 let t77 := ltQ t76 (Int.ofNat 8)
 br t77 (
 iarC 8 1 t8 (vI t76) fun t82 =>
 ldS t82 h fun t83 =>
 cal D 91 [(vS t0), (vI t1), (vS t83)] h fun t84 h33 =>
 asB t84 fun t84a =>
 br t84a (
 let t86 := wrQ .i64 (addQ t1 (Int.ofNat 2))
 S53_11 D m g10 t0 t1 t4 t6 t86 t8 t76 h33) (
 S53_11 D m g10 t0 t1 t4 t6 t7 t8 t76 h33)) (
 S53_9 D m t0 t1 t4 t6 t7 h)
def S53_10 (D : CallD) (m : Nat) : LN → Int → AV → AV → Int → AV → Int → HP → Res2 := nrec (fun _ _ _ _ _ _ _ _ => none) (fun _ g => S53_10b D m g) m
def e53_8 (k t0 t1 t4 t6 t7 t8 h) := kN k [(p0, (vS t0)), (p1, (vI t1)), (p4, t4), (p6, t6), (p7, (vI t7)), (p8, t8)] h
def S53_8 (D : CallD) (m : Nat) (t0 : LN) (t1 : Int) (t4 t6 : AV) (t7 : Int) (t8 : AV) (h : HP) : Res2 :=
 S53_10 D m t0 t1 t4 t6 t7 t8 (Int.ofNat 0) h
def e53_13 (k t0 t1 t4 t6 t7 t8 t9 t10 h) := kN k [(p0, (vS t0)), (p1, (vI t1)), (p4, t4), (p6, t6), (p7, (vI t7)), (p8, t8), (p9, (vS t9)), (p10, (vI t10))] h
def S53_13 (D : CallD) (m : Nat) (g12 : LN → Int → AV → AV → Int → AV → LN → Int → HP → Res2) (t0 : LN) (t1 : Int) (t4 t6 : AV) (t7 : Int) (t8 : AV) (t9 : LN) (t10 : Int) (h : HP) : Res2 :=
 let t66 := wrQ .i64 (addQ t10 (Int.ofNat 1))
 g12 t0 t1 t4 t6 t7 t8 t9 t66 h
def e53_12 (k t0 t1 t4 t6 t7 t8 t9 t10 h) := kN k [(p0, (vS t0)), (p1, (vI t1)), (p4, t4), (p6, t6), (p7, (vI t7)), (p8, t8), (p9, (vS t9)), (p10, (vI t10))] h
def S53_12b (D : CallD) (m : Nat) (g12 : LN → Int → AV → AV → Int → AV → LN → Int → HP → Res2) (t0 : LN) (t1 : Int) (t4 t6 : AV) (t7 : Int) (t8 : AV) (t9 : LN) (t10 : Int) (h : HP) : Res2 :=
 let t63 := Int.ofNat (lenL t9)
 let t64 := ltQ t10 t63
 br t64 (
 ixC (vS t9) (vI t10) fun vt69 => asI .u8 vt69 fun t69 =>
 ixC (vS t0) (vI t1) fun vt72 => asI .u8 vt72 fun t72 =>
 let t73 := eqQ t69 t72
 br t73 (
 let t75 := wrQ .i64 (addQ t1 (Int.ofNat 1))
 S53_13 D m g12 t0 t1 t4 t6 t75 t8 t9 t10 h) (
 S53_13 D m g12 t0 t1 t4 t6 t7 t8 t9 t10 h)) (
 S53_8 D m t0 t1 t4 t6 t7 t8 h)
def S53_12 (D : CallD) (m : Nat) : LN → Int → AV → AV → Int → AV → LN → Int → HP → Res2 := nrec (fun _ _ _ _ _ _ _ _ _ => none) (fun _ g => S53_12b D m g) m
def e53_14 (k t0 t1 h) := kN k [(p0, (vS t0)), (p1, (vI t1))] h
def S53_14 (D : CallD) (m : Nat) (t0 : LN) (t1 : Int) (h : HP) : Res2 :=
 let t4 := AV.ptr (HP.nxQ h) 0
 let h15 := HP.newQ h (.cells true [(kI 0), (.str []), (kI 0)])
 let t13 := (AV.agg [(vI (Int.ofNat 0)), (vS ([] : LN)), (vI t1)])
 let t6 := AV.ptr (HP.nxQ h15) 0
 let h16 := HP.newQ h15 (.cells true [(kI 0), (.str []), (kI 0)])
 stsC 3 t6 t13 h16 fun h17 =>
 ixC (vS t0) (vI t1) fun vt16 => asI .u8 vt16 fun t16 =>
 cal D 92 [(vC t16)] h17 fun t17 h20 =>
 asB t17 fun t17a =>
 br t17a (
 S53_3 D m t0 t1 t4 t6 t1 h20) (
 ixC (vS t0) (vI t1) fun vt51 => asI .u8 vt51 fun t51 =>
 cal D 93 [(vC t51)] h20 fun t52 h27 =>
 asB t52 fun t52a =>
 br t52a (
 cal D 95 [(vS t0), (vI t1)] h27 fun t56 h28 =>
 extC t56 0 fun vt57 => asI .i64 vt57 fun t57 =>
 extC t56 1 fun vt58 => asI .i64 vt58 fun t58 =>
 let t59 := (AV.ptr (HP.nxQ h15) (Nat.add 0 0))
 stoC t59 (vI t57) h28 fun h29 =>
 S53_0 D m t0 t1 t4 t6 t58 h29) (
 let t60 := (AV.agg [(vS ([60, 60] : LN)), (vS ([62, 62] : LN)), (vS ([60, 61] : LN)), (vS ([62, 61] : LN)), (vS ([61, 61] : LN)), (vS ([33, 61] : LN)), (vS ([38, 38] : LN)), (vS ([124, 124] : LN))])
 let t8 := AV.ptr (HP.nxQ h27) 0
 let h30 := HP.newQ h27 (.cells true [(.str []), (.str []), (.str []), (.str []), (.str []), (.str []), (.str []), (.str [])])
 stsC 8 t8 t60 h30 fun h31 =>
 S53_12 D m t0 t1 t4 t6 (Int.ofNat 0) t8 ([43, 45, 42, 47, 37, 38, 124, 94, 126, 33, 60, 62, 61, 40, 41, 123, 125, 91, 93, 59, 44] : LN) (Int.ofNat 0) h31))
def S53 : SFn := fun D m args h u => nou u <| popS args fun t0 args => popI .i64 args fun t1 args => endA args (S53_14 D m t0 t1 h)
theorem T53_1 (hE : FX x53 D m E) : S53_1 D m = e53_1 (E c53_1 []) := by unfold S53_1; rw [hE c53_1]; kernel_rfl
theorem T53_0 (hE : FX x53 D m E) : S53_0 D m = e53_0 (E c53_0 []) := by unfold S53_0; rw [T53_1 hE, hE c53_0]; kernel_rfl
theorem T53_2 (hE : FX x53 D m E) : S53_2 D m = e53_2 (E c53_2 [.sj v53_0 c53_0]) := by unfold S53_2; rw [T53_0 hE, hE c53_2]; kernel_rfl
theorem T53_4 (hE : FX x53 D m E) (G3) : S53_4 D m (e53_3 G3) = e53_4 (E c53_4 [.lp v53_3 G3, .blk 0, .sj v53_2 c53_2, .sj v53_0 c53_0]) := by unfold S53_4; rw [hE c53_4]; kernel_rfl
theorem T53_6 (hE : FX x53 D m E) (G3) : S53_6 D m (e53_3 G3) = e53_6 (E (.opq false l53_6 c53_7) [.sj v53_4 c53_4, .lp v53_3 G3, .blk 0, .sj v53_2 c53_2, .sj v53_0 c53_0]) := by unfold S53_6; rw [T53_4 hE G3, T53_2 hE, hE (.opq false l53_6 c53_7)]; kernel_rfl
theorem T53_5 (hE : FX x53 D m E) (G3) : S53_5 D m (e53_3 G3) = e53_5 (E (.opq false l53_5 c53_7) [.sj v53_4 c53_4, .lp v53_3 G3, .blk 0, .sj v53_2 c53_2, .sj v53_0 c53_0]) := by unfold S53_5; rw [T53_6 hE G3, hE (.opq false l53_5 c53_7)]; kernel_rfl
theorem T53_3b (hE : FX x53 D m E) (G3) : S53_3b D m (e53_3 G3) = e53_3 (E c53_3b [.lp v53_3 G3, .blk 0, .sj v53_2 c53_2, .sj v53_0 c53_0]) := by unfold S53_3b; rw [T53_5 hE G3, T53_6 hE G3, hE c53_3b]; kernel_rfl
theorem T53_3 (hE : FX x53 D m E) : S53_3 D m = e53_3 (nrec (fun _ => none) (fun _ G3 st => E c53_3b [.lp v53_3 G3, .blk 0, .sj v53_2 c53_2, .sj v53_0 c53_0] st) m) :=
  nrec_emb e53_3 (fun _ _ _ _ _ _ => none) (fun g => S53_3b D m g) (fun G3 st => E c53_3b [.lp v53_3 G3, .blk 0, .sj v53_2 c53_2, .sj v53_0 c53_0] st) rfl (fun g => T53_3b hE g) m
theorem T53_9 (hE : FX x53 D m E) : S53_9 D m = e53_9 (E c53_9 [.sj v53_0 c53_0]) := by unfold S53_9; rw [T53_0 hE, hE c53_9]; kernel_rfl
theorem T53_11 (hE : FX x53 D m E) (G10) : S53_11 D m (e53_10 G10) = e53_11 (E c53_11 [.lp v53_10 G10, .blk 4, .sj v53_9 c53_9, .sj v53_0 c53_0]) := by unfold S53_11; rw [hE c53_11]; kernel_rfl
theorem T53_10b (hE : FX x53 D m E) (G10) : S53_10b D m (e53_10 G10) = e53_10 (E c53_10b [.lp v53_10 G10, .blk 4, .sj v53_9 c53_9, .sj v53_0 c53_0]) := by unfold S53_10b; rw [T53_11 hE G10, T53_9 hE, hE c53_10b]; kernel_rfl
theorem T53_10 (hE : FX x53 D m E) : S53_10 D m = e53_10 (nrec (fun _ => none) (fun _ G10 st => E c53_10b [.lp v53_10 G10, .blk 4, .sj v53_9 c53_9, .sj v53_0 c53_0] st) m) :=
  nrec_emb e53_10 (fun _ _ _ _ _ _ _ _ => none) (fun g => S53_10b D m g) (fun G10 st => E c53_10b [.lp v53_10 G10, .blk 4, .sj v53_9 c53_9, .sj v53_0 c53_0] st) rfl (fun g => T53_10b hE g) m
theorem T53_8 (hE : FX x53 D m E) : S53_8 D m = e53_8 (E c53_8 [.sj v53_0 c53_0]) := by unfold S53_8; rw [T53_10 hE, hE c53_8]; kernel_rfl
theorem T53_13 (hE : FX x53 D m E) (G12) : S53_13 D m (e53_12 G12) = e53_13 (E c53_13 [.lp v53_12 G12, .blk 2, .sj v53_8 c53_8, .sj v53_0 c53_0]) := by unfold S53_13; rw [hE c53_13]; kernel_rfl
theorem T53_12b (hE : FX x53 D m E) (G12) : S53_12b D m (e53_12 G12) = e53_12 (E c53_12b [.lp v53_12 G12, .blk 2, .sj v53_8 c53_8, .sj v53_0 c53_0]) := by unfold S53_12b; rw [T53_13 hE G12, T53_8 hE, hE c53_12b]; kernel_rfl
theorem T53_12 (hE : FX x53 D m E) : S53_12 D m = e53_12 (nrec (fun _ => none) (fun _ G12 st => E c53_12b [.lp v53_12 G12, .blk 2, .sj v53_8 c53_8, .sj v53_0 c53_0] st) m) :=
  nrec_emb e53_12 (fun _ _ _ _ _ _ _ _ _ => none) (fun g => S53_12b D m g) (fun G12 st => E c53_12b [.lp v53_12 G12, .blk 2, .sj v53_8 c53_8, .sj v53_0 c53_0] st) rfl (fun g => T53_12b hE g) m
theorem T53_14 (hE : FX x53 D m E) : S53_14 D m = e53_14 (E c53_e []) := by unfold S53_14; rw [T53_3 hE, T53_0 hE, T53_12 hE, hE c53_e]; kernel_rfl
theorem X53 : XTie S53 x53 := X_of fun D m E hE args h u => by unfold S53; rw [T53_14 hE]; kernel_rfl
/- 54 -/
def c54_3 : XC := (.s .ret)
def l54_2 : XL := (XL.of [.mv p4 q26 .b])
def l54_1 : XL := (XL.pre [.mv p20 q19 .b, .sp p20, .o ⟨(some p21), (.l (.cells 5 q2)), (some (p20, true)), []⟩ .v, .o ⟨(some p22), (.call (.fn 28) [q21]), (some (p20, true)), []⟩ .v, .G p20 true p23 (.field 1 1 false q22) .s, .G p20 true p24 (.mov q1) .s, .G p20 true p25 (.bin .eql q23 q24) .b, .P p26 (.pick q20 q25 (cb false)) .b, .jn p20 [p26]] l54_2)
def l54_0 : XL := (XL.pre [.P p19 (.pick q8 q18 (cb false)) .b, .jn p8 [p1, p2, p19]] l54_1)
def c54_e : XC := (.sO [.al p2 (.box q0), .mv p4 (cb false) .b] (.opq false (XL.pre [.fa p5 3 q2, .ld p6 q5 tI, .bn p7 .eql q6 (ci 0) .b, .mv p8 q7 .b, .sp p8, .o ⟨(some p9), (.l (.cells 5 q2)), (some (p8, true)), []⟩ .v, .o ⟨(some p10), (.call (.fn 28) [q9]), (some (p8, true)), []⟩ .v, .G p8 true p11 (.field 0 1 false q10) tI, .G p8 true p12 (.bin .eql q11 (ci 4)) .b, .G p8 true p13 (.mov q12) .b, .sp p13, .o ⟨(some p14), (.l (.cells 5 q2)), (some (p13, false)), []⟩ .v, .o ⟨(some p15), (.call (.fn 28) [q14]), (some (p13, false)), []⟩ .v, .G p13 false p16 (.field 0 1 false q15) tI, .G p13 false p17 (.bin .eql q16 (ci 5)) .b, .G p8 true p18 (.pick q13 (cb true) q17) .b, .jn p13 [p1, p2, p8, p18]] l54_0) c54_3))
def x54 : XFn := ⟨[.v, .s], false, [(.tmp p4)], c54_e⟩
def e54_2 (k t26 h) := kN k [(p26, (vB t26))] h
def S54_2 (D : CallD) (m : Nat) (t26 : Bool) (h : HP) : Res2 :=
 some (.ret (vB t26) h, .no)
def e54_1 (k t1 t2 t19 h) := kN k [(p1, (vS t1)), (p2, t2), (p19, (vB t19))] h
def S54_1 (D : CallD) (m : Nat) (t1 : LN) (t2 : AV) (t19 : Bool) (h : HP) : Res2 :=
 br t19 (
 cellsC 5 t2 h fun t21 =>
 cal D 28 [t21] h fun t22 h7 =>
 fldC 1 1 false t22 fun vt23 => asS vt23 fun t23 =>
 let t25 := eqL t23 t1
 S54_2 D m t25 h7) (
 S54_2 D m false h)
def e54_0 (k t1 t2 t8 t18 h) := kN k [(p1, (vS t1)), (p2, t2), (p8, (vB t8)), (p18, (vB t18))] h
def S54_0 (D : CallD) (m : Nat) (t1 : LN) (t2 : AV) (t8 t18 : Bool) (h : HP) : Res2 :=
 obB (brV t8 (some (vB t18)) (some (vB false))) fun t19 =>
 S54_1 D m t1 t2 t19 h
def e54_4 (k t0 t1 h) := kN k [(p0, t0), (p1, (vS t1))] h
def S54_4 (D : CallD) (m : Nat) (t0 : AV) (t1 : LN) (h : HP) : Res2 :=
 let t2 := AV.ptr (HP.nxQ h) 0
 let h5 := HP.newQ h (.cells true (AV.cells t0))
 let t5 := (AV.ptr (HP.nxQ h) (Nat.add 0 3))
 ldI t5 h5 fun t6 =>
 let t7 := eqQ t6 (Int.ofNat 0)
 br t7 (
 cellsC 5 t2 h5 fun t9 =>
 cal D 28 [t9] h5 fun t10 h6 =>
 fldC 0 1 false t10 fun vt11 => asI .i64 vt11 fun t11 =>
 let t12 := eqQ t11 (Int.ofNat 4)
 br t12 (
 S54_0 D m t1 t2 true true h6) (
 cellsC 5 t2 h6 fun t14 =>
 cal D 28 [t14] h6 fun t15 h8 =>
 fldC 0 1 false t15 fun vt16 => asI .i64 vt16 fun t16 =>
 let t17 := eqQ t16 (Int.ofNat 5)
 S54_0 D m t1 t2 true t17 h8)) (
 S54_1 D m t1 t2 false h5)
def S54 : SFn := fun D m args h u => nou u <| popV args fun t0 args => popS args fun t1 args => endA args (S54_4 D m t0 t1 h)
theorem T54_2 (hE : FX x54 D m E) : S54_2 D m = e54_2 (E (.opq false l54_2 c54_3) []) := by unfold S54_2; rw [hE (.opq false l54_2 c54_3)]; kernel_rfl
theorem T54_1 (hE : FX x54 D m E) : S54_1 D m = e54_1 (E (.opq false l54_1 c54_3) []) := by unfold S54_1; rw [T54_2 hE, hE (.opq false l54_1 c54_3)]; kernel_rfl
theorem T54_0 (hE : FX x54 D m E) : S54_0 D m = e54_0 (E (.opq false l54_0 c54_3) []) := by unfold S54_0; rw [T54_1 hE, hE (.opq false l54_0 c54_3)]; kernel_rfl
theorem T54_4 (hE : FX x54 D m E) : S54_4 D m = e54_4 (E c54_e []) := by unfold S54_4; rw [T54_0 hE, T54_1 hE, hE c54_e]; kernel_rfl
theorem X54 : XTie S54 x54 := X_of fun D m E hE args h u => by unfold S54; rw [T54_4 hE]; kernel_rfl
/- 55 -/
def v55_0 : List Pos := [p1, p2]
def c55_0 : XC := (.sO [.L p16 (.cells 5 q1) .v, .ss 5 q2 q16] (.s .ret))
def c55_2 : XC := (.cond q11 (.s (.oX [.fa p12 1 q1, .ld p13 q12 tI, .bn p14 .add q13 (ci 1) tI, .fa p15 1 q1, .st q15 q14])) (.s .skip))
def l55_1 : XL := (XL.of [])
def c55_e : XC := (.sO [.al p1 (.box q0), .al p2 (.new [.nils, (kI 0), (kI 0), (kI 0), (kI 0)])] (.sj v55_0 (.opq false (XL.pre [.fa p3 3 q1, .ld p4 q3 tI, .bn p5 .eql q4 (ci 0) .b, .mv p6 q5 .b, .sp p6, .o ⟨(some p7), (.l (.cells 5 q1)), (some (p6, true)), []⟩ .v, .o ⟨(some p8), (.call (.fn 28) [q7]), (some (p6, true)), []⟩ .v, .G p6 true p9 (.field 0 1 false q8) tI, .G p6 true p10 (.bin .neq q9 (ci 0)) .b, .P p11 (.pick q6 q10 (cb false)) .b, .jn p6 [p1, p2, p11]] l55_1) c55_2) c55_0))
def x55 : XFn := ⟨[.v], false, [(.cells 5 p2)], c55_e⟩
def e55_0 (k t1 t2 h) := kN k [(p1, t1), (p2, t2)] h
def S55_0 (D : CallD) (m : Nat) (t1 t2 : AV) (h : HP) : Res2 :=
 cellsC 5 t1 h fun t16 =>
 stsC 5 t2 t16 h fun h6 =>
 cellsC 5 t2 h6 fun t2a =>
 some (.ret t2a h6, .no)
def e55_1 (k t1 t2 t11 h) := kN k [(p1, t1), (p2, t2), (p11, (vB t11))] h
def S55_1 (D : CallD) (m : Nat) (t1 t2 : AV) (t11 : Bool) (h : HP) : Res2 :=
 br t11 (
 faC 1 t1 fun t12 =>
 ldI t12 h fun t13 =>
 let t14 := wrQ .i64 (addQ t13 (Int.ofNat 1))
 faC 1 t1 fun t15 =>
 stoC t15 (vI t14) h fun h8 =>
 S55_0 D m t1 t2 h8) (
 S55_0 D m t1 t2 h)
def e55_3 (k t0 h) := kN k [(p0, t0)] h
def S55_3 (D : CallD) (m : Nat) (t0 : AV) (h : HP) : Res2 :=
 let t1 := AV.ptr (HP.nxQ h) 0
 let h4 := HP.newQ h (.cells true (AV.cells t0))
 let t2 := AV.ptr (HP.nxQ h4) 0
 let h5 := HP.newQ h4 (.cells true [.nils, (kI 0), (kI 0), (kI 0), (kI 0)])
 let t3 := (AV.ptr (HP.nxQ h) (Nat.add 0 3))
 ldI t3 h5 fun t4 =>
 let t5 := eqQ t4 (Int.ofNat 0)
 br t5 (
 cellsC 5 t1 h5 fun t7 =>
 cal D 28 [t7] h5 fun t8 h7 =>
 fldC 0 1 false t8 fun vt9 => asI .i64 vt9 fun t9 =>
 let t10 := notQ (eqQ t9 (Int.ofNat 0))
 S55_1 D m t1 t2 t10 h7) (
 S55_1 D m t1 t2 false h5)
def S55 : SFn := fun D m args h u => nou u <| popV args fun t0 args => endA args (S55_3 D m t0 h)
theorem T55_0 (hE : FX x55 D m E) : S55_0 D m = e55_0 (E c55_0 []) := by unfold S55_0; rw [hE c55_0]; kernel_rfl
theorem T55_1 (hE : FX x55 D m E) : S55_1 D m = e55_1 (E (.opq false l55_1 c55_2) [.sj v55_0 c55_0]) := by unfold S55_1; rw [T55_0 hE, hE (.opq false l55_1 c55_2)]; kernel_rfl
theorem T55_3 (hE : FX x55 D m E) : S55_3 D m = e55_3 (E c55_e []) := by unfold S55_3; rw [T55_1 hE, hE c55_e]; kernel_rfl
theorem X55 : XTie S55 x55 := X_of fun D m E hE args h u => by unfold S55; rw [T55_3 hE]; kernel_rfl
/- 56 -/
def v56_0 : List Pos := [p1, p2]
def c56_0 : XC := (.sO [.L p23 (.cells 5 q1) .v, .cl p24 60 [q23, (.c (.str [118, 111, 105, 100]))] .v, .ss 5 q2 q24, .mv p3 (ci 0) tI] (.s .ret))
def v56_2 : List Pos := [p1, p2, p4]
def c56_2 : XC := (.sO [.L p13 (.cells 5 q1) .v, .cl p14 55 [q13] .v, .ss 5 q1 q14] (.seq (.seq (.oX [.L p15 (.cells 5 q1) .v, .cl p16 54 [q15, (.c (.str [42]))] .b]) (.cond q16 (.seq (.oX [.L p17 (.cells 5 q1) .v, .cl p18 55 [q17] .v, .mv p19 q4 tI, .bn p20 .add q19 (ci 2) tI, .ss 5 q2 q18, .mv p3 q20 tI]) .ret) .skip)) (.sO [.L p21 (.cells 5 q1) .v, .mv p22 q4 tI, .ss 5 q2 q21, .mv p3 q22 tI] (.s .ret))))
def c56_3 : XC := (.cond q10 (.sO [.mv p4 (ci 1) tI] (.sj v56_2 (.sO [.L p11 (.cells 5 q1) .v, .cl p12 54 [q11, (.c (.str [100, 111, 117, 98, 108, 101]))] .b] (.cond q12 (.s (.oX [.mv p4 (ci 2) tI])) (.s .skip))) c56_2)) (.s .skip))
def l56_1 : XL := (XL.of [])
def c56_e : XC := (.sO [.al p1 (.box q0), .al p2 (.new [.nils, (kI 0), (kI 0), (kI 0), (kI 0)]), .mv p3 (ci 0) tI] (.sj v56_0 (.opq false (XL.pre [.L p5 (.cells 5 q1) .v, .cl p6 54 [q5, (.c (.str [105, 110, 116]))] .b, .mv p7 q6 .b, .sp p7, .o ⟨(some p8), (.l (.cells 5 q1)), (some (p7, false)), []⟩ .v, .o ⟨(some p9), (.call (.fn 54) [q8, (.c (.str [100, 111, 117, 98, 108, 101]))]), (some (p7, false)), []⟩ .b, .P p10 (.pick q7 (cb true) q9) .b, .jn p7 [p1, p2, p10]] l56_1) c56_3) c56_0))
def x56 : XFn := ⟨[.v], false, [(.cells 5 p2), (.tmp p3)], c56_e⟩
def e56_0 (k t1 t2 h) := kN k [(p1, t1), (p2, t2)] h
def S56_0 (D : CallD) (m : Nat) (t1 t2 : AV) (h : HP) : Res2 :=
 cellsC 5 t1 h fun t23 =>
 cal D 60 [t23, (vS ([118, 111, 105, 100] : LN))] h fun t24 h7 =>
 stsC 5 t2 t24 h7 fun h8 =>
 cellsC 5 t2 h8 fun t2a =>
 some (.ret (.tup [t2a, (vI (Int.ofNat 0))]) h8, .no)
def e56_2 (k t1 t2 t4 h) := kN k [(p1, t1), (p2, t2), (p4, (vI t4))] h
def S56_2 (D : CallD) (m : Nat) (t1 t2 : AV) (t4 : Int) (h : HP) : Res2 :=
 cellsC 5 t1 h fun t13 =>
 cal D 55 [t13] h fun t14 h10 =>
 stsC 5 t1 t14 h10 fun h11 =>
 cellsC 5 t1 h11 fun t15 =>
 cal D 54 [t15, (vS ([42] : LN))] h11 fun t16 h12 =>
 asB t16 fun t16a =>
 br t16a (
 cellsC 5 t1 h12 fun t17 =>
 cal D 55 [t17] h12 fun t18 h13 =>
 let t20 := wrQ .i64 (addQ t4 (Int.ofNat 2))
 stsC 5 t2 t18 h13 fun h14 =>
 cellsC 5 t2 h14 fun t2a =>
 some (.ret (.tup [t2a, (vI t20)]) h14, .no)) (
 cellsC 5 t1 h12 fun t21 =>
 stsC 5 t2 t21 h12 fun h15 =>
 cellsC 5 t2 h15 fun t2a =>
 some (.ret (.tup [t2a, (vI t4)]) h15, .no))
def e56_1 (k t1 t2 t10 h) := kN k [(p1, t1), (p2, t2), (p10, (vB t10))] h
def S56_1 (D : CallD) (m : Nat) (t1 t2 : AV) (t10 : Bool) (h : HP) : Res2 :=
 br t10 (
 cellsC 5 t1 h fun t11 =>
 cal D 54 [t11, (vS ([100, 111, 117, 98, 108, 101] : LN))] h fun t12 h16 =>
 asB t12 fun t12a =>
 br t12a (
 S56_2 D m t1 t2 (Int.ofNat 2) h16) (
 S56_2 D m t1 t2 (Int.ofNat 1) h16)) (
 S56_0 D m t1 t2 h)
def e56_4 (k t0 h) := kN k [(p0, t0)] h
def S56_4 (D : CallD) (m : Nat) (t0 : AV) (h : HP) : Res2 :=
 let t1 := AV.ptr (HP.nxQ h) 0
 let h5 := HP.newQ h (.cells true (AV.cells t0))
 let t2 := AV.ptr (HP.nxQ h5) 0
 let h6 := HP.newQ h5 (.cells true [.nils, (kI 0), (kI 0), (kI 0), (kI 0)])
 cellsC 5 t1 h6 fun t5 =>
 cal D 54 [t5, (vS ([105, 110, 116] : LN))] h6 fun t6 h9 =>
 asB t6 fun t6a =>
 br t6a (
 S56_1 D m t1 t2 true h9) (
 cellsC 5 t1 h9 fun t8 =>
 cal D 54 [t8, (vS ([100, 111, 117, 98, 108, 101] : LN))] h9 fun t9 h17 =>
 asB t9 fun t9a =>
 S56_1 D m t1 t2 t9a h17)
def S56 : SFn := fun D m args h u => nou u <| popV args fun t0 args => endA args (S56_4 D m t0 h)
theorem T56_0 (hE : FX x56 D m E) : S56_0 D m = e56_0 (E c56_0 []) := by unfold S56_0; rw [hE c56_0]; kernel_rfl
theorem T56_2 (hE : FX x56 D m E) : S56_2 D m = e56_2 (E c56_2 [.sj v56_0 c56_0]) := by unfold S56_2; rw [hE c56_2]; kernel_rfl
theorem T56_1 (hE : FX x56 D m E) : S56_1 D m = e56_1 (E (.opq false l56_1 c56_3) [.sj v56_0 c56_0]) := by unfold S56_1; rw [T56_2 hE, T56_0 hE, hE (.opq false l56_1 c56_3)]; kernel_rfl
theorem T56_4 (hE : FX x56 D m E) : S56_4 D m = e56_4 (E c56_e []) := by unfold S56_4; rw [T56_1 hE, hE c56_e]; kernel_rfl
theorem X56 : XTie S56 x56 := X_of fun D m E hE args h u => by unfold S56; rw [T56_4 hE]; kernel_rfl
/- 57 -/
def v57_0 : List Pos := [p2, p4]
def c57_0 : XC := (.seq (.ops true (XL.of [.L p18 (.cells 5 q2) .v, .L p20 (.cells 5 q2) .v, .o ⟨(some p19), (.call (.fn 55) [q18]), none, [⟨none, .cells 5 q2, p20⟩]⟩ .v, .cl p21 28 [q20] .v, .P p22 (.field 1 1 false q21) .s, .ss 5 q4 q19, .mv p5 q22 .s])) (.s .ret))
def c57_2 : XC := (.cond q15 (.sO [.L p16 (.cells 5 q2) .v, .cl p17 96 [q16, (ci 11)] .v, .ss 5 q4 q17, .mv p5 (.c (.str [])) .s] (.s .ret)) (.s .skip))
def l57_1 : XL := (XL.of [])
def c57_e : XC := (.sO [.al p2 (.box q0), .al p4 (.new [.nils, (kI 0), (kI 0), (kI 0), (kI 0)]), .mv p5 (.c (.str [])) .s] (.sj v57_0 (.opq false (XL.pre [.fa p6 3 q2, .ld p7 q6 tI, .bn p8 .neq q7 (ci 0) .b, .mv p9 q8 .b, .sp p9, .o ⟨(some p10), (.l (.cells 5 q2)), (some (p9, false)), []⟩ .v, .o ⟨(some p11), (.call (.fn 28) [q10]), (some (p9, false)), []⟩ .v, .G p9 false p12 (.field 0 1 false q11) tI, .G p9 false p13 (.mov q1) tI, .G p9 false p14 (.bin .neq q12 q13) .b, .P p15 (.pick q9 (cb true) q14) .b, .jn p9 [p2, p4, p15]] l57_1) c57_2) c57_0))
def x57 : XFn := ⟨[.v, tI], false, [(.cells 5 p4), (.tmp p5)], c57_e⟩
def e57_0 (k t2 t4 h) := kN k [(p2, t2), (p4, t4)] h
def S57_0 (D : CallD) (m : Nat) (t2 t4 : AV) (h : HP) : Res2 :=
 cellsC 5 t2 h fun t18 =>
 cellsC 5 t2 h fun t20 =>
 cal D 55 [t18] h fun t19 h6 =>
 br (again [⟨none, .cells 5 q2, p20⟩] (mkT [(p20, t20), (p2, t2)]) h6) (
 cal D 28 [t20] h6 fun t21 h7 =>
 fldC 1 1 false t21 fun vt22 => asS vt22 fun t22 =>
 stsC 5 t4 t19 h7 fun h8 =>
 cellsC 5 t4 h8 fun t4a =>
 some (.ret (.tup [t4a, (vS t22)]) h8, .no)) none
def e57_1 (k t2 t4 t15 h) := kN k [(p2, t2), (p4, t4), (p15, (vB t15))] h
def S57_1 (D : CallD) (m : Nat) (t2 t4 : AV) (t15 : Bool) (h : HP) : Res2 :=
 br t15 (
 cellsC 5 t2 h fun t16 =>
 cal D 96 [t16, (vI (Int.ofNat 11))] h fun t17 h9 =>
 stsC 5 t4 t17 h9 fun h10 =>
 cellsC 5 t4 h10 fun t4a =>
 some (.ret (.tup [t4a, (vS ([] : LN))]) h10, .no)) (
 S57_0 D m t2 t4 h)
def e57_3 (k t0 t1 h) := kN k [(p0, t0), (p1, (vI t1))] h
def S57_3 (D : CallD) (m : Nat) (t0 : AV) (t1 : Int) (h : HP) : Res2 :=
 let t2 := AV.ptr (HP.nxQ h) 0
 let h4 := HP.newQ h (.cells true (AV.cells t0))
 let t4 := AV.ptr (HP.nxQ h4) 0
 let h5 := HP.newQ h4 (.cells true [.nils, (kI 0), (kI 0), (kI 0), (kI 0)])
 let t6 := (AV.ptr (HP.nxQ h) (Nat.add 0 3))
 ldI t6 h5 fun t7 =>
 let t8 := notQ (eqQ t7 (Int.ofNat 0))
 br t8 (
 S57_1 D m t2 t4 true h5) (
 cellsC 5 t2 h5 fun t10 =>
 cal D 28 [t10] h5 fun t11 h11 =>
 fldC 0 1 false t11 fun vt12 => asI .i64 vt12 fun t12 =>
 let t14 := notQ (eqQ t12 t1)
 S57_1 D m t2 t4 t14 h11)
def S57 : SFn := fun D m args h u => nou u <| popV args fun t0 args => popI .i64 args fun t1 args => endA args (S57_3 D m t0 t1 h)
theorem T57_0 (hE : FX x57 D m E) : S57_0 D m = e57_0 (E c57_0 []) := by unfold S57_0; rw [hE c57_0]; kernel_rfl
theorem T57_1 (hE : FX x57 D m E) : S57_1 D m = e57_1 (E (.opq false l57_1 c57_2) [.sj v57_0 c57_0]) := by unfold S57_1; rw [T57_0 hE, hE (.opq false l57_1 c57_2)]; kernel_rfl
theorem T57_3 (hE : FX x57 D m E) : S57_3 D m = e57_3 (E c57_e []) := by unfold S57_3; rw [T57_1 hE, hE c57_e]; kernel_rfl
theorem X57 : XTie S57 x57 := X_of fun D m E hE args h u => by unfold S57; rw [T57_3 hE]; kernel_rfl
/- 58 -/
def v58_1 : List Pos := [p1, p2, p4]
def c58_1 : XC := (.sO [.L p72 (.cells 5 q1) .v, .mv p73 q4 .v, .ss 5 q2 q72, .mv p3 q73 .v] (.s .ret))
def v58_2 : List Pos := [p1, p2, p4]
def c58_2b : XC := (.seq (.seq (.oX [.fa p36 3 q1, .ld p37 q36 tI, .bn p38 .eql q37 (ci 0) .b]) (.cond q38 .skip (.exit 0))) (.block 1 (.seq (.seq (.oX [.mv p39 q4 .v, .P p40 (.lenl q39) tI, .bn p41 .geq q40 (ci 8) .b]) (.cond q41 (.seq (.oX [.L p42 (.cells 5 q1) .v, .cl p43 96 [q42, (ci 5)] .v, .ss 5 q2 q43, .mv p3 (.c .nils) .v]) .ret) .skip)) (.sO [.L p44 (.cells 5 q1) .v, .cl p45 28 [q44] .v, .P p46 (.field 2 1 false q45) tI, .P p47 (.build [(.str []), (kI 0), (kI 0)] [⟨2, 1, q46⟩]) .v, .al p5 (.new [(.str []), (kI 0), (kI 0)]), .ss 3 q5 q47] (.sO [.L p49 (.cells 5 q1) .v, .cl p50 56 [q49] .v, .mv p48 q50 .v, .P p51 (.ext q48 0) .v, .P p52 (.ext q48 1) tI, .ss 5 q1 q51, .fa p53 1 q5, .st q53 q52] (.sO [.L p55 (.cells 5 q1) .v, .cl p56 57 [q55, (ci 1)] .v, .mv p54 q56 .v, .P p57 (.ext q54 0) .v, .P p58 (.ext q54 1) .s, .ss 5 q1 q57, .fa p59 0 q5, .st q59 q58] (.sO [.mv p60 q4 .v, .L p61 (.cells 3 q5) .v, .al p62 (.bsl [(.str []), (kI 0), (kI 0)] 1 [⟨0, 3, q61⟩]), .o ⟨(some p63), (.e (.app 3 32 q60 q62)), none, []⟩ .v, .mv p4 q63 .v] (.seq (.seq (.oX [.L p64 (.cells 5 q1) .v, .cl p65 54 [q64, (.c (.str [44]))] .b, .P p66 (.un .not q65) .b]) (.cond q66 (.seq (.oX [.L p67 (.cells 5 q1) .v, .cl p68 60 [q67, (.c (.str [41]))] .v, .mv p69 q4 .v, .ss 5 q2 q68, .mv p3 q69 .v]) .ret) .skip)) (.s (.oX [.L p70 (.cells 5 q1) .v, .cl p71 55 [q70] .v, .ss 5 q1 q71]))))))))))
def v58_0 : List Pos := [p1, p2]
def c58_0 : XC := (.seq (.seq (.oX [.L p32 (.cells 5 q1) .v, .cl p33 54 [q32, (.c (.str [41]))] .b]) (.cond q33 (.seq (.oX [.L p34 (.cells 5 q1) .v, .cl p35 55 [q34] .v, .ss 5 q2 q35, .mv p3 (.c .nils) .v]) .ret) .skip)) (.sO [.mv p4 (.c .nils) .v] (.sj v58_1 (.block 0 (.loop v58_2 c58_2b)) c58_1)))
def c58_e : XC := (.sO [.al p1 (.box q0), .al p2 (.new [.nils, (kI 0), (kI 0), (kI 0), (kI 0)]), .mv p3 (.c .nils) .v] (.sj v58_0 (.sO [.L p6 (.cells 5 q1) .v, .cl p7 54 [q6, (.c (.str [118, 111, 105, 100]))] .b, .mv p8 q7 .b, .ge p8 (XL.of [.G p8 true p9 (.faddr 0 q1) .v, .o ⟨(some p10), (.l (.cell q9)), (some (p8, true)), []⟩ .v, .G p8 true p11 (.faddr 1 q1) .v, .o ⟨(some p12), (.l (.cell q11)), (some (p8, true)), []⟩ tI, .G p8 true p13 (.bin .add q12 (ci 1)) tI, .G p8 true p14 (.iaddr (.sl 3) q10 q13) .v, .G p8 true p15 (.faddr 0 q14) .v, .o ⟨(some p16), (.l (.cell q15)), (some (p8, true)), []⟩ tI, .G p8 true p17 (.bin .eql q16 (ci 4)) .b, .P p18 (.pick q8 q17 (cb false)) .b]) p18 .b, .mv p19 q18 .b, .ge p19 (XL.of [.G p19 true p20 (.faddr 0 q1) .v, .o ⟨(some p21), (.l (.cell q20)), (some (p19, true)), []⟩ .v, .G p19 true p22 (.faddr 1 q1) .v, .o ⟨(some p23), (.l (.cell q22)), (some (p19, true)), []⟩ tI, .G p19 true p24 (.bin .add q23 (ci 1)) tI, .G p19 true p25 (.iaddr (.sl 3) q21 q24) .v, .G p19 true p26 (.faddr 1 q25) .v, .o ⟨(some p27), (.l (.cell q26)), (some (p19, true)), []⟩ .s, .G p19 true p28 (.bin .eql q27 (.c (.str [41]))) .b, .P p29 (.pick q19 q28 (cb false)) .b]) p29 .b] (.cond q29 (.s (.oX [.L p30 (.cells 5 q1) .v, .cl p31 55 [q30] .v, .ss 5 q1 q31])) (.s .skip))) c58_0))
def x58 : XFn := ⟨[.v], false, [(.cells 5 p2), (.tmp p3)], c58_e⟩
def e58_1 (k t1 t2 t4 h) := kN k [(p1, t1), (p2, t2), (p4, t4)] h
def S58_1 (D : CallD) (m : Nat) (t1 t2 t4 : AV) (h : HP) : Res2 :=
 cellsC 5 t1 h fun t72 =>
 stsC 5 t2 t72 h fun h9 =>
 cellsC 5 t2 h9 fun t2a =>
 some (.ret (.tup [t2a, t4]) h9, .no)
def e58_2 (k t1 t2 t4 h) := kN k [(p1, t1), (p2, t2), (p4, t4)] h
def S58_2b (D : CallD) (m : Nat) (g2 : AV → AV → AV → HP → Res2) (t1 t2 t4 : AV) (h : HP) : Res2 :=
 faC 3 t1 fun t36 =>
 ldI t36 h fun t37 =>
 let t38 := eqQ t37 (Int.ofNat 0)
 br t38 (
 lenC t4 fun vt40 => asI .i64 vt40 fun t40 =>
 let t41 := leQ (Int.ofNat 8) t40
 br t41 (
 cellsC 5 t1 h fun t42 =>
 cal D 96 [t42, (vI (Int.ofNat 5))] h fun t43 h10 =>
 stsC 5 t2 t43 h10 fun h11 =>
 cellsC 5 t2 h11 fun t2a =>
 some (.ret (.tup [t2a, (.nils : AV)]) h11, .no)) (
 cellsC 5 t1 h fun t44 =>
 cal D 28 [t44] h fun t45 h12 =>
 fldC 2 1 false t45 fun vt46 => asI .i64 vt46 fun t46 =>
 let t47 := (AV.agg [(vS ([] : LN)), (vI (Int.ofNat 0)), (vI t46)])
 let t5 := AV.ptr (HP.nxQ h12) 0
 let h13 := HP.newQ h12 (.cells true [(.str []), (kI 0), (kI 0)])
 stsC 3 t5 t47 h13 fun h14 =>
 cellsC 5 t1 h14 fun t49 =>
 cal D 56 [t49] h14 fun t50 h15 =>
 extC t50 0 fun t51 =>
 extC t50 1 fun vt52 => asI .i64 vt52 fun t52 =>
 stsC 5 t1 t51 h15 fun h16 =>
 let t53 := (AV.ptr (HP.nxQ h12) (Nat.add 0 1))
 stoC t53 (vI t52) h16 fun h17 =>
 cellsC 5 t1 h17 fun t55 =>
 cal D 57 [t55, (vI (Int.ofNat 1))] h17 fun t56 h18 =>
 extC t56 0 fun t57 =>
 extC t56 1 fun vt58 => asS vt58 fun t58 =>
 stsC 5 t1 t57 h18 fun h19 =>
 let t59 := (AV.ptr (HP.nxQ h12) (Nat.add 0 0))
 stoC t59 (vS t58) h19 fun h20 =>
 cellsC 3 t5 h20 fun t61 =>
 obQ (evA (.bsl [(.str []), (kI 0), (kI 0)] 1 [⟨0, 3, (.c t61)⟩]) .leaf) fun r21 =>
 let t62 := vkV r21.2 (HP.nxQ h20)
 let h22 := HP.newQ h20 r21.1
 eff (.app 3 32 (.c t4) (.c t62)) h22 fun t63 h23 =>
 cellsC 5 t1 h23 fun t64 =>
 cal D 54 [t64, (vS ([44] : LN))] h23 fun t65 h24 =>
 asB t65 fun t65a =>
 let t66 := !t65a
 br t66 (
 cellsC 5 t1 h24 fun t67 =>
 cal D 60 [t67, (vS ([41] : LN))] h24 fun t68 h25 =>
 stsC 5 t2 t68 h25 fun h26 =>
 cellsC 5 t2 h26 fun t2a =>
 some (.ret (.tup [t2a, t63]) h26, .no)) (
 cellsC 5 t1 h24 fun t70 =>
 cal D 55 [t70] h24 fun t71 h27 =>
 stsC 5 t1 t71 h27 fun h28 =>
 g2 t1 t2 t63 h28))) (
 S58_1 D m t1 t2 t4 h)
def S58_2 (D : CallD) (m : Nat) : AV → AV → AV → HP → Res2 := nrec (fun _ _ _ _ => none) (fun _ g => S58_2b D m g) m
def e58_0 (k t1 t2 h) := kN k [(p1, t1), (p2, t2)] h
def S58_0 (D : CallD) (m : Nat) (t1 t2 : AV) (h : HP) : Res2 :=
 cellsC 5 t1 h fun t32 =>
 cal D 54 [t32, (vS ([41] : LN))] h fun t33 h6 =>
 asB t33 fun t33a =>
 br t33a (
 cellsC 5 t1 h6 fun t34 =>
 cal D 55 [t34] h6 fun t35 h7 =>
 stsC 5 t2 t35 h7 fun h8 =>
 cellsC 5 t2 h8 fun t2a =>
 some (.ret (.tup [t2a, (.nils : AV)]) h8, .no)) (
 S58_2 D m t1 t2 (.nils : AV) h6)
def e58_3 (k t0 h) := kN k [(p0, t0)] h
def S58_3 (D : CallD) (m : Nat) (t0 : AV) (h : HP) : Res2 :=
 let t1 := AV.ptr (HP.nxQ h) 0
 let h4 := HP.newQ h (.cells true (AV.cells t0))
 let t2 := AV.ptr (HP.nxQ h4) 0
 let h5 := HP.newQ h4 (.cells true [.nils, (kI 0), (kI 0), (kI 0), (kI 0)])
 cellsC 5 t1 h5 fun t6 =>
 cal D 54 [t6, (vS ([118, 111, 105, 100] : LN))] h5 fun t7 h29 =>
 asB t7 fun t7a =>
 obB (brV t7a (
 let t9 := (AV.ptr (HP.nxQ h) (Nat.add 0 0))
 cellCV t9 h29 fun t10 =>
 let t11 := (AV.ptr (HP.nxQ h) (Nat.add 0 1))
 ldIV t11 h29 fun t12 =>
 let t13 := wrQ .i64 (addQ t12 (Int.ofNat 1))
 iasCV 3 t10 (vI t13) fun t14 =>
 faCV 0 t14 fun t15 =>
 ldIV t15 h29 fun t16 =>
 let t17 := eqQ t16 (Int.ofNat 4)
 some (vB t17)) (
 some (vB false))) fun t18 =>
 obB (brV t18 (
 let t20 := (AV.ptr (HP.nxQ h) (Nat.add 0 0))
 cellCV t20 h29 fun t21 =>
 let t22 := (AV.ptr (HP.nxQ h) (Nat.add 0 1))
 ldIV t22 h29 fun t23 =>
 let t24 := wrQ .i64 (addQ t23 (Int.ofNat 1))
 iasCV 3 t21 (vI t24) fun t25 =>
 faCV 1 t25 fun t26 =>
 ldSV t26 h29 fun t27 =>
 let t28 := eqL t27 ([41] : LN)
 some (vB t28)) (
 some (vB false))) fun t29 =>
 br t29 (
 cellsC 5 t1 h29 fun t30 =>
 cal D 55 [t30] h29 fun t31 h30 =>
 stsC 5 t1 t31 h30 fun h31 =>
 S58_0 D m t1 t2 h31) (
 S58_0 D m t1 t2 h29)
def S58 : SFn := fun D m args h u => nou u <| popV args fun t0 args => endA args (S58_3 D m t0 h)
theorem T58_1 (hE : FX x58 D m E) : S58_1 D m = e58_1 (E c58_1 []) := by unfold S58_1; rw [hE c58_1]; kernel_rfl
theorem T58_2b (hE : FX x58 D m E) (G2) : S58_2b D m (e58_2 G2) = e58_2 (E c58_2b [.lp v58_2 G2, .blk 0, .sj v58_1 c58_1]) := by unfold S58_2b; rw [T58_1 hE, hE c58_2b]; kernel_rfl
theorem T58_2 (hE : FX x58 D m E) : S58_2 D m = e58_2 (nrec (fun _ => none) (fun _ G2 st => E c58_2b [.lp v58_2 G2, .blk 0, .sj v58_1 c58_1] st) m) :=
  nrec_emb e58_2 (fun _ _ _ _ => none) (fun g => S58_2b D m g) (fun G2 st => E c58_2b [.lp v58_2 G2, .blk 0, .sj v58_1 c58_1] st) rfl (fun g => T58_2b hE g) m
theorem T58_0 (hE : FX x58 D m E) : S58_0 D m = e58_0 (E c58_0 []) := by unfold S58_0; rw [T58_2 hE, hE c58_0]; kernel_rfl
theorem T58_3 (hE : FX x58 D m E) : S58_3 D m = e58_3 (E c58_e []) := by unfold S58_3; rw [T58_0 hE, hE c58_e]; kernel_rfl
theorem X58 : XTie S58 x58 := X_of fun D m E hE args h u => by unfold S58; rw [T58_3 hE]; kernel_rfl
end
end Go.Proofs.YtdeeainihfnbdaaGreatDoor.Sx
