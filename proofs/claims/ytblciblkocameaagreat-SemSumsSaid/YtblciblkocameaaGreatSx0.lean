/- Functions, printed by a program of ours: their code, what they do, and that it is so. -/
import Derived.Test.YtblciblkocameaaGreatSp
set_option maxRecDepth 8000
set_option linter.unusedVariables false
namespace Go.Proofs.YtblciblkocameaaGreat.Sx
open Go Go.Proofs.YtblciblkocameaaGreat.Ev
set_option linter.unusedSectionVars false
noncomputable section
variable [Rho]
variable {D : CallD} {m : Nat} {E : XE}
/- 5 -/
def v5_0 : List Pos := [p0, p3]
def c5_0 : XC := (.sO [.mv p27 q0 .v, .P p28 (.lenl q27) tI, .P p29 (.conv (.ii .u32) q28) tW, .al p30 (.bsl [(.int .u32 (.ofNat 0))] 1 [⟨0, 1, q29⟩]), .mv p31 q0 .v, .o ⟨(some p32), (.e (.app 1 4 q30 q31)), none, []⟩ .v, .mv p6 q32 .v] (.sO [.mv p33 q6 .v, .cl p34 17 [(.c (.str [105, 110, 116, 32, 109, 97, 105, 110, 40, 41, 32, 123, 32, 105, 110, 116, 32, 110, 32, 61, 32, 103, 101, 116, 119, 40, 41, 59, 32, 105, 110, 116, 32, 115, 59, 32, 119, 104, 105, 108, 101, 32, 40, 110, 32, 62, 32, 48, 41, 32, 123, 32, 115, 32, 61, 32, 115, 32, 43, 32, 103, 101, 116, 119, 40, 41, 59, 32, 110, 32, 61, 32, 110, 32, 45, 32, 49, 59, 32, 125, 32, 114, 101, 116, 117, 114, 110, 32, 115, 59, 32, 125])), q33] .v, .al p7 (.new [(kI 0), (.int .u32 (.ofNat 0)), .nils, (kI 0)]), .ss 4 q7 q34] (.sO [.mv p35 q6 .v, .cl p36 17 [(.c (.str [105, 110, 116, 32, 115, 117, 109, 40, 105, 110, 116, 32, 110, 41, 32, 123, 32, 105, 102, 32, 40, 110, 32, 61, 61, 32, 48, 41, 32, 114, 101, 116, 117, 114, 110, 32, 48, 59, 32, 114, 101, 116, 117, 114, 110, 32, 103, 101, 116, 119, 40, 41, 32, 43, 32, 115, 117, 109, 40, 110, 32, 45, 32, 49, 41, 59, 32, 125, 32, 105, 110, 116, 32, 109, 97, 105, 110, 40, 41, 32, 123, 32, 114, 101, 116, 117, 114, 110, 32, 115, 117, 109, 40, 103, 101, 116, 119, 40, 41, 41, 59, 32, 125])), q35] .v, .al p8 (.new [(kI 0), (.int .u32 (.ofNat 0)), .nils, (kI 0)]), .ss 4 q8 q36] (.sO [.fa p37 0 q7, .ld p38 q37 tI, .bn p39 .eql q38 (ci 1) .b, .mv p40 q39 .b, .ge p40 (XL.of [.G p40 true p41 (.faddr 1 q7) .v, .o ⟨(some p42), (.l (.cell q41)), (some (p40, true)), []⟩ tW, .G p40 true p43 (.mov q3) tW, .G p40 true p44 (.bin .eql q42 q43) .b, .P p45 (.pick q40 q44 (cb false)) .b]) p45 .b, .mv p46 q45 .b, .ge p46 (XL.of [.G p46 true p47 (.faddr 0 q8) .v, .o ⟨(some p48), (.l (.cell q47)), (some (p46, true)), []⟩ tI, .G p46 true p49 (.bin .eql q48 (ci 1)) .b, .P p50 (.pick q46 q49 (cb false)) .b]) p50 .b, .mv p51 q50 .b, .ge p51 (XL.of [.G p51 true p52 (.faddr 1 q8) .v, .o ⟨(some p53), (.l (.cell q52)), (some (p51, true)), []⟩ tW, .G p51 true p54 (.mov q3) tW, .G p51 true p55 (.bin .eql q53 q54) .b, .P p56 (.pick q51 q55 (cb false)) .b]) p56 .b, .mv p2 q56 .b] (.s .ret)))))
def v5_1 : List Pos := [p0, p3, p17, p18, p19]
def c5_1b : XC := (.sO [.bn p20 .lss q19 q18 .b] (.seq (.cond q20 .skip (.exit 0)) (.seq (.block 1 (.seq (.oX [.P p21 (.iaddr (.sl 1) q17 q19) .v, .ld p22 q21 tW, .mv p5 q22 tW]) (.oX [.mv p23 q3 tW, .mv p24 q5 tW, .bn p25 .add q23 q24 tW, .mv p3 q25 tW]))) (.s (.oX [.bn p26 .add q19 (ci 1) tI, .mv p19 q26 tI])))))
def c5_e : XC := (.sO [.mv p2 (cb false) .b] (.seq (.seq (.oX [.cl p9 13 [] .b, .P p10 (.un .not q9) .b, .mv p11 q10 .b, .ge p11 (XL.of [.G p11 false p12 (.mov q0) .v, .G p11 false p13 (.lenl q12) tI, .G p11 false p14 (.bin .gtr q13 (ci 100)) .b, .P p15 (.pick q11 (cb true) q14) .b]) p15 .b]) (.cond q15 (.seq (.oX [.cl p16 13 [] .b, .mv p2 q16 .b]) .ret) .skip)) (.sO [.mv p3 (.c (.int .u32 (.ofNat 0))) tW] (.sj v5_0 (.sO [.mv p17 q0 .v, .P p18 (.lenl q17) tI, .mv p19 (ci 0) tI] (.block 0 (.loop v5_1 c5_1b))) c5_0))))
def x5 : XFn := ⟨[.v], false, [(.tmp p2)], c5_e⟩
def e5_0 (k t0 t3 h) := kN k [(p0, t0), (p3, (vW t3))] h
def S5_0 (D : CallD) (m : Nat) (t0 : AV) (t3 : Int) (h : HP) : Res2 :=
 lenC t0 fun vt28 => asI .i64 vt28 fun t28 =>
 let t29 := wrapF .u32 t28
 let t30 := AV.slice (HP.nxQ h) 0 1 (.exact 1)
 let h5 := nQ h [(vW t29)]
 eff (.app 1 4 (.c t30) (.c t0)) h5 fun t32 h6 =>
 cal D 17 [(vS ([105, 110, 116, 32, 109, 97, 105, 110, 40, 41, 32, 123, 32, 105, 110, 116, 32, 110, 32, 61, 32, 103, 101, 116, 119, 40, 41, 59, 32, 105, 110, 116, 32, 115, 59, 32, 119, 104, 105, 108, 101, 32, 40, 110, 32, 62, 32, 48, 41, 32, 123, 32, 115, 32, 61, 32, 115, 32, 43, 32, 103, 101, 116, 119, 40, 41, 59, 32, 110, 32, 61, 32, 110, 32, 45, 32, 49, 59, 32, 125, 32, 114, 101, 116, 117, 114, 110, 32, 115, 59, 32, 125] : LN)), t32] h6 fun t34 h7 =>
 let t7 := P0 h7
 let h8 := nQ h7 [(kI 0), (.int .u32 (.ofNat 0)), .nils, (kI 0)]
 stsC 4 t7 t34 h8 fun h9 =>
 cal D 17 [(vS ([105, 110, 116, 32, 115, 117, 109, 40, 105, 110, 116, 32, 110, 41, 32, 123, 32, 105, 102, 32, 40, 110, 32, 61, 61, 32, 48, 41, 32, 114, 101, 116, 117, 114, 110, 32, 48, 59, 32, 114, 101, 116, 117, 114, 110, 32, 103, 101, 116, 119, 40, 41, 32, 43, 32, 115, 117, 109, 40, 110, 32, 45, 32, 49, 41, 59, 32, 125, 32, 105, 110, 116, 32, 109, 97, 105, 110, 40, 41, 32, 123, 32, 114, 101, 116, 117, 114, 110, 32, 115, 117, 109, 40, 103, 101, 116, 119, 40, 41, 41, 59, 32, 125] : LN)), t32] h9 fun t36 h10 =>
 let t8 := P0 h10
 let h11 := nQ h10 [(kI 0), (.int .u32 (.ofNat 0)), .nils, (kI 0)]
 stsC 4 t8 t36 h11 fun h12 =>
 let t37 := (AV.ptr (HP.nxQ h7) (Nat.add 0 0))
 ldI t37 h12 fun t38 =>
 let t39 := eqQ t38 (Int.ofNat 1)
 obB (brV t39 (
 let t41 := (AV.ptr (HP.nxQ h7) (Nat.add 0 1))
 ldWV t41 h12 fun t42 =>
 binCV .eql (vW t42) (vW t3) fun vt44 => asBV vt44 fun t44 =>
 some (vB t44)) (
 some (vB false))) fun t45 =>
 obB (brV t45 (
 let t47 := (AV.ptr (HP.nxQ h10) (Nat.add 0 0))
 ldIV t47 h12 fun t48 =>
 let t49 := eqQ t48 (Int.ofNat 1)
 some (vB t49)) (
 some (vB false))) fun t50 =>
 obB (brV t50 (
 let t52 := (AV.ptr (HP.nxQ h10) (Nat.add 0 1))
 ldWV t52 h12 fun t53 =>
 binCV .eql (vW t53) (vW t3) fun vt55 => asBV vt55 fun t55 =>
 some (vB t55)) (
 some (vB false))) fun t56 =>
 some (.ret (vB t56) h12, .no)
def e5_1 (k t0 t3 t17 t18 t19 h) := kN k [(p0, t0), (p3, (vW t3)), (p17, t17), (p18, (vI t18)), (p19, (vI t19))] h
def S5_1b (D : CallD) (m : Nat) (g1 : AV → Int → AV → Int → Int → HP → Res2) (t0 : AV) (t3 : Int) (t17 : AV) (t18 t19 : Int) (h : HP) : Res2 :=
 let t20 := ltQ t19 t18
 br t20 (
 iasC 1 t17 (vI t19) fun t21 =>
 ldW t21 h fun t22 =>
 binC .add (vW t3) (vW t22) fun vt25 => asI .u32 vt25 fun t25 =>
 let t26 := wrQ .i64 (addQ t19 (Int.ofNat 1))
 g1 t0 t25 t17 t18 t26 h) (
 S5_0 D m t0 t3 h)
def S5_1 (D : CallD) (m : Nat) : AV → Int → AV → Int → Int → HP → Res2 := nrec (fun _ _ _ _ _ _ => none) (fun _ g => S5_1b D m g) m
def e5_2 (k t0 h) := kN k [(p0, t0)] h
def S5_2 (D : CallD) (m : Nat) (t0 : AV) (h : HP) : Res2 :=
 cal D 13 [] h fun t9 h3 =>
 asB t9 fun t9a =>
 let t10 := !t9a
 obB (brV t10 (
 some (vB true)) (
 lenCV t0 fun vt13 => asIV .i64 vt13 fun t13 =>
 let t14 := ltQ (Int.ofNat 100) t13
 some (vB t14))) fun t15 =>
 br t15 (
 cal D 13 [] h3 fun t16 h4 =>
 asB t16 fun t16a =>
 some (.ret (vB t16a) h4, .no)) (
 lenC t0 fun vt18 => asI .i64 vt18 fun t18 =>
 S5_1 D m t0 (Int.ofNat 0) t0 t18 (Int.ofNat 0) h3)
def S5 : SFn := fun D m args h u => nou u <| popV args fun t0 args => endA args (S5_2 D m t0 h)
theorem T5_0 (hE : FX x5 D m E) : S5_0 D m = e5_0 (E c5_0 []) := by unfold S5_0; rw [hE c5_0]; kernel_rfl
theorem T5_1b (hE : FX x5 D m E) (G1) : S5_1b D m (e5_1 G1) = e5_1 (E c5_1b [.lp v5_1 G1, .blk 0, .sj v5_0 c5_0]) := by unfold S5_1b; rw [T5_0 hE, hE c5_1b]; kernel_rfl
theorem T5_1 (hE : FX x5 D m E) : S5_1 D m = e5_1 (nrec (fun _ => none) (fun _ G1 st => E c5_1b [.lp v5_1 G1, .blk 0, .sj v5_0 c5_0] st) m) :=
  nrec_emb e5_1 (fun _ _ _ _ _ _ => none) (fun g => S5_1b D m g) (fun G1 st => E c5_1b [.lp v5_1 G1, .blk 0, .sj v5_0 c5_0] st) rfl (fun g => T5_1b hE g) m
theorem T5_2 (hE : FX x5 D m E) : S5_2 D m = e5_2 (E c5_e []) := by unfold S5_2; rw [T5_1 hE, hE c5_e]; kernel_rfl
theorem X5 : XTie S5 x5 := X_of fun D m E hE args h u => by unfold S5; rw [T5_2 hE]; kernel_rfl
/- 12 -/
def c12_e : XC := (.sO [.al p2 (.new [.nils]), .mv p3 (cb false) .b] (.sO [.mv p10 q0 .v, .cl p11 22 [q10] .v, .mv p9 q11 .v, .P p12 (.ext q9 0) .v, .P p13 (.ext q9 1) .b, .mv p4 q12 .v, .mv p5 q13 .b] (.seq (.seq (.oX [.mv p14 q5 .b, .P p15 (.un .not q14) .b]) (.cond q15 (.seq (.oX [.P p16 (.build [.nils] []) .v, .ss 1 q2 q16, .mv p3 (cb false) .b]) .ret) .skip)) (.sO [.mv p18 q4 .v, .cl p19 23 [q18] .v, .mv p17 q19 .v, .P p20 (.ext q17 0) .v, .P p21 (.ext q17 1) tI, .P p22 (.ext q17 2) tI, .al p6 (.new [.nils]), .ss 1 q6 q20, .mv p7 q21 tI, .mv p8 q22 tI] (.seq (.seq (.oX [.mv p23 q8 tI, .bn p24 .neq q23 (ci 0) .b]) (.cond q24 (.seq (.oX [.P p25 (.build [.nils] []) .v, .ss 1 q2 q25, .mv p3 (cb false) .b]) .ret) .skip)) (.sO [.L p27 (.cells 1 q6) .v, .cl p28 24 [q27] .v, .mv p26 q28 .v, .P p29 (.ext q26 0) .v, .P p30 (.ext q26 1) tI, .P p31 (.ext q26 2) .b, .mv p5 q31 .b] (.sO [.L p32 (.cells 1 q6) .v, .mv p33 q5 .b, .ss 1 q2 q32, .mv p3 q33 .b] (.s .ret))))))))
def x12 : XFn := ⟨[.v], false, [(.cells 1 p2), (.tmp p3)], c12_e⟩
def e12_0 (k t0 h) := kN k [(p0, t0)] h
def S12_0 (D : CallD) (m : Nat) (t0 : AV) (h : HP) : Res2 :=
 let t2 := P0 h
 let h1 := nQ h [.nils]
 cal D 22 [t0] h1 fun t11 h2 =>
 extC t11 0 fun t12 =>
 extC t11 1 fun vt13 => asB vt13 fun t13 =>
 let t15 := !t13
 br t15 (
 let t16 := (AV.agg [(.nils : AV)])
 stsC 1 t2 t16 h2 fun h3 =>
 cellsC 1 t2 h3 fun t2a =>
 some (.ret (.tup [t2a, (vB false)]) h3, .no)) (
 cal D 23 [t12] h2 fun t19 h4 =>
 extC t19 0 fun t20 =>
 extC t19 1 fun vt21 => asI .i64 vt21 fun t21 =>
 extC t19 2 fun vt22 => asI .i64 vt22 fun t22 =>
 let t6 := P0 h4
 let h5 := nQ h4 [.nils]
 stsC 1 t6 t20 h5 fun h6 =>
 let t24 := notQ (eqQ t22 (Int.ofNat 0))
 br t24 (
 let t25 := (AV.agg [(.nils : AV)])
 stsC 1 t2 t25 h6 fun h7 =>
 cellsC 1 t2 h7 fun t2a =>
 some (.ret (.tup [t2a, (vB false)]) h7, .no)) (
 cellsC 1 t6 h6 fun t27 =>
 cal D 24 [t27] h6 fun t28 h8 =>
 extC t28 0 fun t29 =>
 extC t28 1 fun vt30 => asI .i64 vt30 fun t30 =>
 extC t28 2 fun vt31 => asB vt31 fun t31 =>
 cellsC 1 t6 h8 fun t32 =>
 stsC 1 t2 t32 h8 fun h9 =>
 cellsC 1 t2 h9 fun t2a =>
 some (.ret (.tup [t2a, (vB t31)]) h9, .no)))
def S12 : SFn := fun D m args h u => nou u <| popV args fun t0 args => endA args (S12_0 D m t0 h)
theorem T12_0 (hE : FX x12 D m E) : S12_0 D m = e12_0 (E c12_e []) := by unfold S12_0; rw [hE c12_e]; kernel_rfl
theorem X12 : XTie S12 x12 := X_of fun D m E hE args h u => by unfold S12; rw [T12_0 hE]; kernel_rfl
/- 13 -/
def c13_e : XC := (.sO [.mv p0 (cb false) .b] (.sO [.al p5 (.bsl [(.str [])] 1 [⟨0, 1, (.c (.str [105, 110, 116, 32, 109, 97, 105, 110, 40, 41, 32, 123, 32, 112, 117, 116, 119, 40, 103, 101, 116, 119, 40, 41, 32, 43, 32, 49, 41, 59, 32, 114, 101, 116, 117, 114, 110, 32, 55, 59, 32, 125]))⟩]), .cl p6 12 [q5] .v, .mv p4 q6 .v, .P p7 (.ext q4 0) .v, .P p8 (.ext q4 1) .b, .al p1 (.new [.nils]), .ss 1 q1 q7, .mv p2 q8 .b] (.seq (.seq (.oX [.mv p9 q2 .b, .P p10 (.un .not q9) .b]) (.cond q10 (.seq (.oX [.mv p0 (cb false) .b]) .ret) .skip)) (.sO [.L p11 (.cells 1 q1) .v, .al p12 (.bsl [(.int .u32 (.ofNat 0))] 1 [⟨0, 1, (.c (.int .u32 (.ofNat 4)))⟩]), .cl p13 14 [q11, q12, (ci 100)] .v, .al p3 (.new [(kI 0), (.int .u32 (.ofNat 0)), .nils, (kI 0)]), .ss 4 q3 q13] (.sO [.fa p14 0 q3, .ld p15 q14 tI, .bn p16 .eql q15 (ci 1) .b, .mv p17 q16 .b, .ge p17 (XL.of [.G p17 true p18 (.faddr 1 q3) .v, .o ⟨(some p19), (.l (.cell q18)), (some (p17, true)), []⟩ tW, .G p17 true p20 (.bin .eql q19 (.c (.int .u32 (.ofNat 7)))) .b, .P p21 (.pick q17 q20 (cb false)) .b]) p21 .b, .mv p22 q21 .b, .ge p22 (XL.of [.G p22 true p23 (.faddr 2 q3) .v, .o ⟨(some p24), (.l (.cell q23)), (some (p22, true)), []⟩ .v, .G p22 true p25 (.lenl q24) tI, .G p22 true p26 (.bin .eql q25 (ci 1)) .b, .P p27 (.pick q22 q26 (cb false)) .b]) p27 .b, .mv p28 q27 .b, .ge p28 (XL.of [.G p28 true p29 (.faddr 2 q3) .v, .o ⟨(some p30), (.l (.cell q29)), (some (p28, true)), []⟩ .v, .G p28 true p31 (.iaddr (.sl 3) q30 (ci 0)) .v, .o ⟨(some p32), (.l (.cells 3 q31)), (some (p28, true)), []⟩ .v, .G p28 true p33 (.build [(kI 0), (.int .u32 (.ofNat 0)), (.int .u64 (.ofNat 0))] [⟨0, 1, (ci 1)⟩, ⟨1, 1, (.c (.int .u32 (.ofNat 5)))⟩]) .v, .G p28 true p34 (.eqs 3 [(0, .int), (1, .int), (2, .int)] false q32 q33) .b, .P p35 (.pick q28 q34 (cb false)) .b]) p35 .b, .mv p0 q35 .b] (.s .ret))))))
def x13 : XFn := ⟨[], false, [(.tmp p0)], c13_e⟩
def e13_0 (k h) := kN k [] h
def S13_0 (D : CallD) (m : Nat) (h : HP) : Res2 :=
 let t5 := AV.slice (HP.nxQ h) 0 1 (.exact 1)
 let h1 := nQ h [(vS ([105, 110, 116, 32, 109, 97, 105, 110, 40, 41, 32, 123, 32, 112, 117, 116, 119, 40, 103, 101, 116, 119, 40, 41, 32, 43, 32, 49, 41, 59, 32, 114, 101, 116, 117, 114, 110, 32, 55, 59, 32, 125] : LN))]
 cal D 12 [t5] h1 fun t6 h2 =>
 extC t6 0 fun t7 =>
 extC t6 1 fun vt8 => asB vt8 fun t8 =>
 let t1 := P0 h2
 let h3 := nQ h2 [.nils]
 stsC 1 t1 t7 h3 fun h4 =>
 let t10 := !t8
 br t10 (
 some (.ret (vB false) h4, .no)) (
 cellsC 1 t1 h4 fun t11 =>
 let t12 := AV.slice (HP.nxQ h4) 0 1 (.exact 1)
 let h5 := nQ h4 [(vW (Int.ofNat 4))]
 cal D 14 [t11, t12, (kI 100)] h5 fun t13 h6 =>
 let t3 := P0 h6
 let h7 := nQ h6 [(kI 0), (.int .u32 (.ofNat 0)), .nils, (kI 0)]
 stsC 4 t3 t13 h7 fun h8 =>
 let t14 := (AV.ptr (HP.nxQ h6) (Nat.add 0 0))
 ldI t14 h8 fun t15 =>
 let t16 := eqQ t15 (Int.ofNat 1)
 obB (brV t16 (
 let t18 := (AV.ptr (HP.nxQ h6) (Nat.add 0 1))
 ldWV t18 h8 fun t19 =>
 binCV .eql (vW t19) (vW (Int.ofNat 7)) fun vt20 => asBV vt20 fun t20 =>
 some (vB t20)) (
 some (vB false))) fun t21 =>
 obB (brV t21 (
 let t23 := (AV.ptr (HP.nxQ h6) (Nat.add 0 2))
 cellCV t23 h8 fun t24 =>
 lenCV t24 fun vt25 => asIV .i64 vt25 fun t25 =>
 let t26 := eqQ t25 (Int.ofNat 1)
 some (vB t26)) (
 some (vB false))) fun t27 =>
 obB (brV t27 (
 let t29 := (AV.ptr (HP.nxQ h6) (Nat.add 0 2))
 cellCV t29 h8 fun t30 =>
 iasCV 3 t30 (kI 0) fun t31 =>
 cellsCV 3 t31 h8 fun t32 =>
 let t33 := (AV.agg [(kI 1), (vW (Int.ofNat 5)), (AV.int .u64 (Int.ofNat 0))])
 obBV (evP (.eqs 3 [(0, .int), (1, .int), (2, .int)] false (.c t32) (.c t33)) .leaf) fun t34 =>
 some (vB t34)) (
 some (vB false))) fun t35 =>
 some (.ret (vB t35) h8, .no))
def S13 : SFn := fun D m args h u => nou u <| endA args (S13_0 D m h)
theorem T13_0 (hE : FX x13 D m E) : S13_0 D m = e13_0 (E c13_e []) := by unfold S13_0; rw [hE c13_e]; kernel_rfl
theorem X13 : XTie S13 x13 := X_of fun D m E hE args h u => by unfold S13; rw [T13_0 hE]; kernel_rfl
/- 14 -/
def c14_e : XC := (.sO [.al p3 (.box q0), .al p6 (.new [(kI 0), (.int .u32 (.ofNat 0)), .nils, (kI 0)])] (.seq (.ops true (XL.of [.mv p7 q1 .v, .mv p8 q2 tI, .L p10 (.cells 1 q3) .v, .o ⟨(some p9), (.call (.fn 25) [q7, q8]), none, [⟨none, .cells 1 q3, p10⟩]⟩ .v, .cl p11 26 [q9, q10] .v, .ss 4 q6 q11])) (.s .ret)))
def x14 : XFn := ⟨[.v, .v, tI], false, [(.cells 4 p6)], c14_e⟩
def e14_0 (k t0 t1 t2 h) := kN k [(p0, t0), (p1, t1), (p2, (vI t2))] h
def S14_0 (D : CallD) (m : Nat) (t0 t1 : AV) (t2 : Int) (h : HP) : Res2 :=
 let t3 := P0 h
 let h1 := HP.newQ h (.cells true (AV.cells t0))
 let t6 := P0 h1
 let h2 := nQ h1 [(kI 0), (.int .u32 (.ofNat 0)), .nils, (kI 0)]
 cellsC 1 t3 h2 fun t10 =>
 cal D 25 [t1, (vI t2)] h2 fun t9 h3 =>
 br (again [⟨none, .cells 1 q3, p10⟩] (mkT [(p10, t10), (p3, t3)]) h3) (
 cal D 26 [t9, t10] h3 fun t11 h4 =>
 stsC 4 t6 t11 h4 fun h5 =>
 cellsC 4 t6 h5 fun t6a =>
 some (.ret t6a h5, .no)) none
def S14 : SFn := fun D m args h u => nou u <| popV args fun t0 args => popV args fun t1 args => popI .i64 args fun t2 args => endA args (S14_0 D m t0 t1 t2 h)
theorem T14_0 (hE : FX x14 D m E) : S14_0 D m = e14_0 (E c14_e []) := by unfold S14_0; rw [hE c14_e]; kernel_rfl
theorem X14 : XTie S14 x14 := X_of fun D m E hE args h u => by unfold S14; rw [T14_0 hE]; kernel_rfl
/- 17 -/
def c17_e : XC := (.sO [.al p4 (.new [(kI 0), (.int .u32 (.ofNat 0)), .nils, (kI 0)])] (.sO [.mv p8 q0 .s, .al p9 (.bsl [(.str [])] 1 [⟨0, 1, q8⟩]), .cl p10 12 [q9] .v, .mv p7 q10 .v, .P p11 (.ext q7 0) .v, .P p12 (.ext q7 1) .b, .al p5 (.new [.nils]), .ss 1 q5 q11, .mv p6 q12 .b] (.seq (.seq (.oX [.mv p13 q6 .b, .P p14 (.un .not q13) .b]) (.cond q14 (.seq (.oX [.P p15 (.build [(kI 0), (.int .u32 (.ofNat 0)), .nils, (kI 0)] [⟨0, 1, (ci 5)⟩]) .v, .ss 4 q4 q15]) .ret) .skip)) (.sO [.L p16 (.cells 1 q5) .v, .mv p17 q1 .v, .cl p18 14 [q16, q17, (ci 20000)] .v, .ss 4 q4 q18] (.s .ret)))))
def x17 : XFn := ⟨[.s, .v], false, [(.cells 4 p4)], c17_e⟩
def e17_0 (k t0 t1 h) := kN k [(p0, (vS t0)), (p1, t1)] h
def S17_0 (D : CallD) (m : Nat) (t0 : LN) (t1 : AV) (h : HP) : Res2 :=
 let t4 := P0 h
 let h1 := nQ h [(kI 0), (.int .u32 (.ofNat 0)), .nils, (kI 0)]
 let t9 := AV.slice (HP.nxQ h1) 0 1 (.exact 1)
 let h2 := nQ h1 [(vS t0)]
 cal D 12 [t9] h2 fun t10 h3 =>
 extC t10 0 fun t11 =>
 extC t10 1 fun vt12 => asB vt12 fun t12 =>
 let t5 := P0 h3
 let h4 := nQ h3 [.nils]
 stsC 1 t5 t11 h4 fun h5 =>
 let t14 := !t12
 br t14 (
 let t15 := (AV.agg [(kI 5), (vW (Int.ofNat 0)), (.nils : AV), (kI 0)])
 stsC 4 t4 t15 h5 fun h6 =>
 cellsC 4 t4 h6 fun t4a =>
 some (.ret t4a h6, .no)) (
 cellsC 1 t5 h5 fun t16 =>
 cal D 14 [t16, t1, (kI 20000)] h5 fun t18 h7 =>
 stsC 4 t4 t18 h7 fun h8 =>
 cellsC 4 t4 h8 fun t4a =>
 some (.ret t4a h8, .no))
def S17 : SFn := fun D m args h u => nou u <| popS args fun t0 args => popV args fun t1 args => endA args (S17_0 D m t0 t1 h)
theorem T17_0 (hE : FX x17 D m E) : S17_0 D m = e17_0 (E c17_e []) := by unfold S17_0; rw [hE c17_e]; kernel_rfl
theorem X17 : XTie S17 x17 := X_of fun D m E hE args h u => by unfold S17; rw [T17_0 hE]; kernel_rfl
/- 19 -/
def c19_e : XC := (.sO [.mv p2 (.c (.str [])) .s] (.seq (.seq (.oX [.mv p3 q0 tI, .bn p4 .lss q3 (ci 0) .b, .mv p5 q4 .b, .ge p5 (XL.of [.G p5 true p6 (.mov q0) tI, .G p5 true p7 (.bin .gtr q6 (.c (.int .i64 (.negSucc 9)))) .b, .P p8 (.pick q5 q7 (cb false)) .b]) p8 .b]) (.cond q8 (.seq (.oX [.mv p9 q0 tI, .P p10 (.un .neg q9) tI, .cl p11 19 [q10] .s, .bn p12 .add (.c (.str [45])) q11 .s, .mv p2 q12 .s]) .ret) .skip)) (.seq (.seq (.oX [.mv p13 q0 tI, .bn p14 .lss q13 (ci 0) .b]) (.cond q14 (.seq (.oX [.mv p15 q0 tI, .bn p16 .quo q15 (ci 10) tI, .P p17 (.un .neg q16) tI, .cl p18 19 [q17] .s, .bn p19 .add (.c (.str [45])) q18 .s, .mv p20 q0 tI, .bn p21 .rem q20 (ci 10) tI, .P p22 (.un .neg q21) tI, .cl p23 19 [q22] .s, .bn p24 .add q19 q23 .s, .mv p2 q24 .s]) .ret) .skip)) (.seq (.seq (.oX [.mv p25 q0 tI, .bn p26 .lss q25 (ci 10) .b]) (.cond q26 (.seq (.oX [.mv p27 q0 tI, .bn p28 .add (ci 48) q27 tI, .P p29 (.conv (.ii .u8) q28) tC, .al p30 (.bsl [(.int .u8 (.ofNat 0))] 1 [⟨0, 1, q29⟩]), .L p31 (.bstr q30) .s, .mv p2 q31 .s]) .ret) .skip)) (.sO [.mv p32 q0 tI, .bn p33 .quo q32 (ci 10) tI, .cl p34 19 [q33] .s, .mv p35 q0 tI, .bn p36 .rem q35 (ci 10) tI, .cl p37 19 [q36] .s, .bn p38 .add q34 q37 .s, .mv p2 q38 .s] (.s .ret))))))
def x19 : XFn := ⟨[tI], false, [(.tmp p2)], c19_e⟩
def e19_0 (k t0 h) := kN k [(p0, (vI t0))] h
def S19_0 (D : CallD) (m : Nat) (t0 : Int) (h : HP) : Res2 :=
 let t4 := ltQ t0 (Int.ofNat 0)
 obB (brV t4 (
 let t7 := ltQ (Int.negSucc 9) t0
 some (vB t7)) (
 some (vB false))) fun t8 =>
 br t8 (
 let t10 := IntKind.wrap .i64 (0 - t0)
 cal D 19 [(vI t10)] h fun t11 h1 =>
 asS t11 fun t11a =>
 obS (strBin .add ([45] : LN) t11a) fun t12 =>
 some (.ret (vS t12) h1, .no)) (
 let t14 := ltQ t0 (Int.ofNat 0)
 br t14 (
 let t16 := wrapF .i64 (Int.tdiv t0 (Int.ofNat 10))
 let t17 := IntKind.wrap .i64 (0 - t16)
 cal D 19 [(vI t17)] h fun t18 h2 =>
 asS t18 fun t18a =>
 obS (strBin .add ([45] : LN) t18a) fun t19 =>
 let t21 := Int.tmod t0 (Int.ofNat 10)
 let t22 := IntKind.wrap .i64 (0 - t21)
 cal D 19 [(vI t22)] h2 fun t23 h3 =>
 asS t23 fun t23a =>
 obS (strBin .add t19 t23a) fun t24 =>
 some (.ret (vS t24) h3, .no)) (
 let t26 := ltQ t0 (Int.ofNat 10)
 br t26 (
 let t28 := wrQ .i64 (addQ (Int.ofNat 48) t0)
 let t29 := wrapF .u8 t28
 let t30 := AV.slice (HP.nxQ h) 0 1 (.exact 1)
 let h4 := nQ h [(vC t29)]
 obS (bstrV t30 h4) fun t31 =>
 some (.ret (vS t31) h4, .no)) (
 let t33 := wrapF .i64 (Int.tdiv t0 (Int.ofNat 10))
 cal D 19 [(vI t33)] h fun t34 h5 =>
 asS t34 fun t34a =>
 let t36 := Int.tmod t0 (Int.ofNat 10)
 cal D 19 [(vI t36)] h5 fun t37 h6 =>
 asS t37 fun t37a =>
 obS (strBin .add t34a t37a) fun t38 =>
 some (.ret (vS t38) h6, .no))))
def S19 : SFn := fun D m args h u => nou u <| popI .i64 args fun t0 args => endA args (S19_0 D m t0 h)
theorem T19_0 (hE : FX x19 D m E) : S19_0 D m = e19_0 (E c19_e []) := by unfold S19_0; rw [hE c19_e]; kernel_rfl
theorem X19 : XTie S19 x19 := X_of fun D m E hE args h u => by unfold S19; rw [T19_0 hE]; kernel_rfl
/- 22 -/
def v22_0 : List Pos := [p4]
def c22_0 : XC := (.sO [.mv p46 q4 .v, .mv p2 q46 .v, .mv p3 (cb true) .b] (.s .ret))
def v22_1 : List Pos := [p4, p16, p17, p18]
def c22_1b : XC := (.sO [.bn p19 .lss q18 q17 .b] (.seq (.cond q19 .skip (.exit 0)) (.seq (.block 1 (.seq (.oX [.P p20 (.iaddr (.sl 1) q16 q18) .v, .ld p21 q20 .s, .mv p6 q21 .s]) (.seq (.seq (.oX [.mv p22 q6 .s, .P p23 (.lens q22) tI, .bn p24 .gtr q23 (ci 3000) .b]) (.cond q24 (.seq (.oX [.mv p2 (.c .nils) .v, .mv p3 (cb false) .b]) .ret) .skip)) (.seq (.oX [.mv p26 q6 .s, .cl p27 34 [q26] .v, .mv p25 q27 .v, .P p28 (.ext q25 0) .v, .P p29 (.ext q25 1) tI, .P p30 (.ext q25 2) tI, .al p7 (.new [.nils]), .ss 1 q7 q28, .mv p8 q29 tI, .mv p9 q30 tI]) (.seq (.seq (.oX [.mv p31 q9 tI, .bn p32 .neq q31 (ci 0) .b]) (.cond q32 (.seq (.oX [.mv p2 (.c .nils) .v, .mv p3 (cb false) .b]) .ret) .skip)) (.seq (.oX [.L p34 (.cells 1 q7) .v, .cl p35 35 [q34] .v, .mv p33 q35 .v, .P p36 (.ext q33 0) .v, .P p37 (.ext q33 1) tI, .P p38 (.ext q33 2) tI, .al p10 (.new [.nils]), .ss 1 q10 q36, .mv p11 q37 tI, .mv p12 q38 tI]) (.seq (.seq (.oX [.mv p39 q12 tI, .bn p40 .neq q39 (ci 0) .b]) (.cond q40 (.seq (.oX [.mv p2 (.c .nils) .v, .mv p3 (cb false) .b]) .ret) .skip)) (.oX [.mv p41 q4 .v, .L p42 (.cells 1 q10) .v, .al p43 (.bsl [.nils] 1 [⟨0, 1, q42⟩]), .o ⟨(some p44), (.e (.app 1 24 q41 q43)), none, []⟩ .v, .mv p4 q44 .v])))))))) (.s (.oX [.bn p45 .add q18 (ci 1) tI, .mv p18 q45 tI])))))
def c22_e : XC := (.sO [.mv p2 (.c .nils) .v, .mv p3 (cb false) .b] (.sO [.mv p4 (.c .nils) .v] (.seq (.seq (.oX [.mv p13 q0 .v, .P p14 (.lenl q13) tI, .bn p15 .gtr q14 (ci 10) .b]) (.cond q15 (.seq (.oX [.mv p2 (.c .nils) .v, .mv p3 (cb false) .b]) .ret) .skip)) (.sj v22_0 (.sO [.mv p16 q0 .v, .P p17 (.lenl q16) tI, .mv p18 (ci 0) tI] (.block 0 (.loop v22_1 c22_1b))) c22_0))))
def x22 : XFn := ⟨[.v], false, [(.tmp p2), (.tmp p3)], c22_e⟩
def e22_0 (k t4 h) := kN k [(p4, t4)] h
def S22_0 (D : CallD) (m : Nat) (t4 : AV) (h : HP) : Res2 :=
 some (.ret (.tup [t4, (vB true)]) h, .no)
def e22_1 (k t4 t16 t17 t18 h) := kN k [(p4, t4), (p16, t16), (p17, (vI t17)), (p18, (vI t18))] h
def S22_1b (D : CallD) (m : Nat) (g1 : AV → AV → Int → Int → HP → Res2) (t4 t16 : AV) (t17 t18 : Int) (h : HP) : Res2 :=
 let t19 := ltQ t18 t17
 br t19 (
 iasC 1 t16 (vI t18) fun t20 =>
 ldS t20 h fun t21 =>
 let t23 := Int.ofNat (lenL t21)
 let t24 := ltQ (Int.ofNat 3000) t23
 br t24 (
 some (.ret (.tup [(.nils : AV), (vB false)]) h, .no)) (
 cal D 34 [(vS t21)] h fun t27 h3 =>
 extC t27 0 fun t28 =>
 extC t27 1 fun vt29 => asI .i64 vt29 fun t29 =>
 extC t27 2 fun vt30 => asI .i64 vt30 fun t30 =>
 let t7 := P0 h3
 let h4 := nQ h3 [.nils]
 stsC 1 t7 t28 h4 fun h5 =>
 let t32 := notQ (eqQ t30 (Int.ofNat 0))
 br t32 (
 some (.ret (.tup [(.nils : AV), (vB false)]) h5, .no)) (
 cellsC 1 t7 h5 fun t34 =>
 cal D 35 [t34] h5 fun t35 h6 =>
 extC t35 0 fun t36 =>
 extC t35 1 fun vt37 => asI .i64 vt37 fun t37 =>
 extC t35 2 fun vt38 => asI .i64 vt38 fun t38 =>
 let t10 := P0 h6
 let h7 := nQ h6 [.nils]
 stsC 1 t10 t36 h7 fun h8 =>
 let t40 := notQ (eqQ t38 (Int.ofNat 0))
 br t40 (
 some (.ret (.tup [(.nils : AV), (vB false)]) h8, .no)) (
 cellsC 1 t10 h8 fun t42 =>
 obQ (evA (.bsl [.nils] 1 [⟨0, 1, (.c t42)⟩]) .leaf) fun r9 =>
 let t43 := vkV r9.2 (HP.nxQ h8)
 let h10 := HP.newQ h8 r9.1
 eff (.app 1 24 (.c t4) (.c t43)) h10 fun t44 h11 =>
 let t45 := wrQ .i64 (addQ t18 (Int.ofNat 1))
 g1 t44 t16 t17 t45 h11)))) (
 S22_0 D m t4 h)
def S22_1 (D : CallD) (m : Nat) : AV → AV → Int → Int → HP → Res2 := nrec (fun _ _ _ _ _ => none) (fun _ g => S22_1b D m g) m
def e22_2 (k t0 h) := kN k [(p0, t0)] h
def S22_2 (D : CallD) (m : Nat) (t0 : AV) (h : HP) : Res2 :=
 lenC t0 fun vt14 => asI .i64 vt14 fun t14 =>
 let t15 := ltQ (Int.ofNat 10) t14
 br t15 (
 some (.ret (.tup [(.nils : AV), (vB false)]) h, .no)) (
 lenC t0 fun vt17 => asI .i64 vt17 fun t17 =>
 S22_1 D m (.nils : AV) t0 t17 (Int.ofNat 0) h)
def S22 : SFn := fun D m args h u => nou u <| popV args fun t0 args => endA args (S22_2 D m t0 h)
theorem T22_0 (hE : FX x22 D m E) : S22_0 D m = e22_0 (E c22_0 []) := by unfold S22_0; rw [hE c22_0]; kernel_rfl
theorem T22_1b (hE : FX x22 D m E) (G1) : S22_1b D m (e22_1 G1) = e22_1 (E c22_1b [.lp v22_1 G1, .blk 0, .sj v22_0 c22_0]) := by unfold S22_1b; rw [T22_0 hE, hE c22_1b]; kernel_rfl
theorem T22_1 (hE : FX x22 D m E) : S22_1 D m = e22_1 (nrec (fun _ => none) (fun _ G1 st => E c22_1b [.lp v22_1 G1, .blk 0, .sj v22_0 c22_0] st) m) :=
  nrec_emb e22_1 (fun _ _ _ _ _ => none) (fun g => S22_1b D m g) (fun G1 st => E c22_1b [.lp v22_1 G1, .blk 0, .sj v22_0 c22_0] st) rfl (fun g => T22_1b hE g) m
theorem T22_2 (hE : FX x22 D m E) : S22_2 D m = e22_2 (E c22_e []) := by unfold S22_2; rw [T22_1 hE, hE c22_e]; kernel_rfl
theorem X22 : XTie S22 x22 := X_of fun D m E hE args h u => by unfold S22; rw [T22_2 hE]; kernel_rfl
/- 23 -/
def v23_3 : List Pos := [p2, p22]
def c23_3 : XC := (.sO [.L p222 (.cells 1 q22) .v, .ss 1 q2 q222, .mv p3 (ci 0) tI, .mv p4 (ci 0) tI] (.s .ret))
def v23_5 : List Pos := [p0, p2, p22, p169, p170]
def c23_5 : XC := (.s (.oX [.bn p221 .add q170 (ci 1) tI, .mv p170 q221 tI]))
def v23_7 : List Pos := [p0, p2, p22, p23, p24, p169, p170, p179, p180]
def c23_7 : XC := (.s (.oX [.bn p220 .add q180 (ci 1) tI, .mv p180 q220 tI]))
def v23_6 : List Pos := [p0, p2, p22, p23, p24, p169, p170, p179, p180]
def c23_6b : XC := (.sO [.bn p181 .lss q180 q179 .b] (.seq (.cond q181 .skip (.exit 14)) (.sj v23_7 (.block 15 (.sO [.mv p182 q180 tI, .mv p25 q182 tI] (.sO [.fa p183 0 q24, .ld p184 q183 .v, .mv p185 q25 tI, .P p186 (.iaddr (.sl 17) q184 q185) .v, .L p187 (.cells 17 q186) .v, .al p26 (.new [(.bool false), (.bool false), (.bool false), (.str []), (kI 0), (kI 0), .nils, (.bool false), .nils, (kI 0), .nils, .nils, (.str []), (kI 0), (kI 0), (kI 0), (kI 0)]), .ss 17 q26 q187] (.seq (.seq (.oX [.L p188 (.cells 17 q26) .v, .cl p189 37 [q188] .b, .P p190 (.un .not q189) .b]) (.cond q190 (.exit 15) .skip)) (.sO [.L p191 (.cells 1 q24) .v, .mv p192 q23 tI, .fa p193 6 q26, .ld p194 q193 .v, .cl p195 40 [q191, q192, q194] .v, .fa p196 6 q26, .st q196 q195] (.sO [.L p197 (.cells 1 q24) .v, .mv p198 q23 tI, .fa p199 9 q26, .L p200 (.cells 7 q199) .v, .al p201 (.bsl [(kI 0), .nils, .nils, (.str []), (kI 0), (kI 0), (kI 0)] 1 [⟨0, 7, q200⟩]), .cl p202 41 [q197, q198, q201] .v, .P p203 (.iaddr (.sl 7) q202 (ci 0)) .v, .L p204 (.cells 7 q203) .v, .fa p205 9 q26, .ss 7 q205 q204] (.sO [.L p206 (.cells 1 q24) .v, .mv p207 q23 tI, .fa p208 3 q26, .ld p209 q208 .s, .cl p210 42 [q206, q207, q209] .s, .fa p211 3 q26, .st q211 q210] (.sO [.fa p212 1 q26, .st q212 (cb false)] (.sO [.fa p213 2 q26, .st q213 (cb false)] (.s (.oX [.fa p214 0 q22, .ld p215 q214 .v, .L p216 (.cells 17 q26) .v, .al p217 (.bsl [(.bool false), (.bool false), (.bool false), (.str []), (kI 0), (kI 0), .nils, (.bool false), .nils, (kI 0), .nils, .nils, (.str []), (kI 0), (kI 0), (kI 0), (kI 0)] 1 [⟨0, 17, q216⟩]), .o ⟨(some p218), (.e (.app 17 200 q215 q217)), none, []⟩ .v, .fa p219 0 q22, .st q219 q218]))))))))))) c23_7)))
def v23_4 : List Pos := [p0, p2, p22, p169, p170]
def c23_4b : XC := (.sO [.bn p171 .lss q170 q169 .b] (.seq (.cond q171 .skip (.exit 12)) (.sj v23_5 (.block 13 (.sO [.mv p172 q170 tI, .mv p23 q172 tI] (.sO [.mv p173 q0 .v, .mv p174 q23 tI, .P p175 (.iaddr (.sl 1) q173 q174) .v, .L p176 (.cells 1 q175) .v, .al p24 (.new [.nils]), .ss 1 q24 q176] (.sO [.fa p177 0 q24, .ld p178 q177 .v, .P p179 (.lenl q178) tI, .mv p180 (ci 0) tI] (.block 14 (.loop v23_6 c23_6b)))))) c23_5)))
def v23_2 : List Pos := [p0, p2]
def c23_2 : XC := (.seq (.seq (.oX [.mv p160 q0 .v, .cl p161 36 [q160, (.c (.str [109, 97, 105, 110]))] .v, .mv p159 q161 .v, .P p162 (.ext q159 0) .v, .P p163 (.ext q159 1) tI, .al p20 (.new [(.bool false), (.bool false), (.bool false), (.str []), (kI 0), (kI 0), .nils, (.bool false), .nils, (kI 0), .nils, .nils, (.str []), (kI 0), (kI 0), (kI 0), (kI 0)]), .ss 17 q20 q162, .mv p21 q163 tI]) (.seq (.oX [.mv p164 q21 tI, .bn p165 .lss q164 (ci 0) .b]) (.cond q165 (.seq (.oX [.P p166 (.build [.nils] []) .v, .ss 1 q2 q166, .mv p3 (ci 0) tI, .mv p4 (ci 16) tI]) .ret) .skip))) (.sO [.P p167 (.build [.nils] []) .v, .al p22 (.new [.nils]), .ss 1 q22 q167] (.sj v23_3 (.sO [.mv p168 q0 .v, .P p169 (.lenl q168) tI, .mv p170 (ci 0) tI] (.block 12 (.loop v23_4 c23_4b))) c23_3)))
def v23_9 : List Pos := [p0, p2, p130, p131]
def c23_9 : XC := (.s (.oX [.bn p158 .add q131 (ci 1) tI, .mv p131 q158 tI]))
def v23_10 : List Pos := [p0, p2, p15, p16, p130, p131, p140, p141]
def c23_10b : XC := (.sO [.bn p142 .lss q141 q140 .b] (.seq (.cond q142 .skip (.exit 10)) (.seq (.block 11 (.seq (.oX [.mv p143 q141 tI, .mv p17 q143 tI]) (.seq (.oX [.mv p145 q0 .v, .mv p146 q16 .v, .mv p147 q17 tI, .P p148 (.iaddr (.sl 1) q146 q147) .v, .ld p149 q148 .s, .cl p150 36 [q145, q149] .v, .mv p144 q150 .v, .P p151 (.ext q144 0) .v, .P p152 (.ext q144 1) tI, .al p18 (.new [(.bool false), (.bool false), (.bool false), (.str []), (kI 0), (kI 0), .nils, (.bool false), .nils, (kI 0), .nils, .nils, (.str []), (kI 0), (kI 0), (kI 0), (kI 0)]), .ss 17 q18 q151, .mv p19 q152 tI]) (.seq (.oX [.mv p153 q19 tI, .bn p154 .lss q153 (ci 0) .b]) (.cond q154 (.seq (.oX [.P p155 (.build [.nils] []) .v, .mv p156 q15 tI, .ss 1 q2 q155, .mv p3 q156 tI, .mv p4 (ci 3) tI]) .ret) .skip))))) (.s (.oX [.bn p157 .add q141 (ci 1) tI, .mv p141 q157 tI])))))
def v23_8 : List Pos := [p0, p2, p130, p131]
def c23_8b : XC := (.sO [.bn p132 .lss q131 q130 .b] (.seq (.cond q132 .skip (.exit 8)) (.sj v23_9 (.block 9 (.sO [.mv p133 q131 tI, .mv p15 q133 tI] (.sO [.mv p134 q0 .v, .mv p135 q15 tI, .P p136 (.iaddr (.sl 1) q134 q135) .v, .L p137 (.cells 1 q136) .v, .cl p138 39 [q137] .v, .mv p16 q138 .v] (.sO [.mv p139 q16 .v, .P p140 (.lenl q139) tI, .mv p141 (ci 0) tI] (.block 10 (.loop v23_10 c23_10b)))))) c23_9)))
def v23_1 : List Pos := [p0, p2]
def c23_1 : XC := (.sj v23_2 (.sO [.mv p129 q0 .v, .P p130 (.lenl q129) tI, .mv p131 (ci 0) tI] (.block 8 (.loop v23_8 c23_8b))) c23_2)
def v23_12 : List Pos := [p0, p2, p77, p78]
def c23_12 : XC := (.s (.oX [.bn p128 .add q78 (ci 1) tI, .mv p78 q128 tI]))
def v23_14 : List Pos := [p0, p2, p10, p77, p78, p86, p87]
def c23_14 : XC := (.s (.oX [.bn p127 .add q87 (ci 1) tI, .mv p87 q127 tI]))
def c23_17 : XC := (.cond q124 (.sO [.P p125 (.build [.nils] []) .v, .mv p126 q10 tI, .ss 1 q2 q125, .mv p3 q126 tI, .mv p4 (ci 17) tI] (.s .ret)) (.s .skip))
def l23_16 : XL := (XL.of [])
def l23_15 : XL := (XL.pre [.P p124 (.pick q112 q123 (cb false)) .b, .jn p112 [p0, p2, p10, p77, p78, p86, p87, p124]] l23_16)
def v23_13 : List Pos := [p0, p2, p10, p77, p78, p86, p87]
def c23_13b : XC := (.sO [.bn p88 .lss q87 q86 .b] (.seq (.cond q88 .skip (.exit 6)) (.sj v23_14 (.block 7 (.sO [.mv p89 q87 tI, .mv p11 q89 tI] (.sO [.mv p90 q0 .v, .mv p91 q10 tI, .P p92 (.iaddr (.sl 1) q90 q91) .v, .fa p93 0 q92, .ld p94 q93 .v, .mv p95 q11 tI, .P p96 (.iaddr (.sl 17) q94 q95) .v, .L p97 (.cells 17 q96) .v, .al p12 (.new [(.bool false), (.bool false), (.bool false), (.str []), (kI 0), (kI 0), .nils, (.bool false), .nils, (kI 0), .nils, .nils, (.str []), (kI 0), (kI 0), (kI 0), (kI 0)]), .ss 17 q12 q97] (.sO [.mv p99 q0 .v, .fa p100 3 q12, .ld p101 q100 .s, .cl p102 36 [q99, q101] .v, .mv p98 q102 .v, .P p103 (.ext q98 0) .v, .P p104 (.ext q98 1) tI, .al p13 (.new [(.bool false), (.bool false), (.bool false), (.str []), (kI 0), (kI 0), .nils, (.bool false), .nils, (kI 0), .nils, .nils, (.str []), (kI 0), (kI 0), (kI 0), (kI 0)]), .ss 17 q13 q103, .mv p14 q104 tI] (.opq false (XL.pre [.mv p105 q14 tI, .bn p106 .geq q105 (ci 0) .b, .mv p107 q106 .b, .ge p107 (XL.of [.G p107 true p108 (.faddr 1 q12) .v, .o ⟨(some p109), (.l (.cell q108)), (some (p107, true)), []⟩ .b, .G p107 true p110 (.un .not q109) .b, .P p111 (.pick q107 q110 (cb false)) .b]) p111 .b, .mv p112 q111 .b, .sp p112, .G p112 true p113 (.faddr 0 q13) .v, .o ⟨(some p114), (.l (.cell q113)), (some (p112, true)), []⟩ .b, .G p112 true p115 (.faddr 0 q12) .v, .o ⟨(some p116), (.l (.cell q115)), (some (p112, true)), []⟩ .b, .G p112 true p117 (.eqb true q114 q116) .b, .G p112 true p118 (.mov q117) .b, .sp p118, .o ⟨(some p119), (.l (.cells 17 q13)), (some (p118, false)), []⟩ .v, .o ⟨(some p120), (.l (.cells 17 q12)), (some (p118, false)), []⟩ .v, .o ⟨(some p121), (.call (.fn 38) [q119, q120]), (some (p118, false)), []⟩ .b, .G p118 false p122 (.un .not q121) .b, .G p112 true p123 (.pick q118 (cb true) q122) .b, .jn p118 [p0, p2, p10, p77, p78, p86, p87, p112, p123]] l23_15) c23_17))))) c23_14)))
def v23_11 : List Pos := [p0, p2, p77, p78]
def c23_11b : XC := (.sO [.bn p79 .lss q78 q77 .b] (.seq (.cond q79 .skip (.exit 4)) (.sj v23_12 (.block 5 (.sO [.mv p80 q78 tI, .mv p10 q80 tI] (.sO [.mv p81 q0 .v, .mv p82 q10 tI, .P p83 (.iaddr (.sl 1) q81 q82) .v, .fa p84 0 q83, .ld p85 q84 .v, .P p86 (.lenl q85) tI, .mv p87 (ci 0) tI] (.block 6 (.loop v23_13 c23_13b))))) c23_12)))
def v23_0 : List Pos := [p0, p2]
def c23_0 : XC := (.sj v23_1 (.sO [.mv p76 q0 .v, .P p77 (.lenl q76) tI, .mv p78 (ci 0) tI] (.block 4 (.loop v23_11 c23_11b))) c23_1)
def v23_19 : List Pos := [p0, p2, p32, p33]
def c23_19 : XC := (.s (.oX [.bn p75 .add q33 (ci 1) tI, .mv p33 q75 tI]))
def v23_21 : List Pos := [p0, p2, p5, p32, p33, p41, p42]
def c23_21 : XC := (.s (.oX [.bn p74 .add q42 (ci 1) tI, .mv p42 q74 tI]))
def c23_23 : XC := (.cond q71 (.sO [.P p72 (.build [.nils] []) .v, .mv p73 q5 tI, .ss 1 q2 q72, .mv p3 q73 tI, .mv p4 (ci 4) tI] (.s .ret)) (.s .skip))
def l23_22 : XL := (XL.of [.mv p67 q66 .b, .ge p67 (XL.of [.G p67 true p68 (.mov q9) tI, .G p67 true p69 (.mov q5) tI, .G p67 true p70 (.bin .lss q68 q69) .b, .P p71 (.pick q67 q70 (cb false)) .b]) p71 .b])
def v23_20 : List Pos := [p0, p2, p5, p32, p33, p41, p42]
def c23_20b : XC := (.sO [.bn p43 .lss q42 q41 .b] (.seq (.cond q43 .skip (.exit 2)) (.sj v23_21 (.block 3 (.sO [.mv p44 q42 tI, .mv p6 q44 tI] (.sO [.mv p45 q0 .v, .mv p46 q5 tI, .P p47 (.iaddr (.sl 1) q45 q46) .v, .fa p48 0 q47, .ld p49 q48 .v, .mv p50 q6 tI, .P p51 (.iaddr (.sl 17) q49 q50) .v, .L p52 (.cells 17 q51) .v, .al p7 (.new [(.bool false), (.bool false), (.bool false), (.str []), (kI 0), (kI 0), .nils, (.bool false), .nils, (kI 0), .nils, .nils, (.str []), (kI 0), (kI 0), (kI 0), (kI 0)]), .ss 17 q7 q52] (.sO [.mv p54 q0 .v, .fa p55 3 q7, .ld p56 q55 .s, .cl p57 36 [q54, q56] .v, .mv p53 q57 .v, .P p58 (.ext q53 0) .v, .P p59 (.ext q53 1) tI, .al p8 (.new [(.bool false), (.bool false), (.bool false), (.str []), (kI 0), (kI 0), .nils, (.bool false), .nils, (kI 0), .nils, .nils, (.str []), (kI 0), (kI 0), (kI 0), (kI 0)]), .ss 17 q8 q58, .mv p9 q59 tI] (.opq false (XL.pre [.fa p60 1 q7, .ld p61 q60 .b, .P p62 (.un .not q61) .b, .mv p63 q62 .b, .sp p63, .o ⟨(some p64), (.l (.cells 17 q7)), (some (p63, true)), []⟩ .v, .o ⟨(some p65), (.call (.fn 37) [q64]), (some (p63, true)), []⟩ .b, .P p66 (.pick q63 q65 (cb false)) .b, .jn p63 [p0, p2, p5, p9, p32, p33, p41, p42, p66]] l23_22) c23_23))))) c23_21)))
def v23_18 : List Pos := [p0, p2, p32, p33]
def c23_18b : XC := (.sO [.bn p34 .lss q33 q32 .b] (.seq (.cond q34 .skip (.exit 0)) (.sj v23_19 (.block 1 (.sO [.mv p35 q33 tI, .mv p5 q35 tI] (.sO [.mv p36 q0 .v, .mv p37 q5 tI, .P p38 (.iaddr (.sl 1) q36 q37) .v, .fa p39 0 q38, .ld p40 q39 .v, .P p41 (.lenl q40) tI, .mv p42 (ci 0) tI] (.block 2 (.loop v23_20 c23_20b))))) c23_19)))
def c23_e : XC := (.sO [.al p2 (.new [.nils]), .mv p3 (ci 0) tI, .mv p4 (ci 0) tI] (.seq (.seq (.oX [.mv p27 q0 .v, .P p28 (.lenl q27) tI, .bn p29 .gtr q28 (ci 8) .b]) (.cond q29 (.seq (.oX [.P p30 (.build [.nils] []) .v, .ss 1 q2 q30, .mv p3 (ci 8) tI, .mv p4 (ci 5) tI]) .ret) .skip)) (.sj v23_0 (.sO [.mv p31 q0 .v, .P p32 (.lenl q31) tI, .mv p33 (ci 0) tI] (.block 0 (.loop v23_18 c23_18b))) c23_0)))
def x23 : XFn := ⟨[.v], false, [(.cells 1 p2), (.tmp p3), (.tmp p4)], c23_e⟩
def e23_3 (k t2 t22 h) := kN k [(p2, t2), (p22, t22)] h
def S23_3 (D : CallD) (m : Nat) (t2 t22 : AV) (h : HP) : Res2 :=
 cellsC 1 t22 h fun t222 =>
 stsC 1 t2 t222 h fun h33 =>
 cellsC 1 t2 h33 fun t2a =>
 some (.ret (.tup [t2a, (kI 0), (kI 0)]) h33, .no)
def e23_5 (k t0 t2 t22 t169 t170 h) := kN k [(p0, t0), (p2, t2), (p22, t22), (p169, (vI t169)), (p170, (vI t170))] h
def S23_5 (D : CallD) (m : Nat) (g4 : AV → AV → AV → Int → Int → HP → Res2) (t0 t2 t22 : AV) (t169 t170 : Int) (h : HP) : Res2 :=
 let t221 := wrQ .i64 (addQ t170 (Int.ofNat 1))
 g4 t0 t2 t22 t169 t221 h
def e23_7 (k t0 t2 t22 t23 t24 t169 t170 t179 t180 h) := kN k [(p0, t0), (p2, t2), (p22, t22), (p23, (vI t23)), (p24, t24), (p169, (vI t169)), (p170, (vI t170)), (p179, (vI t179)), (p180, (vI t180))] h
def S23_7 (D : CallD) (m : Nat) (g6 : AV → AV → AV → Int → AV → Int → Int → Int → Int → HP → Res2) (g4 : AV → AV → AV → Int → Int → HP → Res2) (t0 t2 t22 : AV) (t23 : Int) (t24 : AV) (t169 t170 t179 t180 : Int) (h : HP) : Res2 :=
 let t220 := wrQ .i64 (addQ t180 (Int.ofNat 1))
 g6 t0 t2 t22 t23 t24 t169 t170 t179 t220 h
def e23_6 (k t0 t2 t22 t23 t24 t169 t170 t179 t180 h) := kN k [(p0, t0), (p2, t2), (p22, t22), (p23, (vI t23)), (p24, t24), (p169, (vI t169)), (p170, (vI t170)), (p179, (vI t179)), (p180, (vI t180))] h
def S23_6b (D : CallD) (m : Nat) (g6 : AV → AV → AV → Int → AV → Int → Int → Int → Int → HP → Res2) (g4 : AV → AV → AV → Int → Int → HP → Res2) (t0 t2 t22 : AV) (t23 : Int) (t24 : AV) (t169 t170 t179 t180 : Int) (h : HP) : Res2 :=
 let t181 := ltQ t180 t179
 br t181 (
 faC 0 t24 fun t183 =>
 cellC t183 h fun t184 =>
 iasC 17 t184 (vI t180) fun t186 =>
 cellsC 17 t186 h fun t187 =>
 let t26 := P0 h
 let h36 := nQ h [(.bool false), (.bool false), (.bool false), (.str []), (kI 0), (kI 0), .nils, (.bool false), .nils, (kI 0), .nils, .nils, (.str []), (kI 0), (kI 0), (kI 0), (kI 0)]
 stsC 17 t26 t187 h36 fun h37 =>
 cellsC 17 t26 h37 fun t188 =>
 cal D 37 [t188] h37 fun t189 h38 =>
 asB t189 fun t189a =>
 let t190 := !t189a
 br t190 (
 S23_7 D m g6 g4 t0 t2 t22 t23 t24 t169 t170 t179 t180 h38) (
 cellsC 1 t24 h38 fun t191 =>
 let t193 := (AV.ptr (HP.nxQ h) (Nat.add 0 6))
 cellC t193 h38 fun t194 =>
 cal D 40 [t191, (vI t23), t194] h38 fun t195 h39 =>
 let t196 := (AV.ptr (HP.nxQ h) (Nat.add 0 6))
 stoC t196 t195 h39 fun h40 =>
 cellsC 1 t24 h40 fun t197 =>
 let t199 := (AV.ptr (HP.nxQ h) (Nat.add 0 9))
 cellsC 7 t199 h40 fun t200 =>
 obQ (evA (.bsl [(kI 0), .nils, .nils, (.str []), (kI 0), (kI 0), (kI 0)] 1 [⟨0, 7, (.c t200)⟩]) .leaf) fun r41 =>
 let t201 := vkV r41.2 (HP.nxQ h40)
 let h42 := HP.newQ h40 r41.1
 cal D 41 [t197, (vI t23), t201] h42 fun t202 h43 =>
 iasC 7 t202 (kI 0) fun t203 =>
 cellsC 7 t203 h43 fun t204 =>
 let t205 := (AV.ptr (HP.nxQ h) (Nat.add 0 9))
 stsC 7 t205 t204 h43 fun h44 =>
 cellsC 1 t24 h44 fun t206 =>
 let t208 := (AV.ptr (HP.nxQ h) (Nat.add 0 3))
 ldS t208 h44 fun t209 =>
 cal D 42 [t206, (vI t23), (vS t209)] h44 fun t210 h45 =>
 asS t210 fun t210a =>
 let t211 := (AV.ptr (HP.nxQ h) (Nat.add 0 3))
 stoC t211 (vS t210a) h45 fun h46 =>
 let t212 := (AV.ptr (HP.nxQ h) (Nat.add 0 1))
 stoC t212 (vB false) h46 fun h47 =>
 let t213 := (AV.ptr (HP.nxQ h) (Nat.add 0 2))
 stoC t213 (vB false) h47 fun h48 =>
 faC 0 t22 fun t214 =>
 cellC t214 h48 fun t215 =>
 cellsC 17 t26 h48 fun t216 =>
 obQ (evA (.bsl [(.bool false), (.bool false), (.bool false), (.str []), (kI 0), (kI 0), .nils, (.bool false), .nils, (kI 0), .nils, .nils, (.str []), (kI 0), (kI 0), (kI 0), (kI 0)] 1 [⟨0, 17, (.c t216)⟩]) .leaf) fun r49 =>
 let t217 := vkV r49.2 (HP.nxQ h48)
 let h50 := HP.newQ h48 r49.1
 eff (.app 17 200 (.c t215) (.c t217)) h50 fun t218 h51 =>
 faC 0 t22 fun t219 =>
 stoC t219 t218 h51 fun h52 =>
 S23_7 D m g6 g4 t0 t2 t22 t23 t24 t169 t170 t179 t180 h52)) (
 S23_5 D m g4 t0 t2 t22 t169 t170 h)
def S23_6 (D : CallD) (m : Nat) (g4 : AV → AV → AV → Int → Int → HP → Res2) : AV → AV → AV → Int → AV → Int → Int → Int → Int → HP → Res2 := nrec (fun _ _ _ _ _ _ _ _ _ _ => none) (fun _ g => S23_6b D m g g4) m
def e23_4 (k t0 t2 t22 t169 t170 h) := kN k [(p0, t0), (p2, t2), (p22, t22), (p169, (vI t169)), (p170, (vI t170))] h
def S23_4b (D : CallD) (m : Nat) (g4 : AV → AV → AV → Int → Int → HP → Res2) (t0 t2 t22 : AV) (t169 t170 : Int) (h : HP) : Res2 :=
 let t171 := ltQ t170 t169
 br t171 (
 iasC 1 t0 (vI t170) fun t175 =>
 cellsC 1 t175 h fun t176 =>
 let t24 := P0 h
 let h34 := nQ h [.nils]
 stsC 1 t24 t176 h34 fun h35 =>
 let t177 := (AV.ptr (HP.nxQ h) (Nat.add 0 0))
 cellC t177 h35 fun t178 =>
 lenC t178 fun vt179 => asI .i64 vt179 fun t179 =>
 S23_6 D m g4 t0 t2 t22 t170 t24 t169 t170 t179 (Int.ofNat 0) h35) (
 S23_3 D m t2 t22 h)
def S23_4 (D : CallD) (m : Nat) : AV → AV → AV → Int → Int → HP → Res2 := nrec (fun _ _ _ _ _ _ => none) (fun _ g => S23_4b D m g) m
def e23_2 (k t0 t2 h) := kN k [(p0, t0), (p2, t2)] h
def S23_2 (D : CallD) (m : Nat) (t0 t2 : AV) (h : HP) : Res2 :=
 cal D 36 [t0, (vS ([109, 97, 105, 110] : LN))] h fun t161 h27 =>
 extC t161 0 fun t162 =>
 extC t161 1 fun vt163 => asI .i64 vt163 fun t163 =>
 let t20 := P0 h27
 let h28 := nQ h27 [(.bool false), (.bool false), (.bool false), (.str []), (kI 0), (kI 0), .nils, (.bool false), .nils, (kI 0), .nils, .nils, (.str []), (kI 0), (kI 0), (kI 0), (kI 0)]
 stsC 17 t20 t162 h28 fun h29 =>
 let t165 := ltQ t163 (Int.ofNat 0)
 br t165 (
 let t166 := (AV.agg [(.nils : AV)])
 stsC 1 t2 t166 h29 fun h30 =>
 cellsC 1 t2 h30 fun t2a =>
 some (.ret (.tup [t2a, (kI 0), (kI 16)]) h30, .no)) (
 let t167 := (AV.agg [(.nils : AV)])
 let t22 := P0 h29
 let h31 := nQ h29 [.nils]
 stsC 1 t22 t167 h31 fun h32 =>
 lenC t0 fun vt169 => asI .i64 vt169 fun t169 =>
 S23_4 D m t0 t2 t22 t169 (Int.ofNat 0) h32)
def e23_9 (k t0 t2 t130 t131 h) := kN k [(p0, t0), (p2, t2), (p130, (vI t130)), (p131, (vI t131))] h
def S23_9 (D : CallD) (m : Nat) (g8 : AV → AV → Int → Int → HP → Res2) (t0 t2 : AV) (t130 t131 : Int) (h : HP) : Res2 :=
 let t158 := wrQ .i64 (addQ t131 (Int.ofNat 1))
 g8 t0 t2 t130 t158 h
def e23_10 (k t0 t2 t15 t16 t130 t131 t140 t141 h) := kN k [(p0, t0), (p2, t2), (p15, (vI t15)), (p16, t16), (p130, (vI t130)), (p131, (vI t131)), (p140, (vI t140)), (p141, (vI t141))] h
def S23_10b (D : CallD) (m : Nat) (g10 : AV → AV → Int → AV → Int → Int → Int → Int → HP → Res2) (g8 : AV → AV → Int → Int → HP → Res2) (t0 t2 : AV) (t15 : Int) (t16 : AV) (t130 t131 t140 t141 : Int) (h : HP) : Res2 :=
 let t142 := ltQ t141 t140
 br t142 (
 iasC 1 t16 (vI t141) fun t148 =>
 ldS t148 h fun t149 =>
 cal D 36 [t0, (vS t149)] h fun t150 h54 =>
 extC t150 0 fun t151 =>
 extC t150 1 fun vt152 => asI .i64 vt152 fun t152 =>
 let t18 := P0 h54
 let h55 := nQ h54 [(.bool false), (.bool false), (.bool false), (.str []), (kI 0), (kI 0), .nils, (.bool false), .nils, (kI 0), .nils, .nils, (.str []), (kI 0), (kI 0), (kI 0), (kI 0)]
 stsC 17 t18 t151 h55 fun h56 =>
 let t154 := ltQ t152 (Int.ofNat 0)
 br t154 (
 let t155 := (AV.agg [(.nils : AV)])
 stsC 1 t2 t155 h56 fun h57 =>
 cellsC 1 t2 h57 fun t2a =>
 some (.ret (.tup [t2a, (vI t15), (kI 3)]) h57, .no)) (
 let t157 := wrQ .i64 (addQ t141 (Int.ofNat 1))
 g10 t0 t2 t15 t16 t130 t131 t140 t157 h56)) (
 S23_9 D m g8 t0 t2 t130 t131 h)
def S23_10 (D : CallD) (m : Nat) (g8 : AV → AV → Int → Int → HP → Res2) : AV → AV → Int → AV → Int → Int → Int → Int → HP → Res2 := nrec (fun _ _ _ _ _ _ _ _ _ => none) (fun _ g => S23_10b D m g g8) m
def e23_8 (k t0 t2 t130 t131 h) := kN k [(p0, t0), (p2, t2), (p130, (vI t130)), (p131, (vI t131))] h
def S23_8b (D : CallD) (m : Nat) (g8 : AV → AV → Int → Int → HP → Res2) (t0 t2 : AV) (t130 t131 : Int) (h : HP) : Res2 :=
 let t132 := ltQ t131 t130
 br t132 (
 iasC 1 t0 (vI t131) fun t136 =>
 cellsC 1 t136 h fun t137 =>
 cal D 39 [t137] h fun t138 h53 =>
 lenC t138 fun vt140 => asI .i64 vt140 fun t140 =>
 S23_10 D m g8 t0 t2 t131 t138 t130 t131 t140 (Int.ofNat 0) h53) (
 S23_2 D m t0 t2 h)
def S23_8 (D : CallD) (m : Nat) : AV → AV → Int → Int → HP → Res2 := nrec (fun _ _ _ _ _ => none) (fun _ g => S23_8b D m g) m
def e23_1 (k t0 t2 h) := kN k [(p0, t0), (p2, t2)] h
def S23_1 (D : CallD) (m : Nat) (t0 t2 : AV) (h : HP) : Res2 :=
 lenC t0 fun vt130 => asI .i64 vt130 fun t130 =>
 S23_8 D m t0 t2 t130 (Int.ofNat 0) h
def e23_12 (k t0 t2 t77 t78 h) := kN k [(p0, t0), (p2, t2), (p77, (vI t77)), (p78, (vI t78))] h
def S23_12 (D : CallD) (m : Nat) (g11 : AV → AV → Int → Int → HP → Res2) (t0 t2 : AV) (t77 t78 : Int) (h : HP) : Res2 :=
 let t128 := wrQ .i64 (addQ t78 (Int.ofNat 1))
 g11 t0 t2 t77 t128 h
def e23_14 (k t0 t2 t10 t77 t78 t86 t87 h) := kN k [(p0, t0), (p2, t2), (p10, (vI t10)), (p77, (vI t77)), (p78, (vI t78)), (p86, (vI t86)), (p87, (vI t87))] h
def S23_14 (D : CallD) (m : Nat) (g13 : AV → AV → Int → Int → Int → Int → Int → HP → Res2) (g11 : AV → AV → Int → Int → HP → Res2) (t0 t2 : AV) (t10 t77 t78 t86 t87 : Int) (h : HP) : Res2 :=
 let t127 := wrQ .i64 (addQ t87 (Int.ofNat 1))
 g13 t0 t2 t10 t77 t78 t86 t127 h
def e23_16 (k t0 t2 t10 t77 t78 t86 t87 t124 h) := kN k [(p0, t0), (p2, t2), (p10, (vI t10)), (p77, (vI t77)), (p78, (vI t78)), (p86, (vI t86)), (p87, (vI t87)), (p124, (vB t124))] h
def S23_16 (D : CallD) (m : Nat) (g13 : AV → AV → Int → Int → Int → Int → Int → HP → Res2) (g11 : AV → AV → Int → Int → HP → Res2) (t0 t2 : AV) (t10 t77 t78 t86 t87 : Int) (t124 : Bool) (h : HP) : Res2 :=
 br t124 (
 let t125 := (AV.agg [(.nils : AV)])
 stsC 1 t2 t125 h fun h63 =>
 cellsC 1 t2 h63 fun t2a =>
 some (.ret (.tup [t2a, (vI t10), (kI 17)]) h63, .no)) (
 S23_14 D m g13 g11 t0 t2 t10 t77 t78 t86 t87 h)
def e23_15 (k t0 t2 t10 t77 t78 t86 t87 t112 t123 h) := kN k [(p0, t0), (p2, t2), (p10, (vI t10)), (p77, (vI t77)), (p78, (vI t78)), (p86, (vI t86)), (p87, (vI t87)), (p112, (vB t112)), (p123, (vB t123))] h
def S23_15 (D : CallD) (m : Nat) (g13 : AV → AV → Int → Int → Int → Int → Int → HP → Res2) (g11 : AV → AV → Int → Int → HP → Res2) (t0 t2 : AV) (t10 t77 t78 t86 t87 : Int) (t112 t123 : Bool) (h : HP) : Res2 :=
 obB (brV t112 (some (vB t123)) (some (vB false))) fun t124 =>
 S23_16 D m g13 g11 t0 t2 t10 t77 t78 t86 t87 t124 h
def e23_13 (k t0 t2 t10 t77 t78 t86 t87 h) := kN k [(p0, t0), (p2, t2), (p10, (vI t10)), (p77, (vI t77)), (p78, (vI t78)), (p86, (vI t86)), (p87, (vI t87))] h
def S23_13b (D : CallD) (m : Nat) (g13 : AV → AV → Int → Int → Int → Int → Int → HP → Res2) (g11 : AV → AV → Int → Int → HP → Res2) (t0 t2 : AV) (t10 t77 t78 t86 t87 : Int) (h : HP) : Res2 :=
 let t88 := ltQ t87 t86
 br t88 (
 iasC 1 t0 (vI t10) fun t92 =>
 faC 0 t92 fun t93 =>
 cellC t93 h fun t94 =>
 iasC 17 t94 (vI t87) fun t96 =>
 cellsC 17 t96 h fun t97 =>
 let t12 := P0 h
 let h58 := nQ h [(.bool false), (.bool false), (.bool false), (.str []), (kI 0), (kI 0), .nils, (.bool false), .nils, (kI 0), .nils, .nils, (.str []), (kI 0), (kI 0), (kI 0), (kI 0)]
 stsC 17 t12 t97 h58 fun h59 =>
 let t100 := (AV.ptr (HP.nxQ h) (Nat.add 0 3))
 ldS t100 h59 fun t101 =>
 cal D 36 [t0, (vS t101)] h59 fun t102 h60 =>
 extC t102 0 fun t103 =>
 extC t102 1 fun vt104 => asI .i64 vt104 fun t104 =>
 let t13 := P0 h60
 let h61 := nQ h60 [(.bool false), (.bool false), (.bool false), (.str []), (kI 0), (kI 0), .nils, (.bool false), .nils, (kI 0), .nils, .nils, (.str []), (kI 0), (kI 0), (kI 0), (kI 0)]
 stsC 17 t13 t103 h61 fun h62 =>
 let t106 := leQ (Int.ofNat 0) t104
 obB (brV t106 (
 let t108 := (AV.ptr (HP.nxQ h) (Nat.add 0 1))
 ldBV t108 h62 fun t109 =>
 let t110 := !t109
 some (vB t110)) (
 some (vB false))) fun t111 =>
 br t111 (
 let t113 := (AV.ptr (HP.nxQ h60) (Nat.add 0 0))
 ldB t113 h62 fun t114 =>
 let t115 := (AV.ptr (HP.nxQ h) (Nat.add 0 0))
 ldB t115 h62 fun t116 =>
 let t117 := ((t114 == t116) != true)
 br t117 (
 S23_15 D m g13 g11 t0 t2 t10 t77 t78 t86 t87 true true h62) (
 cellsC 17 t13 h62 fun t119 =>
 cellsC 17 t12 h62 fun t120 =>
 cal D 38 [t119, t120] h62 fun t121 h64 =>
 asB t121 fun t121a =>
 let t122 := !t121a
 S23_15 D m g13 g11 t0 t2 t10 t77 t78 t86 t87 true t122 h64)) (
 S23_16 D m g13 g11 t0 t2 t10 t77 t78 t86 t87 false h62)) (
 S23_12 D m g11 t0 t2 t77 t78 h)
def S23_13 (D : CallD) (m : Nat) (g11 : AV → AV → Int → Int → HP → Res2) : AV → AV → Int → Int → Int → Int → Int → HP → Res2 := nrec (fun _ _ _ _ _ _ _ _ => none) (fun _ g => S23_13b D m g g11) m
def e23_11 (k t0 t2 t77 t78 h) := kN k [(p0, t0), (p2, t2), (p77, (vI t77)), (p78, (vI t78))] h
def S23_11b (D : CallD) (m : Nat) (g11 : AV → AV → Int → Int → HP → Res2) (t0 t2 : AV) (t77 t78 : Int) (h : HP) : Res2 :=
 let t79 := ltQ t78 t77
 br t79 (
 iasC 1 t0 (vI t78) fun t83 =>
 faC 0 t83 fun t84 =>
 cellC t84 h fun t85 =>
 lenC t85 fun vt86 => asI .i64 vt86 fun t86 =>
 S23_13 D m g11 t0 t2 t78 t77 t78 t86 (Int.ofNat 0) h) (
 S23_1 D m t0 t2 h)
def S23_11 (D : CallD) (m : Nat) : AV → AV → Int → Int → HP → Res2 := nrec (fun _ _ _ _ _ => none) (fun _ g => S23_11b D m g) m
def e23_0 (k t0 t2 h) := kN k [(p0, t0), (p2, t2)] h
def S23_0 (D : CallD) (m : Nat) (t0 t2 : AV) (h : HP) : Res2 :=
 lenC t0 fun vt77 => asI .i64 vt77 fun t77 =>
 S23_11 D m t0 t2 t77 (Int.ofNat 0) h
def e23_19 (k t0 t2 t32 t33 h) := kN k [(p0, t0), (p2, t2), (p32, (vI t32)), (p33, (vI t33))] h
def S23_19 (D : CallD) (m : Nat) (g18 : AV → AV → Int → Int → HP → Res2) (t0 t2 : AV) (t32 t33 : Int) (h : HP) : Res2 :=
 let t75 := wrQ .i64 (addQ t33 (Int.ofNat 1))
 g18 t0 t2 t32 t75 h
def e23_21 (k t0 t2 t5 t32 t33 t41 t42 h) := kN k [(p0, t0), (p2, t2), (p5, (vI t5)), (p32, (vI t32)), (p33, (vI t33)), (p41, (vI t41)), (p42, (vI t42))] h
def S23_21 (D : CallD) (m : Nat) (g20 : AV → AV → Int → Int → Int → Int → Int → HP → Res2) (g18 : AV → AV → Int → Int → HP → Res2) (t0 t2 : AV) (t5 t32 t33 t41 t42 : Int) (h : HP) : Res2 :=
 let t74 := wrQ .i64 (addQ t42 (Int.ofNat 1))
 g20 t0 t2 t5 t32 t33 t41 t74 h
def e23_22 (k t0 t2 t5 t9 t32 t33 t41 t42 t66 h) := kN k [(p0, t0), (p2, t2), (p5, (vI t5)), (p9, (vI t9)), (p32, (vI t32)), (p33, (vI t33)), (p41, (vI t41)), (p42, (vI t42)), (p66, (vB t66))] h
def S23_22 (D : CallD) (m : Nat) (g20 : AV → AV → Int → Int → Int → Int → Int → HP → Res2) (g18 : AV → AV → Int → Int → HP → Res2) (t0 t2 : AV) (t5 t9 t32 t33 t41 t42 : Int) (t66 : Bool) (h : HP) : Res2 :=
 obB (brV t66 (
 let t70 := ltQ t9 t5
 some (vB t70)) (
 some (vB false))) fun t71 =>
 br t71 (
 let t72 := (AV.agg [(.nils : AV)])
 stsC 1 t2 t72 h fun h71 =>
 cellsC 1 t2 h71 fun t2a =>
 some (.ret (.tup [t2a, (vI t5), (kI 4)]) h71, .no)) (
 S23_21 D m g20 g18 t0 t2 t5 t32 t33 t41 t42 h)
def e23_20 (k t0 t2 t5 t32 t33 t41 t42 h) := kN k [(p0, t0), (p2, t2), (p5, (vI t5)), (p32, (vI t32)), (p33, (vI t33)), (p41, (vI t41)), (p42, (vI t42))] h
def S23_20b (D : CallD) (m : Nat) (g20 : AV → AV → Int → Int → Int → Int → Int → HP → Res2) (g18 : AV → AV → Int → Int → HP → Res2) (t0 t2 : AV) (t5 t32 t33 t41 t42 : Int) (h : HP) : Res2 :=
 let t43 := ltQ t42 t41
 br t43 (
 iasC 1 t0 (vI t5) fun t47 =>
 faC 0 t47 fun t48 =>
 cellC t48 h fun t49 =>
 iasC 17 t49 (vI t42) fun t51 =>
 cellsC 17 t51 h fun t52 =>
 let t7 := P0 h
 let h65 := nQ h [(.bool false), (.bool false), (.bool false), (.str []), (kI 0), (kI 0), .nils, (.bool false), .nils, (kI 0), .nils, .nils, (.str []), (kI 0), (kI 0), (kI 0), (kI 0)]
 stsC 17 t7 t52 h65 fun h66 =>
 let t55 := (AV.ptr (HP.nxQ h) (Nat.add 0 3))
 ldS t55 h66 fun t56 =>
 cal D 36 [t0, (vS t56)] h66 fun t57 h67 =>
 extC t57 0 fun t58 =>
 extC t57 1 fun vt59 => asI .i64 vt59 fun t59 =>
 let t8 := P0 h67
 let h68 := nQ h67 [(.bool false), (.bool false), (.bool false), (.str []), (kI 0), (kI 0), .nils, (.bool false), .nils, (kI 0), .nils, .nils, (.str []), (kI 0), (kI 0), (kI 0), (kI 0)]
 stsC 17 t8 t58 h68 fun h69 =>
 let t60 := (AV.ptr (HP.nxQ h) (Nat.add 0 1))
 ldB t60 h69 fun t61 =>
 let t62 := !t61
 br t62 (
 cellsC 17 t7 h69 fun t64 =>
 cal D 37 [t64] h69 fun t65 h70 =>
 asB t65 fun t65a =>
 S23_22 D m g20 g18 t0 t2 t5 t59 t32 t33 t41 t42 t65a h70) (
 S23_22 D m g20 g18 t0 t2 t5 t59 t32 t33 t41 t42 false h69)) (
 S23_19 D m g18 t0 t2 t32 t33 h)
def S23_20 (D : CallD) (m : Nat) (g18 : AV → AV → Int → Int → HP → Res2) : AV → AV → Int → Int → Int → Int → Int → HP → Res2 := nrec (fun _ _ _ _ _ _ _ _ => none) (fun _ g => S23_20b D m g g18) m
def e23_18 (k t0 t2 t32 t33 h) := kN k [(p0, t0), (p2, t2), (p32, (vI t32)), (p33, (vI t33))] h
def S23_18b (D : CallD) (m : Nat) (g18 : AV → AV → Int → Int → HP → Res2) (t0 t2 : AV) (t32 t33 : Int) (h : HP) : Res2 :=
 let t34 := ltQ t33 t32
 br t34 (
 iasC 1 t0 (vI t33) fun t38 =>
 faC 0 t38 fun t39 =>
 cellC t39 h fun t40 =>
 lenC t40 fun vt41 => asI .i64 vt41 fun t41 =>
 S23_20 D m g18 t0 t2 t33 t32 t33 t41 (Int.ofNat 0) h) (
 S23_0 D m t0 t2 h)
def S23_18 (D : CallD) (m : Nat) : AV → AV → Int → Int → HP → Res2 := nrec (fun _ _ _ _ _ => none) (fun _ g => S23_18b D m g) m
def e23_24 (k t0 h) := kN k [(p0, t0)] h
def S23_24 (D : CallD) (m : Nat) (t0 : AV) (h : HP) : Res2 :=
 let t2 := P0 h
 let h25 := nQ h [.nils]
 lenC t0 fun vt28 => asI .i64 vt28 fun t28 =>
 let t29 := ltQ (Int.ofNat 8) t28
 br t29 (
 let t30 := (AV.agg [(.nils : AV)])
 stsC 1 t2 t30 h25 fun h26 =>
 cellsC 1 t2 h26 fun t2a =>
 some (.ret (.tup [t2a, (kI 8), (kI 5)]) h26, .no)) (
 lenC t0 fun vt32 => asI .i64 vt32 fun t32 =>
 S23_18 D m t0 t2 t32 (Int.ofNat 0) h25)
def S23 : SFn := fun D m args h u => nou u <| popV args fun t0 args => endA args (S23_24 D m t0 h)
theorem T23_3 (hE : FX x23 D m E) : S23_3 D m = e23_3 (E c23_3 []) := by unfold S23_3; rw [hE c23_3]; kernel_rfl
theorem T23_5 (hE : FX x23 D m E) (G4) : S23_5 D m (e23_4 G4) = e23_5 (E c23_5 [.lp v23_4 G4, .blk 12, .sj v23_3 c23_3]) := by unfold S23_5; rw [hE c23_5]; kernel_rfl
theorem T23_7 (hE : FX x23 D m E) (G6) (G4) : S23_7 D m (e23_6 G6) (e23_4 G4) = e23_7 (E c23_7 [.lp v23_6 G6, .blk 14, .blk 13, .sj v23_5 c23_5, .lp v23_4 G4, .blk 12, .sj v23_3 c23_3]) := by unfold S23_7; rw [hE c23_7]; kernel_rfl
theorem T23_6b (hE : FX x23 D m E) (G6) (G4) : S23_6b D m (e23_6 G6) (e23_4 G4) = e23_6 (E c23_6b [.lp v23_6 G6, .blk 14, .blk 13, .sj v23_5 c23_5, .lp v23_4 G4, .blk 12, .sj v23_3 c23_3]) := by unfold S23_6b; rw [T23_7 hE G6 G4, T23_5 hE G4, hE c23_6b]; kernel_rfl
theorem T23_6 (hE : FX x23 D m E) (G4) : S23_6 D m (e23_4 G4) = e23_6 (nrec (fun _ => none) (fun _ G6 st => E c23_6b [.lp v23_6 G6, .blk 14, .blk 13, .sj v23_5 c23_5, .lp v23_4 G4, .blk 12, .sj v23_3 c23_3] st) m) :=
  nrec_emb e23_6 (fun _ _ _ _ _ _ _ _ _ _ => none) (fun g => S23_6b D m g (e23_4 G4)) (fun G6 st => E c23_6b [.lp v23_6 G6, .blk 14, .blk 13, .sj v23_5 c23_5, .lp v23_4 G4, .blk 12, .sj v23_3 c23_3] st) rfl (fun g => T23_6b hE g G4) m
theorem T23_4b (hE : FX x23 D m E) (G4) : S23_4b D m (e23_4 G4) = e23_4 (E c23_4b [.lp v23_4 G4, .blk 12, .sj v23_3 c23_3]) := by unfold S23_4b; rw [T23_6 hE G4, T23_3 hE, hE c23_4b]; kernel_rfl
theorem T23_4 (hE : FX x23 D m E) : S23_4 D m = e23_4 (nrec (fun _ => none) (fun _ G4 st => E c23_4b [.lp v23_4 G4, .blk 12, .sj v23_3 c23_3] st) m) :=
  nrec_emb e23_4 (fun _ _ _ _ _ _ => none) (fun g => S23_4b D m g) (fun G4 st => E c23_4b [.lp v23_4 G4, .blk 12, .sj v23_3 c23_3] st) rfl (fun g => T23_4b hE g) m
theorem T23_2 (hE : FX x23 D m E) : S23_2 D m = e23_2 (E c23_2 []) := by unfold S23_2; rw [T23_4 hE, hE c23_2]; kernel_rfl
theorem T23_9 (hE : FX x23 D m E) (G8) : S23_9 D m (e23_8 G8) = e23_9 (E c23_9 [.lp v23_8 G8, .blk 8, .sj v23_2 c23_2]) := by unfold S23_9; rw [hE c23_9]; kernel_rfl
theorem T23_10b (hE : FX x23 D m E) (G10) (G8) : S23_10b D m (e23_10 G10) (e23_8 G8) = e23_10 (E c23_10b [.lp v23_10 G10, .blk 10, .blk 9, .sj v23_9 c23_9, .lp v23_8 G8, .blk 8, .sj v23_2 c23_2]) := by unfold S23_10b; rw [T23_9 hE G8, hE c23_10b]; kernel_rfl
theorem T23_10 (hE : FX x23 D m E) (G8) : S23_10 D m (e23_8 G8) = e23_10 (nrec (fun _ => none) (fun _ G10 st => E c23_10b [.lp v23_10 G10, .blk 10, .blk 9, .sj v23_9 c23_9, .lp v23_8 G8, .blk 8, .sj v23_2 c23_2] st) m) :=
  nrec_emb e23_10 (fun _ _ _ _ _ _ _ _ _ => none) (fun g => S23_10b D m g (e23_8 G8)) (fun G10 st => E c23_10b [.lp v23_10 G10, .blk 10, .blk 9, .sj v23_9 c23_9, .lp v23_8 G8, .blk 8, .sj v23_2 c23_2] st) rfl (fun g => T23_10b hE g G8) m
theorem T23_8b (hE : FX x23 D m E) (G8) : S23_8b D m (e23_8 G8) = e23_8 (E c23_8b [.lp v23_8 G8, .blk 8, .sj v23_2 c23_2]) := by unfold S23_8b; rw [T23_10 hE G8, T23_2 hE, hE c23_8b]; kernel_rfl
theorem T23_8 (hE : FX x23 D m E) : S23_8 D m = e23_8 (nrec (fun _ => none) (fun _ G8 st => E c23_8b [.lp v23_8 G8, .blk 8, .sj v23_2 c23_2] st) m) :=
  nrec_emb e23_8 (fun _ _ _ _ _ => none) (fun g => S23_8b D m g) (fun G8 st => E c23_8b [.lp v23_8 G8, .blk 8, .sj v23_2 c23_2] st) rfl (fun g => T23_8b hE g) m
theorem T23_1 (hE : FX x23 D m E) : S23_1 D m = e23_1 (E c23_1 []) := by unfold S23_1; rw [T23_8 hE, hE c23_1]; kernel_rfl
theorem T23_12 (hE : FX x23 D m E) (G11) : S23_12 D m (e23_11 G11) = e23_12 (E c23_12 [.lp v23_11 G11, .blk 4, .sj v23_1 c23_1]) := by unfold S23_12; rw [hE c23_12]; kernel_rfl
theorem T23_14 (hE : FX x23 D m E) (G13) (G11) : S23_14 D m (e23_13 G13) (e23_11 G11) = e23_14 (E c23_14 [.lp v23_13 G13, .blk 6, .blk 5, .sj v23_12 c23_12, .lp v23_11 G11, .blk 4, .sj v23_1 c23_1]) := by unfold S23_14; rw [hE c23_14]; kernel_rfl
theorem T23_16 (hE : FX x23 D m E) (G13) (G11) : S23_16 D m (e23_13 G13) (e23_11 G11) = e23_16 (E (.opq false l23_16 c23_17) [.blk 7, .sj v23_14 c23_14, .lp v23_13 G13, .blk 6, .blk 5, .sj v23_12 c23_12, .lp v23_11 G11, .blk 4, .sj v23_1 c23_1]) := by unfold S23_16; rw [T23_14 hE G13 G11, hE (.opq false l23_16 c23_17)]; kernel_rfl
theorem T23_15 (hE : FX x23 D m E) (G13) (G11) : S23_15 D m (e23_13 G13) (e23_11 G11) = e23_15 (E (.opq false l23_15 c23_17) [.blk 7, .sj v23_14 c23_14, .lp v23_13 G13, .blk 6, .blk 5, .sj v23_12 c23_12, .lp v23_11 G11, .blk 4, .sj v23_1 c23_1]) := by unfold S23_15; rw [T23_16 hE G13 G11, hE (.opq false l23_15 c23_17)]; kernel_rfl
theorem T23_13b (hE : FX x23 D m E) (G13) (G11) : S23_13b D m (e23_13 G13) (e23_11 G11) = e23_13 (E c23_13b [.lp v23_13 G13, .blk 6, .blk 5, .sj v23_12 c23_12, .lp v23_11 G11, .blk 4, .sj v23_1 c23_1]) := by unfold S23_13b; rw [T23_15 hE G13 G11, T23_16 hE G13 G11, T23_12 hE G11, hE c23_13b]; kernel_rfl
theorem T23_13 (hE : FX x23 D m E) (G11) : S23_13 D m (e23_11 G11) = e23_13 (nrec (fun _ => none) (fun _ G13 st => E c23_13b [.lp v23_13 G13, .blk 6, .blk 5, .sj v23_12 c23_12, .lp v23_11 G11, .blk 4, .sj v23_1 c23_1] st) m) :=
  nrec_emb e23_13 (fun _ _ _ _ _ _ _ _ => none) (fun g => S23_13b D m g (e23_11 G11)) (fun G13 st => E c23_13b [.lp v23_13 G13, .blk 6, .blk 5, .sj v23_12 c23_12, .lp v23_11 G11, .blk 4, .sj v23_1 c23_1] st) rfl (fun g => T23_13b hE g G11) m
theorem T23_11b (hE : FX x23 D m E) (G11) : S23_11b D m (e23_11 G11) = e23_11 (E c23_11b [.lp v23_11 G11, .blk 4, .sj v23_1 c23_1]) := by unfold S23_11b; rw [T23_13 hE G11, T23_1 hE, hE c23_11b]; kernel_rfl
theorem T23_11 (hE : FX x23 D m E) : S23_11 D m = e23_11 (nrec (fun _ => none) (fun _ G11 st => E c23_11b [.lp v23_11 G11, .blk 4, .sj v23_1 c23_1] st) m) :=
  nrec_emb e23_11 (fun _ _ _ _ _ => none) (fun g => S23_11b D m g) (fun G11 st => E c23_11b [.lp v23_11 G11, .blk 4, .sj v23_1 c23_1] st) rfl (fun g => T23_11b hE g) m
theorem T23_0 (hE : FX x23 D m E) : S23_0 D m = e23_0 (E c23_0 []) := by unfold S23_0; rw [T23_11 hE, hE c23_0]; kernel_rfl
theorem T23_19 (hE : FX x23 D m E) (G18) : S23_19 D m (e23_18 G18) = e23_19 (E c23_19 [.lp v23_18 G18, .blk 0, .sj v23_0 c23_0]) := by unfold S23_19; rw [hE c23_19]; kernel_rfl
theorem T23_21 (hE : FX x23 D m E) (G20) (G18) : S23_21 D m (e23_20 G20) (e23_18 G18) = e23_21 (E c23_21 [.lp v23_20 G20, .blk 2, .blk 1, .sj v23_19 c23_19, .lp v23_18 G18, .blk 0, .sj v23_0 c23_0]) := by unfold S23_21; rw [hE c23_21]; kernel_rfl
theorem T23_22 (hE : FX x23 D m E) (G20) (G18) : S23_22 D m (e23_20 G20) (e23_18 G18) = e23_22 (E (.opq false l23_22 c23_23) [.blk 3, .sj v23_21 c23_21, .lp v23_20 G20, .blk 2, .blk 1, .sj v23_19 c23_19, .lp v23_18 G18, .blk 0, .sj v23_0 c23_0]) := by unfold S23_22; rw [T23_21 hE G20 G18, hE (.opq false l23_22 c23_23)]; kernel_rfl
theorem T23_20b (hE : FX x23 D m E) (G20) (G18) : S23_20b D m (e23_20 G20) (e23_18 G18) = e23_20 (E c23_20b [.lp v23_20 G20, .blk 2, .blk 1, .sj v23_19 c23_19, .lp v23_18 G18, .blk 0, .sj v23_0 c23_0]) := by unfold S23_20b; rw [T23_22 hE G20 G18, T23_19 hE G18, hE c23_20b]; kernel_rfl
theorem T23_20 (hE : FX x23 D m E) (G18) : S23_20 D m (e23_18 G18) = e23_20 (nrec (fun _ => none) (fun _ G20 st => E c23_20b [.lp v23_20 G20, .blk 2, .blk 1, .sj v23_19 c23_19, .lp v23_18 G18, .blk 0, .sj v23_0 c23_0] st) m) :=
  nrec_emb e23_20 (fun _ _ _ _ _ _ _ _ => none) (fun g => S23_20b D m g (e23_18 G18)) (fun G20 st => E c23_20b [.lp v23_20 G20, .blk 2, .blk 1, .sj v23_19 c23_19, .lp v23_18 G18, .blk 0, .sj v23_0 c23_0] st) rfl (fun g => T23_20b hE g G18) m
theorem T23_18b (hE : FX x23 D m E) (G18) : S23_18b D m (e23_18 G18) = e23_18 (E c23_18b [.lp v23_18 G18, .blk 0, .sj v23_0 c23_0]) := by unfold S23_18b; rw [T23_20 hE G18, T23_0 hE, hE c23_18b]; kernel_rfl
theorem T23_18 (hE : FX x23 D m E) : S23_18 D m = e23_18 (nrec (fun _ => none) (fun _ G18 st => E c23_18b [.lp v23_18 G18, .blk 0, .sj v23_0 c23_0] st) m) :=
  nrec_emb e23_18 (fun _ _ _ _ _ => none) (fun g => S23_18b D m g) (fun G18 st => E c23_18b [.lp v23_18 G18, .blk 0, .sj v23_0 c23_0] st) rfl (fun g => T23_18b hE g) m
theorem T23_24 (hE : FX x23 D m E) : S23_24 D m = e23_24 (E c23_e []) := by unfold S23_24; rw [T23_18 hE, hE c23_e]; kernel_rfl
theorem X23 : XTie S23 x23 := X_of fun D m E hE args h u => by unfold S23; rw [T23_24 hE]; kernel_rfl
/- 24 -/
def v24_0 : List Pos := [p5]
def c24_0 : XC := (.sO [.mv p132 q5 .v, .mv p2 q132 .v, .mv p3 (ci 0) tI, .mv p4 (cb true) .b] (.s .ret))
def v24_2 : List Pos := [p1, p5, p20, p21]
def c24_2 : XC := (.s (.oX [.bn p131 .add q21 (ci 1) tI, .mv p21 q131 tI]))
def v24_6 : List Pos := [p1, p5, p10, p20, p21]
def c24_6 : XC := (.s (.oX [.mv p127 q5 .v, .L p128 (.cells 4 q10) .v, .al p129 (.bsl [(.str []), (.bool false), .nils, .nils] 1 [⟨0, 4, q128⟩]), .o ⟨(some p130), (.e (.app 4 72 q127 q129)), none, []⟩ .v, .mv p5 q130 .v]))
def v24_7 : List Pos := [p1, p5, p10, p20, p21]
def c24_7b : XC := (.seq (.seq (.oX [.fa p117 2 q10, .ld p118 q117 .v, .P p119 (.lenl q118) tI, .bn p120 .rem q119 (ci 8) tI, .bn p121 .neq q120 (ci 0) .b]) (.cond q121 .skip (.exit 6))) (.block 7 (.s (.oX [.fa p122 2 q10, .ld p123 q122 .v, .al p124 (.bsl [(.int .u8 (.ofNat 0))] 1 [⟨0, 1, (.c (.int .u8 (.ofNat 0)))⟩]), .o ⟨(some p125), (.e (.app 1 1 q123 q124)), none, []⟩ .v, .fa p126 2 q10, .st q126 q125]))))
def v24_5 : List Pos := [p1, p5, p10, p20, p21]
def c24_5 : XC := (.sj v24_6 (.block 6 (.loop v24_7 c24_7b)) c24_6)
def v24_9 : List Pos := [p1, p5, p7, p8, p9, p10, p11, p20, p21]
def c24_9 : XC := (.s (.oX [.mv p51 q11 tI, .bn p52 .add q51 (ci 1) tI, .mv p11 q52 tI]))
def v24_13 : List Pos := [p1, p5, p7, p8, p9, p10, p11, p15, p17, p20, p21]
def c24_13b : XC := (.seq (.seq (.oX [.mv p102 q17 tI, .mv p103 q8 tI, .bn p104 .lss q102 q103 .b]) (.cond q104 .skip (.exit 4))) (.seq (.block 5 (.seq (.oX [.fa p107 2 q10, .ld p108 q107 .v, .mv p109 q15 (.i .u64), .bn p110 .rem q109 (.c (.int .u64 (.ofNat 256))) (.i .u64), .P p111 (.conv (.ii .u8) q110) tC, .al p112 (.bsl [(.int .u8 (.ofNat 0))] 1 [⟨0, 1, q111⟩]), .o ⟨(some p113), (.e (.app 1 1 q108 q112)), none, []⟩ .v, .fa p114 2 q10, .st q114 q113]) (.oX [.mv p115 q15 (.i .u64), .bn p116 .quo q115 (.c (.int .u64 (.ofNat 256))) (.i .u64), .mv p15 q116 (.i .u64)]))) (.s (.oX [.mv p105 q17 tI, .bn p106 .add q105 (ci 1) tI, .mv p17 q106 tI]))))
def v24_12 : List Pos := [p1, p5, p7, p8, p9, p10, p11, p15, p20, p21]
def c24_12 : XC := (.sO [.mv p17 (ci 0) tI] (.block 4 (.loop v24_13 c24_13b)))
def v24_14 : List Pos := [p1, p5, p7, p8, p9, p10, p11, p12, p15, p16, p20, p21]
def c24_14 : XC := (.s (.oX [.fa p87 3 q10, .ld p88 q87 .v, .fa p89 2 q10, .ld p90 q89 .v, .P p91 (.lenl q90) tI, .fa p92 3 q12, .ld p93 q92 .s, .mv p94 q16 tI, .fa p95 4 q12, .ld p96 q95 tI, .bn p97 .mul q94 q96 tI, .P p98 (.build [(kI 0), (.str []), (kI 0)] [⟨0, 1, q91⟩, ⟨1, 1, q93⟩, ⟨2, 1, q97⟩]) .v, .al p99 (.bsl [(kI 0), (.str []), (kI 0)] 1 [⟨0, 3, q98⟩]), .o ⟨(some p100), (.e (.app 3 32 q88 q99)), none, []⟩ .v, .fa p101 3 q10, .st q101 q100]))
def v24_11 : List Pos := [p1, p5, p7, p8, p9, p10, p11, p12, p15, p20, p21]
def c24_11 : XC := (.sj v24_12 (.sO [.fa p81 3 q12, .ld p82 q81 .s, .bn p83 .neq q82 (.c (.str [])) .b] (.cond q83 (.sO [.mv p16 (ci 4) tI] (.sj v24_14 (.sO [.fa p84 0 q12, .ld p85 q84 tI, .bn p86 .eql q85 (ci 4) .b] (.cond q86 (.s (.oX [.mv p16 (ci 8) tI])) (.s .skip))) c24_14)) (.s .skip))) c24_12)
def v24_10 : List Pos := [p1, p5, p7, p8, p9, p10, p11, p12, p20, p21]
def c24_10 : XC := (.sO [.fa p73 1 q12, .ld p74 q73 tW, .P p75 (.conv (.ii .u64) q74) (.i .u64), .mv p15 q75 (.i .u64)] (.sj v24_11 (.sO [.fa p76 4 q7, .ld p77 q76 tI, .bn p78 .eql q77 (ci 2) .b] (.cond q78 (.s (.oX [.fa p79 2 q12, .ld p80 q79 (.i .u64), .mv p15 q80 (.i .u64)])) (.s .skip))) c24_11))
def v24_8 : List Pos := [p1, p5, p7, p8, p9, p10, p11, p20, p21]
def c24_8b : XC := (.seq (.seq (.oX [.mv p48 q11 tI, .mv p49 q9 tI, .bn p50 .lss q48 q49 .b]) (.cond q50 .skip (.exit 2))) (.sj v24_9 (.block 3 (.sO [.P p53 (.build [(kI 0), (.int .u32 (.ofNat 0)), (.int .u64 (.ofNat 0)), (.str []), (kI 0)] []) .v, .al p12 (.new [(kI 0), (.int .u32 (.ofNat 0)), (.int .u64 (.ofNat 0)), (.str []), (kI 0)]), .ss 5 q12 q53] (.sj v24_10 (.sO [.mv p54 q11 tI, .fa p55 6 q7, .ld p56 q55 .v, .P p57 (.lenl q56) tI, .bn p58 .lss q54 q57 .b] (.cond q58 (.sO [.mv p13 (ci 0) tI] (.sO [.mv p14 (cb true) .b] (.seq (.ops true (XL.of [.L p60 (.cells 1 q1) .v, .fa p61 6 q7, .ld p62 q61 .v, .mv p63 q11 tI, .P p64 (.iaddr (.sl 8) q62 q63) .v, .L p65 (.cells 8 q64) .v, .cl p66 43 [q60, q65] .v, .mv p59 q66 .v, .P p67 (.ext q59 0) .v, .P p68 (.ext q59 1) tI, .P p69 (.ext q59 2) .b, .ss 5 q12 q67, .mv p13 q68 tI, .mv p14 q69 .b])) (.sO [.mv p70 q14 .b, .P p71 (.un .not q70) .b] (.cond q71 (.sO [.mv p72 q13 tI, .mv p2 (.c .nils) .v, .mv p3 q72 tI, .mv p4 (cb false) .b] (.s .ret)) (.s .skip)))))) (.s .skip))) c24_10))) c24_9))
def v24_4 : List Pos := [p1, p5, p7, p8, p9, p20, p21]
def c24_4 : XC := (.sO [.fa p43 3 q7, .ld p44 q43 .s, .fa p45 1 q7, .ld p46 q45 .b, .P p47 (.build [(.str []), (.bool false), .nils, .nils] [⟨0, 1, q44⟩, ⟨1, 1, q46⟩]) .v, .al p10 (.new [(.str []), (.bool false), .nils, .nils]), .ss 4 q10 q47] (.sj v24_5 (.sO [.mv p11 (ci 0) tI] (.block 2 (.loop v24_8 c24_8b))) c24_5))
def v24_3 : List Pos := [p1, p5, p7, p8, p9, p20, p21]
def c24_3 : XC := (.sj v24_4 (.sO [.fa p38 5 q7, .ld p39 q38 tI, .bn p40 .gtr q39 (ci 0) .b] (.cond q40 (.s (.oX [.fa p41 5 q7, .ld p42 q41 tI, .mv p9 q42 tI])) (.s .skip))) c24_4)
def v24_1 : List Pos := [p1, p5, p20, p21]
def c24_1b : XC := (.sO [.bn p22 .lss q21 q20 .b] (.seq (.cond q22 .skip (.exit 0)) (.sj v24_2 (.block 1 (.sO [.mv p23 q21 tI, .mv p6 q23 tI] (.sO [.fa p24 0 q1, .ld p25 q24 .v, .mv p26 q6 tI, .P p27 (.iaddr (.sl 17) q25 q26) .v, .L p28 (.cells 17 q27) .v, .al p7 (.new [(.bool false), (.bool false), (.bool false), (.str []), (kI 0), (kI 0), .nils, (.bool false), .nils, (kI 0), .nils, .nils, (.str []), (kI 0), (kI 0), (kI 0), (kI 0)]), .ss 17 q7 q28] (.seq (.seq (.oX [.fa p29 0 q7, .ld p30 q29 .b, .mv p31 q30 .b, .ge p31 (XL.of [.G p31 false p32 (.faddr 2 q7) .v, .o ⟨(some p33), (.l (.cell q32)), (some (p31, false)), []⟩ .b, .P p34 (.pick q31 (cb true) q33) .b]) p34 .b]) (.cond q34 (.exit 1) .skip)) (.sO [.mv p8 (ci 4) tI, .mv p9 (ci 1) tI] (.sj v24_3 (.sO [.fa p35 4 q7, .ld p36 q35 tI, .bn p37 .eql q36 (ci 2) .b] (.cond q37 (.s (.oX [.mv p8 (ci 8) tI])) (.s .skip))) c24_3)))))) c24_2)))
def c24_e : XC := (.sO [.al p1 (.box q0), .mv p2 (.c .nils) .v, .mv p3 (ci 0) tI, .mv p4 (cb false) .b] (.sO [.mv p5 (.c .nils) .v] (.sj v24_0 (.sO [.fa p18 0 q1, .ld p19 q18 .v, .P p20 (.lenl q19) tI, .mv p21 (ci 0) tI] (.block 0 (.loop v24_1 c24_1b))) c24_0)))
def x24 : XFn := ⟨[.v], false, [(.tmp p2), (.tmp p3), (.tmp p4)], c24_e⟩
def e24_0 (k t5 h) := kN k [(p5, t5)] h
def S24_0 (D : CallD) (m : Nat) (t5 : AV) (h : HP) : Res2 :=
 some (.ret (.tup [t5, (kI 0), (vB true)]) h, .no)
def e24_2 (k t1 t5 t20 t21 h) := kN k [(p1, t1), (p5, t5), (p20, (vI t20)), (p21, (vI t21))] h
def S24_2 (D : CallD) (m : Nat) (g1 : AV → AV → Int → Int → HP → Res2) (t1 t5 : AV) (t20 t21 : Int) (h : HP) : Res2 :=
 let t131 := wrQ .i64 (addQ t21 (Int.ofNat 1))
 g1 t1 t5 t20 t131 h
def e24_6 (k t1 t5 t10 t20 t21 h) := kN k [(p1, t1), (p5, t5), (p10, t10), (p20, (vI t20)), (p21, (vI t21))] h
def S24_6 (D : CallD) (m : Nat) (g1 : AV → AV → Int → Int → HP → Res2) (t1 t5 t10 : AV) (t20 t21 : Int) (h : HP) : Res2 :=
 cellsC 4 t10 h fun t128 =>
 obQ (evA (.bsl [(.str []), (.bool false), .nils, .nils] 1 [⟨0, 4, (.c t128)⟩]) .leaf) fun r21 =>
 let t129 := vkV r21.2 (HP.nxQ h)
 let h22 := HP.newQ h r21.1
 eff (.app 4 72 (.c t5) (.c t129)) h22 fun t130 h23 =>
 S24_2 D m g1 t1 t130 t20 t21 h23
def e24_7 (k t1 t5 t10 t20 t21 h) := kN k [(p1, t1), (p5, t5), (p10, t10), (p20, (vI t20)), (p21, (vI t21))] h
def S24_7b (D : CallD) (m : Nat) (g7 : AV → AV → AV → Int → Int → HP → Res2) (g1 : AV → AV → Int → Int → HP → Res2) (t1 t5 t10 : AV) (t20 t21 : Int) (h : HP) : Res2 :=
 faC 2 t10 fun t117 =>
 cellC t117 h fun t118 =>
 lenC t118 fun vt119 => asI .i64 vt119 fun t119 =>
 let t120 := Int.tmod t119 (Int.ofNat 8)
 let t121 := notQ (eqQ t120 (Int.ofNat 0))
 br t121 (
 faC 2 t10 fun t122 =>
 cellC t122 h fun t123 =>
 let t124 := AV.slice (HP.nxQ h) 0 1 (.exact 1)
 let h24 := nQ h [(vC (Int.ofNat 0))]
 eff (.app 1 1 (.c t123) (.c t124)) h24 fun t125 h25 =>
 faC 2 t10 fun t126 =>
 stoC t126 t125 h25 fun h26 =>
 g7 t1 t5 t10 t20 t21 h26) (
 S24_6 D m g1 t1 t5 t10 t20 t21 h)
def S24_7 (D : CallD) (m : Nat) (g1 : AV → AV → Int → Int → HP → Res2) : AV → AV → AV → Int → Int → HP → Res2 := nrec (fun _ _ _ _ _ _ => none) (fun _ g => S24_7b D m g g1) m
def e24_5 (k t1 t5 t10 t20 t21 h) := kN k [(p1, t1), (p5, t5), (p10, t10), (p20, (vI t20)), (p21, (vI t21))] h
def S24_5 (D : CallD) (m : Nat) (g1 : AV → AV → Int → Int → HP → Res2) (t1 t5 t10 : AV) (t20 t21 : Int) (h : HP) : Res2 :=
 S24_7 D m g1 t1 t5 t10 t20 t21 h
def e24_9 (k t1 t5 t7 t8 t9 t10 t11 t20 t21 h) := kN k [(p1, t1), (p5, t5), (p7, t7), (p8, (vI t8)), (p9, (vI t9)), (p10, t10), (p11, (vI t11)), (p20, (vI t20)), (p21, (vI t21))] h
def S24_9 (D : CallD) (m : Nat) (g8 : AV → AV → AV → Int → Int → AV → Int → Int → Int → HP → Res2) (g1 : AV → AV → Int → Int → HP → Res2) (t1 t5 t7 : AV) (t8 t9 : Int) (t10 : AV) (t11 t20 t21 : Int) (h : HP) : Res2 :=
 let t52 := wrQ .i64 (addQ t11 (Int.ofNat 1))
 g8 t1 t5 t7 t8 t9 t10 t52 t20 t21 h
def e24_13 (k t1 t5 t7 t8 t9 t10 t11 t15 t17 t20 t21 h) := kN k [(p1, t1), (p5, t5), (p7, t7), (p8, (vI t8)), (p9, (vI t9)), (p10, t10), (p11, (vI t11)), (p15, (AV.int .u64 t15)), (p17, (vI t17)), (p20, (vI t20)), (p21, (vI t21))] h
def S24_13b (D : CallD) (m : Nat) (g13 : AV → AV → AV → Int → Int → AV → Int → Int → Int → Int → Int → HP → Res2) (g8 : AV → AV → AV → Int → Int → AV → Int → Int → Int → HP → Res2) (g1 : AV → AV → Int → Int → HP → Res2) (t1 t5 t7 : AV) (t8 t9 : Int) (t10 : AV) (t11 t15 t17 t20 t21 : Int) (h : HP) : Res2 :=
 let t104 := ltQ t17 t8
 br t104 (
 faC 2 t10 fun t107 =>
 cellC t107 h fun t108 =>
 let t110 := Int.tmod t15 (Int.ofNat 256)
 let t111 := wrapF .u8 t110
 let t112 := AV.slice (HP.nxQ h) 0 1 (.exact 1)
 let h29 := nQ h [(vC t111)]
 eff (.app 1 1 (.c t108) (.c t112)) h29 fun t113 h30 =>
 faC 2 t10 fun t114 =>
 stoC t114 t113 h30 fun h31 =>
 let t116 := wrapF .u64 (Int.tdiv t15 (Int.ofNat 256))
 let t106 := wrQ .i64 (addQ t17 (Int.ofNat 1))
 g13 t1 t5 t7 t8 t9 t10 t11 t116 t106 t20 t21 h31) (
 S24_9 D m g8 g1 t1 t5 t7 t8 t9 t10 t11 t20 t21 h)
def S24_13 (D : CallD) (m : Nat) (g8 : AV → AV → AV → Int → Int → AV → Int → Int → Int → HP → Res2) (g1 : AV → AV → Int → Int → HP → Res2) : AV → AV → AV → Int → Int → AV → Int → Int → Int → Int → Int → HP → Res2 := nrec (fun _ _ _ _ _ _ _ _ _ _ _ _ => none) (fun _ g => S24_13b D m g g8 g1) m
def e24_12 (k t1 t5 t7 t8 t9 t10 t11 t15 t20 t21 h) := kN k [(p1, t1), (p5, t5), (p7, t7), (p8, (vI t8)), (p9, (vI t9)), (p10, t10), (p11, (vI t11)), (p15, (AV.int .u64 t15)), (p20, (vI t20)), (p21, (vI t21))] h
def S24_12 (D : CallD) (m : Nat) (g8 : AV → AV → AV → Int → Int → AV → Int → Int → Int → HP → Res2) (g1 : AV → AV → Int → Int → HP → Res2) (t1 t5 t7 : AV) (t8 t9 : Int) (t10 : AV) (t11 t15 t20 t21 : Int) (h : HP) : Res2 :=
 S24_13 D m g8 g1 t1 t5 t7 t8 t9 t10 t11 t15 (Int.ofNat 0) t20 t21 h
def e24_14 (k t1 t5 t7 t8 t9 t10 t11 t12 t15 t16 t20 t21 h) := kN k [(p1, t1), (p5, t5), (p7, t7), (p8, (vI t8)), (p9, (vI t9)), (p10, t10), (p11, (vI t11)), (p12, t12), (p15, (AV.int .u64 t15)), (p16, (vI t16)), (p20, (vI t20)), (p21, (vI t21))] h
def S24_14 (D : CallD) (m : Nat) (g8 : AV → AV → AV → Int → Int → AV → Int → Int → Int → HP → Res2) (g1 : AV → AV → Int → Int → HP → Res2) (t1 t5 t7 : AV) (t8 t9 : Int) (t10 : AV) (t11 : Int) (t12 : AV) (t15 t16 t20 t21 : Int) (h : HP) : Res2 :=
 faC 3 t10 fun t87 =>
 cellC t87 h fun t88 =>
 faC 2 t10 fun t89 =>
 cellC t89 h fun t90 =>
 lenC t90 fun vt91 => asI .i64 vt91 fun t91 =>
 faC 3 t12 fun t92 =>
 ldS t92 h fun t93 =>
 faC 4 t12 fun t95 =>
 ldI t95 h fun t96 =>
 let t97 := wrQ .i64 (t16 * t96)
 let t98 := (AV.agg [(vI t91), (vS t93), (vI t97)])
 let t99 := AV.slice (HP.nxQ h) 0 1 (.exact 1)
 let h32 := nQ h [(vI t91), (vS t93), (vI t97)]
 eff (.app 3 32 (.c t88) (.c t99)) h32 fun t100 h33 =>
 faC 3 t10 fun t101 =>
 stoC t101 t100 h33 fun h34 =>
 S24_12 D m g8 g1 t1 t5 t7 t8 t9 t10 t11 t15 t20 t21 h34
def e24_11 (k t1 t5 t7 t8 t9 t10 t11 t12 t15 t20 t21 h) := kN k [(p1, t1), (p5, t5), (p7, t7), (p8, (vI t8)), (p9, (vI t9)), (p10, t10), (p11, (vI t11)), (p12, t12), (p15, (AV.int .u64 t15)), (p20, (vI t20)), (p21, (vI t21))] h
def S24_11 (D : CallD) (m : Nat) (g8 : AV → AV → AV → Int → Int → AV → Int → Int → Int → HP → Res2) (g1 : AV → AV → Int → Int → HP → Res2) (t1 t5 t7 : AV) (t8 t9 : Int) (t10 : AV) (t11 : Int) (t12 : AV) (t15 t20 t21 : Int) (h : HP) : Res2 :=
 faC 3 t12 fun t81 =>
 ldS t81 h fun t82 =>
 let t83 := !(eqL t82 ([] : LN))
 br t83 (
 faC 0 t12 fun t84 =>
 ldI t84 h fun t85 =>
 let t86 := eqQ t85 (Int.ofNat 4)
 br t86 (
 S24_14 D m g8 g1 t1 t5 t7 t8 t9 t10 t11 t12 t15 (Int.ofNat 8) t20 t21 h) (
 S24_14 D m g8 g1 t1 t5 t7 t8 t9 t10 t11 t12 t15 (Int.ofNat 4) t20 t21 h)) (
 S24_12 D m g8 g1 t1 t5 t7 t8 t9 t10 t11 t15 t20 t21 h)
def e24_10 (k t1 t5 t7 t8 t9 t10 t11 t12 t20 t21 h) := kN k [(p1, t1), (p5, t5), (p7, t7), (p8, (vI t8)), (p9, (vI t9)), (p10, t10), (p11, (vI t11)), (p12, t12), (p20, (vI t20)), (p21, (vI t21))] h
def S24_10 (D : CallD) (m : Nat) (g8 : AV → AV → AV → Int → Int → AV → Int → Int → Int → HP → Res2) (g1 : AV → AV → Int → Int → HP → Res2) (t1 t5 t7 : AV) (t8 t9 : Int) (t10 : AV) (t11 : Int) (t12 : AV) (t20 t21 : Int) (h : HP) : Res2 :=
 faC 1 t12 fun t73 =>
 ldW t73 h fun t74 =>
 obI .u64 (convV (.ii .u64) (vW t74)) fun t75 =>
 faC 4 t7 fun t76 =>
 ldI t76 h fun t77 =>
 let t78 := eqQ t77 (Int.ofNat 2)
 br t78 (
 faC 2 t12 fun t79 =>
 cellC t79 h fun vt80 => asI .u64 vt80 fun t80 =>
 S24_11 D m g8 g1 t1 t5 t7 t8 t9 t10 t11 t12 t80 t20 t21 h) (
 S24_11 D m g8 g1 t1 t5 t7 t8 t9 t10 t11 t12 t75 t20 t21 h)
def e24_8 (k t1 t5 t7 t8 t9 t10 t11 t20 t21 h) := kN k [(p1, t1), (p5, t5), (p7, t7), (p8, (vI t8)), (p9, (vI t9)), (p10, t10), (p11, (vI t11)), (p20, (vI t20)), (p21, (vI t21))] h
def S24_8b (D : CallD) (m : Nat) (g8 : AV → AV → AV → Int → Int → AV → Int → Int → Int → HP → Res2) (g1 : AV → AV → Int → Int → HP → Res2) (t1 t5 t7 : AV) (t8 t9 : Int) (t10 : AV) (t11 t20 t21 : Int) (h : HP) : Res2 :=
 let t50 := ltQ t11 t9
 br t50 (
 let t53 := (AV.agg [(kI 0), (vW (Int.ofNat 0)), (AV.int .u64 (Int.ofNat 0)), (vS ([] : LN)), (kI 0)])
 let t12 := P0 h
 let h27 := nQ h [(kI 0), (.int .u32 (.ofNat 0)), (.int .u64 (.ofNat 0)), (.str []), (kI 0)]
 stsC 5 t12 t53 h27 fun h28 =>
 faC 6 t7 fun t55 =>
 cellC t55 h28 fun t56 =>
 lenC t56 fun vt57 => asI .i64 vt57 fun t57 =>
 let t58 := ltQ t11 t57
 br t58 (
 cellsC 1 t1 h28 fun t60 =>
 faC 6 t7 fun t61 =>
 cellC t61 h28 fun t62 =>
 iasC 8 t62 (vI t11) fun t64 =>
 cellsC 8 t64 h28 fun t65 =>
 cal D 43 [t60, t65] h28 fun t66 h35 =>
 extC t66 0 fun t67 =>
 extC t66 1 fun vt68 => asI .i64 vt68 fun t68 =>
 extC t66 2 fun vt69 => asB vt69 fun t69 =>
 stsC 5 t12 t67 h35 fun h36 =>
 let t71 := !t69
 br t71 (
 some (.ret (.tup [(.nils : AV), (vI t68), (vB false)]) h36, .no)) (
 S24_10 D m g8 g1 t1 t5 t7 t8 t9 t10 t11 t12 t20 t21 h36)) (
 S24_10 D m g8 g1 t1 t5 t7 t8 t9 t10 t11 t12 t20 t21 h28)) (
 S24_5 D m g1 t1 t5 t10 t20 t21 h)
def S24_8 (D : CallD) (m : Nat) (g1 : AV → AV → Int → Int → HP → Res2) : AV → AV → AV → Int → Int → AV → Int → Int → Int → HP → Res2 := nrec (fun _ _ _ _ _ _ _ _ _ _ => none) (fun _ g => S24_8b D m g g1) m
def e24_4 (k t1 t5 t7 t8 t9 t20 t21 h) := kN k [(p1, t1), (p5, t5), (p7, t7), (p8, (vI t8)), (p9, (vI t9)), (p20, (vI t20)), (p21, (vI t21))] h
def S24_4 (D : CallD) (m : Nat) (g1 : AV → AV → Int → Int → HP → Res2) (t1 t5 t7 : AV) (t8 t9 t20 t21 : Int) (h : HP) : Res2 :=
 faC 3 t7 fun t43 =>
 ldS t43 h fun t44 =>
 faC 1 t7 fun t45 =>
 ldB t45 h fun t46 =>
 let t47 := (AV.agg [(vS t44), (vB t46), (.nils : AV), (.nils : AV)])
 let t10 := P0 h
 let h19 := nQ h [(.str []), (.bool false), .nils, .nils]
 stsC 4 t10 t47 h19 fun h20 =>
 S24_8 D m g1 t1 t5 t7 t8 t9 t10 (Int.ofNat 0) t20 t21 h20
def e24_3 (k t1 t5 t7 t8 t9 t20 t21 h) := kN k [(p1, t1), (p5, t5), (p7, t7), (p8, (vI t8)), (p9, (vI t9)), (p20, (vI t20)), (p21, (vI t21))] h
def S24_3 (D : CallD) (m : Nat) (g1 : AV → AV → Int → Int → HP → Res2) (t1 t5 t7 : AV) (t8 t9 t20 t21 : Int) (h : HP) : Res2 :=
 faC 5 t7 fun t38 =>
 ldI t38 h fun t39 =>
 let t40 := ltQ (Int.ofNat 0) t39
 br t40 (
 faC 5 t7 fun t41 =>
 ldI t41 h fun t42 =>
 S24_4 D m g1 t1 t5 t7 t8 t42 t20 t21 h) (
 S24_4 D m g1 t1 t5 t7 t8 t9 t20 t21 h)
def e24_1 (k t1 t5 t20 t21 h) := kN k [(p1, t1), (p5, t5), (p20, (vI t20)), (p21, (vI t21))] h
def S24_1b (D : CallD) (m : Nat) (g1 : AV → AV → Int → Int → HP → Res2) (t1 t5 : AV) (t20 t21 : Int) (h : HP) : Res2 :=
 let t22 := ltQ t21 t20
 br t22 (
 faC 0 t1 fun t24 =>
 cellC t24 h fun t25 =>
 iasC 17 t25 (vI t21) fun t27 =>
 cellsC 17 t27 h fun t28 =>
 let t7 := P0 h
 let h17 := nQ h [(.bool false), (.bool false), (.bool false), (.str []), (kI 0), (kI 0), .nils, (.bool false), .nils, (kI 0), .nils, .nils, (.str []), (kI 0), (kI 0), (kI 0), (kI 0)]
 stsC 17 t7 t28 h17 fun h18 =>
 let t29 := (AV.ptr (HP.nxQ h) (Nat.add 0 0))
 ldB t29 h18 fun t30 =>
 obB (brV t30 (
 some (vB true)) (
 let t32 := (AV.ptr (HP.nxQ h) (Nat.add 0 2))
 ldBV t32 h18 fun t33 =>
 some (vB t33))) fun t34 =>
 br t34 (
 S24_2 D m g1 t1 t5 t20 t21 h18) (
 let t35 := (AV.ptr (HP.nxQ h) (Nat.add 0 4))
 ldI t35 h18 fun t36 =>
 let t37 := eqQ t36 (Int.ofNat 2)
 br t37 (
 S24_3 D m g1 t1 t5 t7 (Int.ofNat 8) (Int.ofNat 1) t20 t21 h18) (
 S24_3 D m g1 t1 t5 t7 (Int.ofNat 4) (Int.ofNat 1) t20 t21 h18))) (
 S24_0 D m t5 h)
def S24_1 (D : CallD) (m : Nat) : AV → AV → Int → Int → HP → Res2 := nrec (fun _ _ _ _ _ => none) (fun _ g => S24_1b D m g) m
def e24_15 (k t0 h) := kN k [(p0, t0)] h
def S24_15 (D : CallD) (m : Nat) (t0 : AV) (h : HP) : Res2 :=
 let t1 := P0 h
 let h16 := HP.newQ h (.cells true (AV.cells t0))
 let t18 := (AV.ptr (HP.nxQ h) (Nat.add 0 0))
 cellC t18 h16 fun t19 =>
 lenC t19 fun vt20 => asI .i64 vt20 fun t20 =>
 S24_1 D m t1 (.nils : AV) t20 (Int.ofNat 0) h16
def S24 : SFn := fun D m args h u => nou u <| popV args fun t0 args => endA args (S24_15 D m t0 h)
theorem T24_0 (hE : FX x24 D m E) : S24_0 D m = e24_0 (E c24_0 []) := by unfold S24_0; rw [hE c24_0]; kernel_rfl
theorem T24_2 (hE : FX x24 D m E) (G1) : S24_2 D m (e24_1 G1) = e24_2 (E c24_2 [.lp v24_1 G1, .blk 0, .sj v24_0 c24_0]) := by unfold S24_2; rw [hE c24_2]; kernel_rfl
theorem T24_6 (hE : FX x24 D m E) (G1) : S24_6 D m (e24_1 G1) = e24_6 (E c24_6 [.blk 1, .sj v24_2 c24_2, .lp v24_1 G1, .blk 0, .sj v24_0 c24_0]) := by unfold S24_6; rw [T24_2 hE G1, hE c24_6]; kernel_rfl
theorem T24_7b (hE : FX x24 D m E) (G7) (G1) : S24_7b D m (e24_7 G7) (e24_1 G1) = e24_7 (E c24_7b [.lp v24_7 G7, .blk 6, .sj v24_6 c24_6, .blk 1, .sj v24_2 c24_2, .lp v24_1 G1, .blk 0, .sj v24_0 c24_0]) := by unfold S24_7b; rw [T24_6 hE G1, hE c24_7b]; kernel_rfl
theorem T24_7 (hE : FX x24 D m E) (G1) : S24_7 D m (e24_1 G1) = e24_7 (nrec (fun _ => none) (fun _ G7 st => E c24_7b [.lp v24_7 G7, .blk 6, .sj v24_6 c24_6, .blk 1, .sj v24_2 c24_2, .lp v24_1 G1, .blk 0, .sj v24_0 c24_0] st) m) :=
  nrec_emb e24_7 (fun _ _ _ _ _ _ => none) (fun g => S24_7b D m g (e24_1 G1)) (fun G7 st => E c24_7b [.lp v24_7 G7, .blk 6, .sj v24_6 c24_6, .blk 1, .sj v24_2 c24_2, .lp v24_1 G1, .blk 0, .sj v24_0 c24_0] st) rfl (fun g => T24_7b hE g G1) m
theorem T24_5 (hE : FX x24 D m E) (G1) : S24_5 D m (e24_1 G1) = e24_5 (E c24_5 [.blk 1, .sj v24_2 c24_2, .lp v24_1 G1, .blk 0, .sj v24_0 c24_0]) := by unfold S24_5; rw [T24_7 hE G1, hE c24_5]; kernel_rfl
theorem T24_9 (hE : FX x24 D m E) (G8) (G1) : S24_9 D m (e24_8 G8) (e24_1 G1) = e24_9 (E c24_9 [.lp v24_8 G8, .blk 2, .sj v24_5 c24_5, .blk 1, .sj v24_2 c24_2, .lp v24_1 G1, .blk 0, .sj v24_0 c24_0]) := by unfold S24_9; rw [hE c24_9]; kernel_rfl
theorem T24_13b (hE : FX x24 D m E) (G13) (G8) (G1) : S24_13b D m (e24_13 G13) (e24_8 G8) (e24_1 G1) = e24_13 (E c24_13b [.lp v24_13 G13, .blk 4, .blk 3, .sj v24_9 c24_9, .lp v24_8 G8, .blk 2, .sj v24_5 c24_5, .blk 1, .sj v24_2 c24_2, .lp v24_1 G1, .blk 0, .sj v24_0 c24_0]) := by unfold S24_13b; rw [T24_9 hE G8 G1, hE c24_13b]; kernel_rfl
theorem T24_13 (hE : FX x24 D m E) (G8) (G1) : S24_13 D m (e24_8 G8) (e24_1 G1) = e24_13 (nrec (fun _ => none) (fun _ G13 st => E c24_13b [.lp v24_13 G13, .blk 4, .blk 3, .sj v24_9 c24_9, .lp v24_8 G8, .blk 2, .sj v24_5 c24_5, .blk 1, .sj v24_2 c24_2, .lp v24_1 G1, .blk 0, .sj v24_0 c24_0] st) m) :=
  nrec_emb e24_13 (fun _ _ _ _ _ _ _ _ _ _ _ _ => none) (fun g => S24_13b D m g (e24_8 G8) (e24_1 G1)) (fun G13 st => E c24_13b [.lp v24_13 G13, .blk 4, .blk 3, .sj v24_9 c24_9, .lp v24_8 G8, .blk 2, .sj v24_5 c24_5, .blk 1, .sj v24_2 c24_2, .lp v24_1 G1, .blk 0, .sj v24_0 c24_0] st) rfl (fun g => T24_13b hE g G8 G1) m
theorem T24_12 (hE : FX x24 D m E) (G8) (G1) : S24_12 D m (e24_8 G8) (e24_1 G1) = e24_12 (E c24_12 [.blk 3, .sj v24_9 c24_9, .lp v24_8 G8, .blk 2, .sj v24_5 c24_5, .blk 1, .sj v24_2 c24_2, .lp v24_1 G1, .blk 0, .sj v24_0 c24_0]) := by unfold S24_12; rw [T24_13 hE G8 G1, hE c24_12]; kernel_rfl
theorem T24_14 (hE : FX x24 D m E) (G8) (G1) : S24_14 D m (e24_8 G8) (e24_1 G1) = e24_14 (E c24_14 [.sj v24_12 c24_12, .blk 3, .sj v24_9 c24_9, .lp v24_8 G8, .blk 2, .sj v24_5 c24_5, .blk 1, .sj v24_2 c24_2, .lp v24_1 G1, .blk 0, .sj v24_0 c24_0]) := by unfold S24_14; rw [T24_12 hE G8 G1, hE c24_14]; kernel_rfl
theorem T24_11 (hE : FX x24 D m E) (G8) (G1) : S24_11 D m (e24_8 G8) (e24_1 G1) = e24_11 (E c24_11 [.blk 3, .sj v24_9 c24_9, .lp v24_8 G8, .blk 2, .sj v24_5 c24_5, .blk 1, .sj v24_2 c24_2, .lp v24_1 G1, .blk 0, .sj v24_0 c24_0]) := by unfold S24_11; rw [T24_14 hE G8 G1, T24_12 hE G8 G1, hE c24_11]; kernel_rfl
theorem T24_10 (hE : FX x24 D m E) (G8) (G1) : S24_10 D m (e24_8 G8) (e24_1 G1) = e24_10 (E c24_10 [.blk 3, .sj v24_9 c24_9, .lp v24_8 G8, .blk 2, .sj v24_5 c24_5, .blk 1, .sj v24_2 c24_2, .lp v24_1 G1, .blk 0, .sj v24_0 c24_0]) := by unfold S24_10; rw [T24_11 hE G8 G1, hE c24_10]; kernel_rfl
theorem T24_8b (hE : FX x24 D m E) (G8) (G1) : S24_8b D m (e24_8 G8) (e24_1 G1) = e24_8 (E c24_8b [.lp v24_8 G8, .blk 2, .sj v24_5 c24_5, .blk 1, .sj v24_2 c24_2, .lp v24_1 G1, .blk 0, .sj v24_0 c24_0]) := by unfold S24_8b; rw [T24_10 hE G8 G1, T24_5 hE G1, hE c24_8b]; kernel_rfl
theorem T24_8 (hE : FX x24 D m E) (G1) : S24_8 D m (e24_1 G1) = e24_8 (nrec (fun _ => none) (fun _ G8 st => E c24_8b [.lp v24_8 G8, .blk 2, .sj v24_5 c24_5, .blk 1, .sj v24_2 c24_2, .lp v24_1 G1, .blk 0, .sj v24_0 c24_0] st) m) :=
  nrec_emb e24_8 (fun _ _ _ _ _ _ _ _ _ _ => none) (fun g => S24_8b D m g (e24_1 G1)) (fun G8 st => E c24_8b [.lp v24_8 G8, .blk 2, .sj v24_5 c24_5, .blk 1, .sj v24_2 c24_2, .lp v24_1 G1, .blk 0, .sj v24_0 c24_0] st) rfl (fun g => T24_8b hE g G1) m
theorem T24_4 (hE : FX x24 D m E) (G1) : S24_4 D m (e24_1 G1) = e24_4 (E c24_4 [.blk 1, .sj v24_2 c24_2, .lp v24_1 G1, .blk 0, .sj v24_0 c24_0]) := by unfold S24_4; rw [T24_8 hE G1, hE c24_4]; kernel_rfl
theorem T24_3 (hE : FX x24 D m E) (G1) : S24_3 D m (e24_1 G1) = e24_3 (E c24_3 [.blk 1, .sj v24_2 c24_2, .lp v24_1 G1, .blk 0, .sj v24_0 c24_0]) := by unfold S24_3; rw [T24_4 hE G1, hE c24_3]; kernel_rfl
theorem T24_1b (hE : FX x24 D m E) (G1) : S24_1b D m (e24_1 G1) = e24_1 (E c24_1b [.lp v24_1 G1, .blk 0, .sj v24_0 c24_0]) := by unfold S24_1b; rw [T24_2 hE G1, T24_3 hE G1, T24_0 hE, hE c24_1b]; kernel_rfl
theorem T24_1 (hE : FX x24 D m E) : S24_1 D m = e24_1 (nrec (fun _ => none) (fun _ G1 st => E c24_1b [.lp v24_1 G1, .blk 0, .sj v24_0 c24_0] st) m) :=
  nrec_emb e24_1 (fun _ _ _ _ _ => none) (fun g => S24_1b D m g) (fun G1 st => E c24_1b [.lp v24_1 G1, .blk 0, .sj v24_0 c24_0] st) rfl (fun g => T24_1b hE g) m
theorem T24_15 (hE : FX x24 D m E) : S24_15 D m = e24_15 (E c24_e []) := by unfold S24_15; rw [T24_1 hE, hE c24_e]; kernel_rfl
theorem X24 : XTie S24 x24 := X_of fun D m E hE args h u => by unfold S24; rw [T24_15 hE]; kernel_rfl
/- 25 -/
def c25_e : XC := (.sO [.mv p4 (.c .nilp) .v] (.sO [.al p5 (.mkmap), .al p6 (.mkmap), .mv p7 q0 .v, .mv p8 q1 tI, .al p9 (.mkmap), .P p10 (.build [.nilm, .nilm, .nils, .nils, (kI 0), (kI 0), .nilm, (kI 0), (kI 0)] [⟨0, 1, q5⟩, ⟨1, 1, q6⟩, ⟨2, 1, q7⟩, ⟨4, 1, q8⟩, ⟨6, 1, q9⟩]) .v, .al p11 (.box q10), .mv p4 q11 .v] (.s .ret)))
def x25 : XFn := ⟨[.v, tI], false, [(.tmp p4)], c25_e⟩
def e25_0 (k t0 t1 h) := kN k [(p0, t0), (p1, (vI t1))] h
def S25_0 (D : CallD) (m : Nat) (t0 : AV) (t1 : Int) (h : HP) : Res2 :=
 let t5 := AV.map (HP.nxQ h)
 let h1 := HP.newQ h (.map [] 0)
 let t6 := AV.map (HP.nxQ h1)
 let h2 := HP.newQ h1 (.map [] 0)
 let t9 := AV.map (HP.nxQ h2)
 let h3 := HP.newQ h2 (.map [] 0)
 obQ (evP (.build [.nilm, .nilm, .nils, .nils, (kI 0), (kI 0), .nilm, (kI 0), (kI 0)] [⟨0, 1, (.c t5)⟩, ⟨1, 1, (.c t6)⟩, ⟨2, 1, (.c t0)⟩, ⟨4, 1, (.c (vI t1))⟩, ⟨6, 1, (.c t9)⟩]) .leaf) fun t10 =>
 let t11 := P0 h3
 let h4 := HP.newQ h3 (.cells true (AV.cells t10))
 some (.ret t11 h4, .no)
def S25 : SFn := fun D m args h u => nou u <| popV args fun t0 args => popI .i64 args fun t1 args => endA args (S25_0 D m t0 t1 h)
theorem T25_0 (hE : FX x25 D m E) : S25_0 D m = e25_0 (E c25_e []) := by unfold S25_0; rw [hE c25_e]; kernel_rfl
theorem X25 : XTie S25 x25 := X_of fun D m E hE args h u => by unfold S25; rw [T25_0 hE]; kernel_rfl
/- 26 -/
def c26_e : XC := (.sO [.al p2 (.box q0), .al p3 (.box q1), .al p4 (.new [(kI 0), (.int .u32 (.ofNat 0)), .nils, (kI 0)])] (.sO [.P p7 (.mkfn 44 [] [q4, q2]) .v, .o ⟨none, (.defer (.val q7) []), none, []⟩ .v] (.sO [.ld p8 q2 .v, .L p9 (.cells 1 q3) .v, .cl p10 45 [q8, q9] .v] (.sO [.ld p12 q2 .v, .P p13 (.nilck q12) .v, .fa p14 0 q13, .ld p15 q14 .v, .L p16 (.look .str (.agg [(.bool false), (.bool false), (.bool false), (.str []), (kI 0), (kI 0), .nils, (.bool false), .nils, (kI 0), .nils, .nils, (.str []), (kI 0), (kI 0), (kI 0), (kI 0)]) true q15 (.c (.str [109, 97, 105, 110]))) .v, .mv p11 q16 .v, .P p17 (.ext q11 0) .v, .P p18 (.ext q11 1) .b, .al p5 (.new [(.bool false), (.bool false), (.bool false), (.str []), (kI 0), (kI 0), .nils, (.bool false), .nils, (kI 0), .nils, .nils, (.str []), (kI 0), (kI 0), (kI 0), (kI 0)]), .ss 17 q5 q17, .mv p6 q18 .b] (.sO [.mv p19 q6 .b, .cl p20 46 [q19] .v] (.sO [.ld p21 q2 .v, .L p22 (.cells 17 q5) .v, .cl p23 47 [q21, q22, (.c .nils)] .v, .P p24 (.field 0 5 true q23) .v, .P p25 (.field 1 1 false q24) tW, .P p26 (.build [(kI 0), (.int .u32 (.ofNat 0)), .nils, (kI 0)] [⟨0, 1, (ci 1)⟩, ⟨1, 1, q25⟩]) .v, .ss 4 q4 q26] (.s .ret)))))))
def x26 : XFn := ⟨[.v, .v], false, [(.cells 4 p4)], c26_e⟩
def e26_0 (k t0 t1 h) := kN k [(p0, t0), (p1, t1)] h
def S26_0 (D : CallD) (m : Nat) (t0 t1 : AV) (h : HP) : Res2 :=
 let t2 := P0 h
 let h1 := HP.newQ h (.cells true (AV.cells t0))
 let t3 := P0 h1
 let h2 := HP.newQ h1 (.cells true (AV.cells t1))
 let t4 := P0 h2
 let h3 := nQ h2 [(kI 0), (.int .u32 (.ofNat 0)), .nils, (kI 0)]
 let t7 := (AV.fn 44 [] [t4, t2])
 let d4 : List ADef := ⟨44, [t4, t2]⟩ :: []
 cellC t2 h3 fun t8 =>
 cellsC 1 t3 h3 fun t9 =>
 calC D 45 [t8, t9] h3 (fun t10 h5 =>
 cellC t2 h5 fun t12 =>
 nilckC t12 fun t13 =>
 faC 0 t13 fun t14 =>
 cellC t14 h5 fun t15 =>
 obQ (evL (.look .str (.agg [(.bool false), (.bool false), (.bool false), (.str []), (kI 0), (kI 0), .nils, (.bool false), .nils, (kI 0), .nils, .nils, (.str []), (kI 0), (kI 0), (kI 0), (kI 0)]) true (.c t15) (.c (vS ([109, 97, 105, 110] : LN)))) .leaf h5) fun t16 =>
 extC t16 0 fun t17 =>
 extC t16 1 fun vt18 => asB vt18 fun t18 =>
 let t5 := P0 h5
 let h6 := nQ h5 [(.bool false), (.bool false), (.bool false), (.str []), (kI 0), (kI 0), .nils, (.bool false), .nils, (kI 0), .nils, .nils, (.str []), (kI 0), (kI 0), (kI 0), (kI 0)]
 stsC 17 t5 t17 h6 fun h7 =>
 calC D 46 [(vB t18)] h7 (fun t20 h8 =>
 cellC t2 h8 fun t21 =>
 cellsC 17 t5 h8 fun t22 =>
 calC D 47 [t21, t22, (.nils : AV)] h8 (fun t23 h9 =>
 fldC 0 5 true t23 fun t24 =>
 fldC 1 1 false t24 fun vt25 => asI .u32 vt25 fun t25 =>
 let t26 := (AV.agg [(kI 1), (vW t25), (.nils : AV), (kI 0)])
 stsC 4 t4 t26 h9 fun h10 =>
 XFn.endOf x26 D (.ret ⟨(mkT [(p4, t4)]), h10, d4, .no⟩)) (fun ch9 gh9 => XFn.endOf x26 D (.panic ch9 ⟨(mkT [(p4, t4)]), gh9, d4, .no⟩))) (fun ch8 gh8 => XFn.endOf x26 D (.panic ch8 ⟨(mkT [(p4, t4)]), gh8, d4, .no⟩))) (fun ch5 gh5 => XFn.endOf x26 D (.panic ch5 ⟨(mkT [(p4, t4)]), gh5, d4, .no⟩))
def S26 : SFn := fun D m args h u => nou u <| popV args fun t0 args => popV args fun t1 args => endA args (S26_0 D m t0 t1 h)
theorem T26_0 (hE : FX x26 D m E) : S26_0 D m = e26_0 (E c26_e []) := by unfold S26_0; rw [hE c26_e]; kernel_rfl
theorem X26 : XTie S26 x26 := X_of fun D m E hE args h u => by unfold S26; rw [T26_0 hE]; kernel_rfl
/- 34 -/
def v34_0 : List Pos := [p2, p8, p9]
def c34_0 : XC := (.seq (.seq (.oX [.fa p46 3 q8, .ld p47 q46 tI, .bn p48 .neq q47 (ci 0) .b]) (.cond q48 (.seq (.ops true (XL.of [.P p49 (.build [.nils] []) .v, .fa p50 4 q8, .ld p51 q50 tI, .fa p52 3 q8, .ld p53 q52 tI, .o ⟨none, (.e (.stores 1 q2 q49)), none, [⟨none, .cell q50, p51⟩, ⟨none, .cell q52, p53⟩]⟩ .v, .mv p3 q51 tI, .mv p4 q53 tI])) .ret) .skip)) (.sO [.L p54 (.cells 1 q9) .v, .ss 1 q2 q54, .mv p3 (ci 0) tI, .mv p4 (ci 0) tI] (.s .ret)))
def v34_2 : List Pos := [p2, p8, p9]
def c34_2 : XC := (.block 1 (.sO [.P p34 (.build [(.bool false), (.bool false), (.bool false), (.str []), (kI 0), (kI 0), .nils, (.bool false), .nils, (kI 0), .nils, .nils, (.str []), (kI 0), (kI 0), (kI 0), (kI 0)] []) .v, .al p10 (.new [(.bool false), (.bool false), (.bool false), (.str []), (kI 0), (kI 0), .nils, (.bool false), .nils, (kI 0), .nils, .nils, (.str []), (kI 0), (kI 0), (kI 0), (kI 0)]), .ss 17 q10 q34] (.sO [.L p36 (.cells 5 q8) .v, .cl p37 51 [q36] .v, .mv p35 q37 .v, .P p38 (.ext q35 0) .v, .P p39 (.ext q35 1) .v, .ss 5 q8 q38, .ss 17 q10 q39] (.s (.oX [.fa p40 0 q9, .ld p41 q40 .v, .L p42 (.cells 17 q10) .v, .al p43 (.bsl [(.bool false), (.bool false), (.bool false), (.str []), (kI 0), (kI 0), .nils, (.bool false), .nils, (kI 0), .nils, .nils, (.str []), (kI 0), (kI 0), (kI 0), (kI 0)] 1 [⟨0, 17, q42⟩]), .o ⟨(some p44), (.e (.app 17 200 q41 q43)), none, []⟩ .v, .fa p45 0 q9, .st q45 q44])))))
def c34_4 : XC := (.cond q33 (.s .skip) (.s (.exit 0)))
def l34_3 : XL := (XL.of [])
def v34_1 : List Pos := [p2, p8, p9]
def c34_1b : XC := (.sj v34_2 (.opq false (XL.pre [.fa p25 3 q8, .ld p26 q25 tI, .bn p27 .eql q26 (ci 0) .b, .mv p28 q27 .b, .sp p28, .o ⟨(some p29), (.l (.cells 5 q8)), (some (p28, true)), []⟩ .v, .o ⟨(some p30), (.call (.fn 50) [q29]), (some (p28, true)), []⟩ .v, .G p28 true p31 (.field 0 1 false q30) tI, .G p28 true p32 (.bin .neq q31 (ci 0)) .b, .P p33 (.pick q28 q32 (cb false)) .b, .jn p28 [p2, p8, p9, p33]] l34_3) c34_4) c34_2)
def c34_e : XC := (.sO [.al p2 (.new [.nils]), .mv p3 (ci 0) tI, .mv p4 (ci 0) tI] (.sO [.mv p12 q0 .s, .cl p13 49 [q12] .v, .mv p11 q13 .v, .P p14 (.ext q11 0) .v, .P p15 (.ext q11 1) tI, .P p16 (.ext q11 2) tI, .mv p5 q14 .v, .mv p6 q15 tI, .mv p7 q16 tI] (.seq (.seq (.oX [.mv p17 q7 tI, .bn p18 .neq q17 (ci 0) .b]) (.cond q18 (.seq (.oX [.P p19 (.build [.nils] []) .v, .mv p20 q6 tI, .mv p21 q7 tI, .ss 1 q2 q19, .mv p3 q20 tI, .mv p4 q21 tI]) .ret) .skip)) (.sO [.mv p22 q5 .v, .P p23 (.build [.nils, (kI 0), (kI 0), (kI 0), (kI 0)] [⟨0, 1, q22⟩]) .v, .al p8 (.new [.nils, (kI 0), (kI 0), (kI 0), (kI 0)]), .ss 5 q8 q23] (.sO [.P p24 (.build [.nils] []) .v, .al p9 (.new [.nils]), .ss 1 q9 q24] (.sj v34_0 (.block 0 (.loop v34_1 c34_1b)) c34_0))))))
def x34 : XFn := ⟨[.s], false, [(.cells 1 p2), (.tmp p3), (.tmp p4)], c34_e⟩
def e34_0 (k t2 t8 t9 h) := kN k [(p2, t2), (p8, t8), (p9, t9)] h
def S34_0 (D : CallD) (m : Nat) (t2 t8 t9 : AV) (h : HP) : Res2 :=
 faC 3 t8 fun t46 =>
 ldI t46 h fun t47 =>
 let t48 := notQ (eqQ t47 (Int.ofNat 0))
 br t48 (
 let t49 := (AV.agg [(.nils : AV)])
 faC 4 t8 fun t50 =>
 ldI t50 h fun t51 =>
 faC 3 t8 fun t52 =>
 ldI t52 h fun t53 =>
 stsC 1 t2 t49 h fun h13 =>
 br (againE (.stores 1 q2 q49) [⟨none, .cell q50, p51⟩, ⟨none, .cell q52, p53⟩] (mkT [(p2, t2), (p53, (vI t53)), (p52, t52), (p51, (vI t51)), (p50, t50)]) h13) (
 cellsC 1 t2 h13 fun t2a =>
 some (.ret (.tup [t2a, (vI t51), (vI t53)]) h13, .no)) none) (
 cellsC 1 t9 h fun t54 =>
 stsC 1 t2 t54 h fun h14 =>
 cellsC 1 t2 h14 fun t2a =>
 some (.ret (.tup [t2a, (kI 0), (kI 0)]) h14, .no))
def e34_2 (k t2 t8 t9 h) := kN k [(p2, t2), (p8, t8), (p9, t9)] h
def S34_2 (D : CallD) (m : Nat) (g1 : AV → AV → AV → HP → Res2) (t2 t8 t9 : AV) (h : HP) : Res2 :=
 let t34 := (AV.agg [(vB false), (vB false), (vB false), (vS ([] : LN)), (kI 0), (kI 0), (.nils : AV), (vB false), (.nils : AV), (kI 0), (.nils : AV), (.nils : AV), (vS ([] : LN)), (kI 0), (kI 0), (kI 0), (kI 0)])
 let t10 := P0 h
 let h15 := nQ h [(.bool false), (.bool false), (.bool false), (.str []), (kI 0), (kI 0), .nils, (.bool false), .nils, (kI 0), .nils, .nils, (.str []), (kI 0), (kI 0), (kI 0), (kI 0)]
 stsC 17 t10 t34 h15 fun h16 =>
 cellsC 5 t8 h16 fun t36 =>
 cal D 51 [t36] h16 fun t37 h17 =>
 extC t37 0 fun t38 =>
 extC t37 1 fun t39 =>
 stsC 5 t8 t38 h17 fun h18 =>
 stsC 17 t10 t39 h18 fun h19 =>
 faC 0 t9 fun t40 =>
 cellC t40 h19 fun t41 =>
 cellsC 17 t10 h19 fun t42 =>
 obQ (evA (.bsl [(.bool false), (.bool false), (.bool false), (.str []), (kI 0), (kI 0), .nils, (.bool false), .nils, (kI 0), .nils, .nils, (.str []), (kI 0), (kI 0), (kI 0), (kI 0)] 1 [⟨0, 17, (.c t42)⟩]) .leaf) fun r20 =>
 let t43 := vkV r20.2 (HP.nxQ h19)
 let h21 := HP.newQ h19 r20.1
 eff (.app 17 200 (.c t41) (.c t43)) h21 fun t44 h22 =>
 faC 0 t9 fun t45 =>
 stoC t45 t44 h22 fun h23 =>
 g1 t2 t8 t9 h23
def e34_3 (k t2 t8 t9 t33 h) := kN k [(p2, t2), (p8, t8), (p9, t9), (p33, (vB t33))] h
def S34_3 (D : CallD) (m : Nat) (g1 : AV → AV → AV → HP → Res2) (t2 t8 t9 : AV) (t33 : Bool) (h : HP) : Res2 :=
 br t33 (
 S34_2 D m g1 t2 t8 t9 h) (
 S34_0 D m t2 t8 t9 h)
def e34_1 (k t2 t8 t9 h) := kN k [(p2, t2), (p8, t8), (p9, t9)] h
def S34_1b (D : CallD) (m : Nat) (g1 : AV → AV → AV → HP → Res2) (t2 t8 t9 : AV) (h : HP) : Res2 :=
 faC 3 t8 fun t25 =>
 ldI t25 h fun t26 =>
 let t27 := eqQ t26 (Int.ofNat 0)
 br t27 (
 cellsC 5 t8 h fun t29 =>
 cal D 50 [t29] h fun t30 h24 =>
 fldC 0 1 false t30 fun vt31 => asI .i64 vt31 fun t31 =>
 let t32 := notQ (eqQ t31 (Int.ofNat 0))
 S34_3 D m g1 t2 t8 t9 t32 h24) (
 S34_3 D m g1 t2 t8 t9 false h)
def S34_1 (D : CallD) (m : Nat) : AV → AV → AV → HP → Res2 := nrec (fun _ _ _ _ => none) (fun _ g => S34_1b D m g) m
def e34_5 (k t0 h) := kN k [(p0, (vS t0))] h
def S34_5 (D : CallD) (m : Nat) (t0 : LN) (h : HP) : Res2 :=
 let t2 := P0 h
 let h6 := nQ h [.nils]
 cal D 49 [(vS t0)] h6 fun t13 h7 =>
 extC t13 0 fun t14 =>
 extC t13 1 fun vt15 => asI .i64 vt15 fun t15 =>
 extC t13 2 fun vt16 => asI .i64 vt16 fun t16 =>
 let t18 := notQ (eqQ t16 (Int.ofNat 0))
 br t18 (
 let t19 := (AV.agg [(.nils : AV)])
 stsC 1 t2 t19 h7 fun h8 =>
 cellsC 1 t2 h8 fun t2a =>
 some (.ret (.tup [t2a, (vI t15), (vI t16)]) h8, .no)) (
 obQ (evP (.build [.nils, (kI 0), (kI 0), (kI 0), (kI 0)] [⟨0, 1, (.c t14)⟩]) .leaf) fun t23 =>
 let t8 := P0 h7
 let h9 := nQ h7 [.nils, (kI 0), (kI 0), (kI 0), (kI 0)]
 stsC 5 t8 t23 h9 fun h10 =>
 let t24 := (AV.agg [(.nils : AV)])
 let t9 := P0 h10
 let h11 := nQ h10 [.nils]
 stsC 1 t9 t24 h11 fun h12 =>
 S34_1 D m t2 t8 t9 h12)
def S34 : SFn := fun D m args h u => nou u <| popS args fun t0 args => endA args (S34_5 D m t0 h)
theorem T34_0 (hE : FX x34 D m E) : S34_0 D m = e34_0 (E c34_0 []) := by unfold S34_0; rw [hE c34_0]; kernel_rfl
theorem T34_2 (hE : FX x34 D m E) (G1) : S34_2 D m (e34_1 G1) = e34_2 (E c34_2 [.lp v34_1 G1, .blk 0, .sj v34_0 c34_0]) := by unfold S34_2; rw [hE c34_2]; kernel_rfl
theorem T34_3 (hE : FX x34 D m E) (G1) : S34_3 D m (e34_1 G1) = e34_3 (E (.opq false l34_3 c34_4) [.sj v34_2 c34_2, .lp v34_1 G1, .blk 0, .sj v34_0 c34_0]) := by unfold S34_3; rw [T34_2 hE G1, T34_0 hE, hE (.opq false l34_3 c34_4)]; kernel_rfl
theorem T34_1b (hE : FX x34 D m E) (G1) : S34_1b D m (e34_1 G1) = e34_1 (E c34_1b [.lp v34_1 G1, .blk 0, .sj v34_0 c34_0]) := by unfold S34_1b; rw [T34_3 hE G1, hE c34_1b]; kernel_rfl
theorem T34_1 (hE : FX x34 D m E) : S34_1 D m = e34_1 (nrec (fun _ => none) (fun _ G1 st => E c34_1b [.lp v34_1 G1, .blk 0, .sj v34_0 c34_0] st) m) :=
  nrec_emb e34_1 (fun _ _ _ _ => none) (fun g => S34_1b D m g) (fun G1 st => E c34_1b [.lp v34_1 G1, .blk 0, .sj v34_0 c34_0] st) rfl (fun g => T34_1b hE g) m
theorem T34_5 (hE : FX x34 D m E) : S34_5 D m = e34_5 (E c34_e []) := by unfold S34_5; rw [T34_1 hE, hE c34_e]; kernel_rfl
theorem X34 : XTie S34 x34 := X_of fun D m E hE args h u => by unfold S34; rw [T34_5 hE]; kernel_rfl
/- 35 -/
def v35_1 : List Pos := [p2, p5, p6]
def c35_1 : XC := (.seq (.seq (.oX [.fa p109 5 q5, .ld p110 q109 tI, .bn p111 .neq q110 (ci 0) .b]) (.cond q111 (.seq (.ops true (XL.of [.P p112 (.build [.nils] []) .v, .fa p113 6 q5, .ld p114 q113 tI, .fa p115 5 q5, .ld p116 q115 tI, .o ⟨none, (.e (.stores 1 q2 q112)), none, [⟨none, .cell q113, p114⟩, ⟨none, .cell q115, p116⟩]⟩ .v, .mv p3 q114 tI, .mv p4 q116 tI])) .ret) .skip)) (.sO [.L p117 (.cells 1 q6) .v, .ss 1 q2 q117, .mv p3 (ci 0) tI, .mv p4 (ci 0) tI] (.s .ret)))
def v35_3 : List Pos := [p1, p2, p5, p6, p47, p48]
def c35_3 : XC := (.s (.oX [.bn p108 .add q48 (ci 1) tI, .mv p48 q108 tI]))
def v35_4 : List Pos := [p1, p2, p5, p6, p9, p10, p47, p48]
def c35_4 : XC := (.sO [.mv p98 q10 .b, .P p99 (.un .not q98) .b] (.cond q99 (.s (.ops true (XL.of [.L p100 (.cells 7 q5) .v, .fa p101 0 q1, .ld p102 q101 .v, .mv p103 q9 tI, .P p104 (.iaddr (.sl 17) q102 q103) .v, .fa p105 16 q104, .ld p106 q105 tI, .cl p107 54 [q100, (ci 13), q106] .v, .ss 7 q5 q107]))) (.s .skip)))
def v35_5 : List Pos := [p1, p2, p5, p6, p9, p10, p47, p48, p69, p70]
def c35_5b : XC := (.sO [.bn p71 .lss q70 q69 .b] (.seq (.cond q71 .skip (.exit 4)) (.seq (.block 5 (.seq (.oX [.mv p72 q70 tI, .mv p11 q72 tI]) (.ops true (XL.of [.mv p73 q10 .b, .mv p74 q73 .b, .ge p74 (XL.of [.G p74 false p75 (.faddr 0 q1) .v, .o ⟨(some p76), (.l (.cell q75)), (some (p74, false)), []⟩ .v, .G p74 false p77 (.mov q11) tI, .G p74 false p78 (.iaddr (.sl 17) q76 q77) .v, .G p74 false p79 (.faddr 3 q78) .v, .o ⟨(some p80), (.l (.cell q79)), (some (p74, false)), []⟩ .s, .G p74 false p81 (.faddr 0 q1) .v, .o ⟨(some p82), (.l (.cell q81)), (some (p74, false)), []⟩ .v, .G p74 false p83 (.mov q9) tI, .G p74 false p84 (.iaddr (.sl 17) q82 q83) .v, .G p74 false p85 (.faddr 3 q84) .v, .o ⟨(some p86), (.l (.cell q85)), (some (p74, false)), []⟩ .s, .G p74 false p87 (.bin .eql q80 q86) .b, .G p74 false p88 (.mov q87) .b, .ge p88 (XL.of [.G p88 true p89 (.faddr 0 q1) .v, .o ⟨(some p90), (.l (.cell q89)), (some (p88, true)), []⟩ .v, .G p88 true p91 (.mov q11) tI, .G p88 true p92 (.iaddr (.sl 17) q90 q91) .v, .G p88 true p93 (.faddr 7 q92) .v, .o ⟨(some p94), (.l (.cell q93)), (some (p88, true)), []⟩ .b, .G p74 false p95 (.pick q88 q94 (cb false)) .b]) p95 .b, .P p96 (.pick q74 (cb true) q95) .b]) p96 .b, .mv p10 q96 .b])))) (.s (.oX [.bn p97 .add q70 (ci 1) tI, .mv p70 q97 tI])))))
def v35_2 : List Pos := [p1, p2, p5, p6, p47, p48]
def c35_2b : XC := (.sO [.bn p49 .lss q48 q47 .b] (.seq (.cond q49 .skip (.exit 2)) (.sj v35_3 (.block 3 (.sO [.mv p50 q48 tI, .mv p9 q50 tI] (.sO [.fa p51 0 q1, .ld p52 q51 .v, .mv p53 q9 tI, .P p54 (.iaddr (.sl 17) q52 q53) .v, .fa p55 0 q54, .ld p56 q55 .b, .P p57 (.un .not q56) .b, .mv p58 q57 .b, .ge p58 (XL.of [.G p58 false p59 (.faddr 0 q1) .v, .o ⟨(some p60), (.l (.cell q59)), (some (p58, false)), []⟩ .v, .G p58 false p61 (.mov q9) tI, .G p58 false p62 (.iaddr (.sl 17) q60 q61) .v, .G p58 false p63 (.faddr 1 q62) .v, .o ⟨(some p64), (.l (.cell q63)), (some (p58, false)), []⟩ .b, .G p58 false p65 (.un .not q64) .b, .P p66 (.pick q58 (cb true) q65) .b]) p66 .b, .mv p10 q66 .b] (.sj v35_4 (.sO [.fa p67 0 q1, .ld p68 q67 .v, .P p69 (.lenl q68) tI, .mv p70 (ci 0) tI] (.block 4 (.loop v35_5 c35_5b))) c35_4)))) c35_3)))
def v35_0 : List Pos := [p1, p2, p5, p6]
def c35_0 : XC := (.sj v35_1 (.sO [.fa p45 0 q1, .ld p46 q45 .v, .P p47 (.lenl q46) tI, .mv p48 (ci 0) tI] (.block 2 (.loop v35_2 c35_2b))) c35_1)
def v35_7 : List Pos := [p1, p2, p5, p6, p16, p17]
def c35_7 : XC := (.s (.oX [.bn p44 .add q17 (ci 1) tI, .mv p17 q44 tI]))
def v35_8 : List Pos := [p1, p2, p5, p6, p8, p16, p17]
def c35_8 : XC := (.s (.oX [.fa p38 0 q6, .ld p39 q38 .v, .L p40 (.cells 17 q8) .v, .al p41 (.bsl [(.bool false), (.bool false), (.bool false), (.str []), (kI 0), (kI 0), .nils, (.bool false), .nils, (kI 0), .nils, .nils, (.str []), (kI 0), (kI 0), (kI 0), (kI 0)] 1 [⟨0, 17, q40⟩]), .o ⟨(some p42), (.e (.app 17 200 q39 q41)), none, []⟩ .v, .fa p43 0 q6, .st q43 q42]))
def v35_6 : List Pos := [p1, p2, p5, p6, p16, p17]
def c35_6b : XC := (.sO [.bn p18 .lss q17 q16 .b] (.seq (.cond q18 .skip (.exit 0)) (.sj v35_7 (.block 1 (.sO [.mv p19 q17 tI, .mv p7 q19 tI] (.sO [.P p20 (.build [(.bool false), (.bool false), (.bool false), (.str []), (kI 0), (kI 0), .nils, (.bool false), .nils, (kI 0), .nils, .nils, (.str []), (kI 0), (kI 0), (kI 0), (kI 0)] []) .v, .al p8 (.new [(.bool false), (.bool false), (.bool false), (.str []), (kI 0), (kI 0), .nils, (.bool false), .nils, (kI 0), .nils, .nils, (.str []), (kI 0), (kI 0), (kI 0), (kI 0)]), .ss 17 q8 q20] (.sj v35_8 (.sO [.fa p21 5 q5, .ld p22 q21 tI, .bn p23 .eql q22 (ci 0) .b] (.cond q23 (.s (.ops true (XL.of [.L p25 (.cells 7 q5) .v, .fa p26 0 q1, .ld p27 q26 .v, .mv p28 q7 tI, .P p29 (.iaddr (.sl 17) q27 q28) .v, .L p30 (.cells 17 q29) .v, .fa p31 0 q1, .ld p32 q31 .v, .mv p33 q7 tI, .P p34 (.slice (.sl 17) q32 none (some q33) none) .v, .cl p35 53 [q25, q30, q34] .v, .mv p24 q35 .v, .P p36 (.ext q24 0) .v, .P p37 (.ext q24 1) .v, .ss 7 q5 q36, .ss 17 q8 q37]))) (.s .skip))) c35_8)))) c35_7)))
def c35_e : XC := (.sO [.al p1 (.box q0), .al p2 (.new [.nils]), .mv p3 (ci 0) tI, .mv p4 (ci 0) tI] (.sO [.cl p12 52 [] .v, .al p5 (.new [.nils, (kI 0), (kI 0), (kI 0), (kI 0), (kI 0), (kI 0)]), .ss 7 q5 q12] (.sO [.P p13 (.build [.nils] []) .v, .al p6 (.new [.nils]), .ss 1 q6 q13] (.sj v35_0 (.sO [.fa p14 0 q1, .ld p15 q14 .v, .P p16 (.lenl q15) tI, .mv p17 (ci 0) tI] (.block 0 (.loop v35_6 c35_6b))) c35_0))))
def x35 : XFn := ⟨[.v], false, [(.cells 1 p2), (.tmp p3), (.tmp p4)], c35_e⟩
def e35_1 (k t2 t5 t6 h) := kN k [(p2, t2), (p5, t5), (p6, t6)] h
def S35_1 (D : CallD) (m : Nat) (t2 t5 t6 : AV) (h : HP) : Res2 :=
 faC 5 t5 fun t109 =>
 ldI t109 h fun t110 =>
 let t111 := notQ (eqQ t110 (Int.ofNat 0))
 br t111 (
 let t112 := (AV.agg [(.nils : AV)])
 faC 6 t5 fun t113 =>
 ldI t113 h fun t114 =>
 faC 5 t5 fun t115 =>
 ldI t115 h fun t116 =>
 stsC 1 t2 t112 h fun h17 =>
 br (againE (.stores 1 q2 q112) [⟨none, .cell q113, p114⟩, ⟨none, .cell q115, p116⟩] (mkT [(p2, t2), (p116, (vI t116)), (p115, t115), (p114, (vI t114)), (p113, t113)]) h17) (
 cellsC 1 t2 h17 fun t2a =>
 some (.ret (.tup [t2a, (vI t114), (vI t116)]) h17, .no)) none) (
 cellsC 1 t6 h fun t117 =>
 stsC 1 t2 t117 h fun h18 =>
 cellsC 1 t2 h18 fun t2a =>
 some (.ret (.tup [t2a, (kI 0), (kI 0)]) h18, .no))
def e35_3 (k t1 t2 t5 t6 t47 t48 h) := kN k [(p1, t1), (p2, t2), (p5, t5), (p6, t6), (p47, (vI t47)), (p48, (vI t48))] h
def S35_3 (D : CallD) (m : Nat) (g2 : AV → AV → AV → AV → Int → Int → HP → Res2) (t1 t2 t5 t6 : AV) (t47 t48 : Int) (h : HP) : Res2 :=
 let t108 := wrQ .i64 (addQ t48 (Int.ofNat 1))
 g2 t1 t2 t5 t6 t47 t108 h
def e35_4 (k t1 t2 t5 t6 t9 t10 t47 t48 h) := kN k [(p1, t1), (p2, t2), (p5, t5), (p6, t6), (p9, (vI t9)), (p10, (vB t10)), (p47, (vI t47)), (p48, (vI t48))] h
def S35_4 (D : CallD) (m : Nat) (g2 : AV → AV → AV → AV → Int → Int → HP → Res2) (t1 t2 t5 t6 : AV) (t9 : Int) (t10 : Bool) (t47 t48 : Int) (h : HP) : Res2 :=
 let t99 := !t10
 br t99 (
 cellsC 7 t5 h fun t100 =>
 faC 0 t1 fun t101 =>
 cellC t101 h fun t102 =>
 iasC 17 t102 (vI t9) fun t104 =>
 faC 16 t104 fun t105 =>
 ldI t105 h fun t106 =>
 cal D 54 [t100, (kI 13), (vI t106)] h fun t107 h19 =>
 stsC 7 t5 t107 h19 fun h20 =>
 S35_3 D m g2 t1 t2 t5 t6 t47 t48 h20) (
 S35_3 D m g2 t1 t2 t5 t6 t47 t48 h)
def e35_5 (k t1 t2 t5 t6 t9 t10 t47 t48 t69 t70 h) := kN k [(p1, t1), (p2, t2), (p5, t5), (p6, t6), (p9, (vI t9)), (p10, (vB t10)), (p47, (vI t47)), (p48, (vI t48)), (p69, (vI t69)), (p70, (vI t70))] h
def S35_5b (D : CallD) (m : Nat) (g5 : AV → AV → AV → AV → Int → Bool → Int → Int → Int → Int → HP → Res2) (g2 : AV → AV → AV → AV → Int → Int → HP → Res2) (t1 t2 t5 t6 : AV) (t9 : Int) (t10 : Bool) (t47 t48 t69 t70 : Int) (h : HP) : Res2 :=
 let t71 := ltQ t70 t69
 br t71 (
 obB (brV t10 (
 some (vB true)) (
 faCV 0 t1 fun t75 =>
 cellCV t75 h fun t76 =>
 iasCV 17 t76 (vI t70) fun t78 =>
 faCV 3 t78 fun t79 =>
 ldSV t79 h fun t80 =>
 faCV 0 t1 fun t81 =>
 cellCV t81 h fun t82 =>
 iasCV 17 t82 (vI t9) fun t84 =>
 faCV 3 t84 fun t85 =>
 ldSV t85 h fun t86 =>
 let t87 := eqL t80 t86
 obBV (brV t87 (
 faCV 0 t1 fun t89 =>
 cellCV t89 h fun t90 =>
 iasCV 17 t90 (vI t70) fun t92 =>
 faCV 7 t92 fun t93 =>
 ldBV t93 h fun t94 =>
 some (vB t94)) (
 some (vB false))) fun t95 =>
 some (vB t95))) fun t96 =>
 let t97 := wrQ .i64 (addQ t70 (Int.ofNat 1))
 g5 t1 t2 t5 t6 t9 t96 t47 t48 t69 t97 h) (
 S35_4 D m g2 t1 t2 t5 t6 t9 t10 t47 t48 h)
def S35_5 (D : CallD) (m : Nat) (g2 : AV → AV → AV → AV → Int → Int → HP → Res2) : AV → AV → AV → AV → Int → Bool → Int → Int → Int → Int → HP → Res2 := nrec (fun _ _ _ _ _ _ _ _ _ _ _ => none) (fun _ g => S35_5b D m g g2) m
def e35_2 (k t1 t2 t5 t6 t47 t48 h) := kN k [(p1, t1), (p2, t2), (p5, t5), (p6, t6), (p47, (vI t47)), (p48, (vI t48))] h
def S35_2b (D : CallD) (m : Nat) (g2 : AV → AV → AV → AV → Int → Int → HP → Res2) (t1 t2 t5 t6 : AV) (t47 t48 : Int) (h : HP) : Res2 :=
 let t49 := ltQ t48 t47
 br t49 (
 faC 0 t1 fun t51 =>
 cellC t51 h fun t52 =>
 iasC 17 t52 (vI t48) fun t54 =>
 faC 0 t54 fun t55 =>
 ldB t55 h fun t56 =>
 let t57 := !t56
 obB (brV t57 (
 some (vB true)) (
 faCV 0 t1 fun t59 =>
 cellCV t59 h fun t60 =>
 iasCV 17 t60 (vI t48) fun t62 =>
 faCV 1 t62 fun t63 =>
 ldBV t63 h fun t64 =>
 let t65 := !t64
 some (vB t65))) fun t66 =>
 faC 0 t1 fun t67 =>
 cellC t67 h fun t68 =>
 lenC t68 fun vt69 => asI .i64 vt69 fun t69 =>
 S35_5 D m g2 t1 t2 t5 t6 t48 t66 t47 t48 t69 (Int.ofNat 0) h) (
 S35_1 D m t2 t5 t6 h)
def S35_2 (D : CallD) (m : Nat) : AV → AV → AV → AV → Int → Int → HP → Res2 := nrec (fun _ _ _ _ _ _ _ => none) (fun _ g => S35_2b D m g) m
def e35_0 (k t1 t2 t5 t6 h) := kN k [(p1, t1), (p2, t2), (p5, t5), (p6, t6)] h
def S35_0 (D : CallD) (m : Nat) (t1 t2 t5 t6 : AV) (h : HP) : Res2 :=
 faC 0 t1 fun t45 =>
 cellC t45 h fun t46 =>
 lenC t46 fun vt47 => asI .i64 vt47 fun t47 =>
 S35_2 D m t1 t2 t5 t6 t47 (Int.ofNat 0) h
def e35_7 (k t1 t2 t5 t6 t16 t17 h) := kN k [(p1, t1), (p2, t2), (p5, t5), (p6, t6), (p16, (vI t16)), (p17, (vI t17))] h
def S35_7 (D : CallD) (m : Nat) (g6 : AV → AV → AV → AV → Int → Int → HP → Res2) (t1 t2 t5 t6 : AV) (t16 t17 : Int) (h : HP) : Res2 :=
 let t44 := wrQ .i64 (addQ t17 (Int.ofNat 1))
 g6 t1 t2 t5 t6 t16 t44 h
def e35_8 (k t1 t2 t5 t6 t8 t16 t17 h) := kN k [(p1, t1), (p2, t2), (p5, t5), (p6, t6), (p8, t8), (p16, (vI t16)), (p17, (vI t17))] h
def S35_8 (D : CallD) (m : Nat) (g6 : AV → AV → AV → AV → Int → Int → HP → Res2) (t1 t2 t5 t6 t8 : AV) (t16 t17 : Int) (h : HP) : Res2 :=
 faC 0 t6 fun t38 =>
 cellC t38 h fun t39 =>
 cellsC 17 t8 h fun t40 =>
 obQ (evA (.bsl [(.bool false), (.bool false), (.bool false), (.str []), (kI 0), (kI 0), .nils, (.bool false), .nils, (kI 0), .nils, .nils, (.str []), (kI 0), (kI 0), (kI 0), (kI 0)] 1 [⟨0, 17, (.c t40)⟩]) .leaf) fun r23 =>
 let t41 := vkV r23.2 (HP.nxQ h)
 let h24 := HP.newQ h r23.1
 eff (.app 17 200 (.c t39) (.c t41)) h24 fun t42 h25 =>
 faC 0 t6 fun t43 =>
 stoC t43 t42 h25 fun h26 =>
 S35_7 D m g6 t1 t2 t5 t6 t16 t17 h26
def e35_6 (k t1 t2 t5 t6 t16 t17 h) := kN k [(p1, t1), (p2, t2), (p5, t5), (p6, t6), (p16, (vI t16)), (p17, (vI t17))] h
def S35_6b (D : CallD) (m : Nat) (g6 : AV → AV → AV → AV → Int → Int → HP → Res2) (t1 t2 t5 t6 : AV) (t16 t17 : Int) (h : HP) : Res2 :=
 let t18 := ltQ t17 t16
 br t18 (
 let t20 := (AV.agg [(vB false), (vB false), (vB false), (vS ([] : LN)), (kI 0), (kI 0), (.nils : AV), (vB false), (.nils : AV), (kI 0), (.nils : AV), (.nils : AV), (vS ([] : LN)), (kI 0), (kI 0), (kI 0), (kI 0)])
 let t8 := P0 h
 let h21 := nQ h [(.bool false), (.bool false), (.bool false), (.str []), (kI 0), (kI 0), .nils, (.bool false), .nils, (kI 0), .nils, .nils, (.str []), (kI 0), (kI 0), (kI 0), (kI 0)]
 stsC 17 t8 t20 h21 fun h22 =>
 faC 5 t5 fun t21 =>
 ldI t21 h22 fun t22 =>
 let t23 := eqQ t22 (Int.ofNat 0)
 br t23 (
 cellsC 7 t5 h22 fun t25 =>
 faC 0 t1 fun t26 =>
 cellC t26 h22 fun t27 =>
 iasC 17 t27 (vI t17) fun t29 =>
 cellsC 17 t29 h22 fun t30 =>
 faC 0 t1 fun t31 =>
 cellC t31 h22 fun t32 =>
 obQ (evP (.slice (.sl 17) (.c t32) none (some (.c (vI t17))) none) .leaf) fun t34 =>
 cal D 53 [t25, t30, t34] h22 fun t35 h27 =>
 extC t35 0 fun t36 =>
 extC t35 1 fun t37 =>
 stsC 7 t5 t36 h27 fun h28 =>
 stsC 17 t8 t37 h28 fun h29 =>
 S35_8 D m g6 t1 t2 t5 t6 t8 t16 t17 h29) (
 S35_8 D m g6 t1 t2 t5 t6 t8 t16 t17 h22)) (
 S35_0 D m t1 t2 t5 t6 h)
def S35_6 (D : CallD) (m : Nat) : AV → AV → AV → AV → Int → Int → HP → Res2 := nrec (fun _ _ _ _ _ _ _ => none) (fun _ g => S35_6b D m g) m
def e35_9 (k t0 h) := kN k [(p0, t0)] h
def S35_9 (D : CallD) (m : Nat) (t0 : AV) (h : HP) : Res2 :=
 let t1 := P0 h
 let h10 := HP.newQ h (.cells true (AV.cells t0))
 let t2 := P0 h10
 let h11 := nQ h10 [.nils]
 cal D 52 [] h11 fun t12 h12 =>
 let t5 := P0 h12
 let h13 := nQ h12 [.nils, (kI 0), (kI 0), (kI 0), (kI 0), (kI 0), (kI 0)]
 stsC 7 t5 t12 h13 fun h14 =>
 let t13 := (AV.agg [(.nils : AV)])
 let t6 := P0 h14
 let h15 := nQ h14 [.nils]
 stsC 1 t6 t13 h15 fun h16 =>
 let t14 := (AV.ptr (HP.nxQ h) (Nat.add 0 0))
 cellC t14 h16 fun t15 =>
 lenC t15 fun vt16 => asI .i64 vt16 fun t16 =>
 S35_6 D m t1 t2 t5 t6 t16 (Int.ofNat 0) h16
def S35 : SFn := fun D m args h u => nou u <| popV args fun t0 args => endA args (S35_9 D m t0 h)
theorem T35_1 (hE : FX x35 D m E) : S35_1 D m = e35_1 (E c35_1 []) := by unfold S35_1; rw [hE c35_1]; kernel_rfl
theorem T35_3 (hE : FX x35 D m E) (G2) : S35_3 D m (e35_2 G2) = e35_3 (E c35_3 [.lp v35_2 G2, .blk 2, .sj v35_1 c35_1]) := by unfold S35_3; rw [hE c35_3]; kernel_rfl
theorem T35_4 (hE : FX x35 D m E) (G2) : S35_4 D m (e35_2 G2) = e35_4 (E c35_4 [.blk 3, .sj v35_3 c35_3, .lp v35_2 G2, .blk 2, .sj v35_1 c35_1]) := by unfold S35_4; rw [T35_3 hE G2, hE c35_4]; kernel_rfl
theorem T35_5b (hE : FX x35 D m E) (G5) (G2) : S35_5b D m (e35_5 G5) (e35_2 G2) = e35_5 (E c35_5b [.lp v35_5 G5, .blk 4, .sj v35_4 c35_4, .blk 3, .sj v35_3 c35_3, .lp v35_2 G2, .blk 2, .sj v35_1 c35_1]) := by unfold S35_5b; rw [T35_4 hE G2, hE c35_5b]; kernel_rfl
theorem T35_5 (hE : FX x35 D m E) (G2) : S35_5 D m (e35_2 G2) = e35_5 (nrec (fun _ => none) (fun _ G5 st => E c35_5b [.lp v35_5 G5, .blk 4, .sj v35_4 c35_4, .blk 3, .sj v35_3 c35_3, .lp v35_2 G2, .blk 2, .sj v35_1 c35_1] st) m) :=
  nrec_emb e35_5 (fun _ _ _ _ _ _ _ _ _ _ _ => none) (fun g => S35_5b D m g (e35_2 G2)) (fun G5 st => E c35_5b [.lp v35_5 G5, .blk 4, .sj v35_4 c35_4, .blk 3, .sj v35_3 c35_3, .lp v35_2 G2, .blk 2, .sj v35_1 c35_1] st) rfl (fun g => T35_5b hE g G2) m
theorem T35_2b (hE : FX x35 D m E) (G2) : S35_2b D m (e35_2 G2) = e35_2 (E c35_2b [.lp v35_2 G2, .blk 2, .sj v35_1 c35_1]) := by unfold S35_2b; rw [T35_5 hE G2, T35_1 hE, hE c35_2b]; kernel_rfl
theorem T35_2 (hE : FX x35 D m E) : S35_2 D m = e35_2 (nrec (fun _ => none) (fun _ G2 st => E c35_2b [.lp v35_2 G2, .blk 2, .sj v35_1 c35_1] st) m) :=
  nrec_emb e35_2 (fun _ _ _ _ _ _ _ => none) (fun g => S35_2b D m g) (fun G2 st => E c35_2b [.lp v35_2 G2, .blk 2, .sj v35_1 c35_1] st) rfl (fun g => T35_2b hE g) m
theorem T35_0 (hE : FX x35 D m E) : S35_0 D m = e35_0 (E c35_0 []) := by unfold S35_0; rw [T35_2 hE, hE c35_0]; kernel_rfl
theorem T35_7 (hE : FX x35 D m E) (G6) : S35_7 D m (e35_6 G6) = e35_7 (E c35_7 [.lp v35_6 G6, .blk 0, .sj v35_0 c35_0]) := by unfold S35_7; rw [hE c35_7]; kernel_rfl
theorem T35_8 (hE : FX x35 D m E) (G6) : S35_8 D m (e35_6 G6) = e35_8 (E c35_8 [.blk 1, .sj v35_7 c35_7, .lp v35_6 G6, .blk 0, .sj v35_0 c35_0]) := by unfold S35_8; rw [T35_7 hE G6, hE c35_8]; kernel_rfl
theorem T35_6b (hE : FX x35 D m E) (G6) : S35_6b D m (e35_6 G6) = e35_6 (E c35_6b [.lp v35_6 G6, .blk 0, .sj v35_0 c35_0]) := by unfold S35_6b; rw [T35_8 hE G6, T35_0 hE, hE c35_6b]; kernel_rfl
theorem T35_6 (hE : FX x35 D m E) : S35_6 D m = e35_6 (nrec (fun _ => none) (fun _ G6 st => E c35_6b [.lp v35_6 G6, .blk 0, .sj v35_0 c35_0] st) m) :=
  nrec_emb e35_6 (fun _ _ _ _ _ _ _ => none) (fun g => S35_6b D m g) (fun G6 st => E c35_6b [.lp v35_6 G6, .blk 0, .sj v35_0 c35_0] st) rfl (fun g => T35_6b hE g) m
theorem T35_9 (hE : FX x35 D m E) : S35_9 D m = e35_9 (E c35_e []) := by unfold S35_9; rw [T35_6 hE, hE c35_e]; kernel_rfl
theorem X35 : XTie S35 x35 := X_of fun D m E hE args h u => by unfold S35; rw [T35_9 hE]; kernel_rfl
/- 36 -/
def v36_0 : List Pos := [p4]
def c36_0 : XC := (.sO [.P p48 (.build [(.bool false), (.bool false), (.bool false), (.str []), (kI 0), (kI 0), .nils, (.bool false), .nils, (kI 0), .nils, .nils, (.str []), (kI 0), (kI 0), (kI 0), (kI 0)] []) .v, .ss 17 q4 q48, .mv p5 (.c (.int .i64 (.negSucc 0))) tI] (.s .ret))
def v36_2 : List Pos := [p0, p1, p4, p10, p11]
def c36_2 : XC := (.s (.oX [.bn p47 .add q11 (ci 1) tI, .mv p11 q47 tI]))
def v36_4 : List Pos := [p0, p1, p4, p6, p10, p11, p19, p20]
def c36_4 : XC := (.s (.oX [.bn p46 .add q20 (ci 1) tI, .mv p20 q46 tI]))
def c36_6 : XC := (.cond q43 (.sO [.L p44 (.cells 17 q8) .v, .mv p45 q6 tI, .ss 17 q4 q44, .mv p5 q45 tI] (.s .ret)) (.s .skip))
def l36_5 : XL := (XL.of [])
def v36_3 : List Pos := [p0, p1, p4, p6, p10, p11, p19, p20]
def c36_3b : XC := (.sO [.bn p21 .lss q20 q19 .b] (.seq (.cond q21 .skip (.exit 2)) (.sj v36_4 (.block 3 (.sO [.mv p22 q20 tI, .mv p7 q22 tI] (.sO [.mv p23 q0 .v, .mv p24 q6 tI, .P p25 (.iaddr (.sl 1) q23 q24) .v, .fa p26 0 q25, .ld p27 q26 .v, .mv p28 q7 tI, .P p29 (.iaddr (.sl 17) q27 q28) .v, .L p30 (.cells 17 q29) .v, .al p8 (.new [(.bool false), (.bool false), (.bool false), (.str []), (kI 0), (kI 0), .nils, (.bool false), .nils, (kI 0), .nils, .nils, (.str []), (kI 0), (kI 0), (kI 0), (kI 0)]), .ss 17 q8 q30] (.opq false (XL.pre [.fa p31 3 q8, .ld p32 q31 .s, .mv p33 q1 .s, .bn p34 .eql q32 q33 .b, .mv p35 q34 .b, .ge p35 (XL.of [.G p35 true p36 (.faddr 1 q8) .v, .o ⟨(some p37), (.l (.cell q36)), (some (p35, true)), []⟩ .b, .G p35 true p38 (.un .not q37) .b, .P p39 (.pick q35 q38 (cb false)) .b]) p39 .b, .mv p40 q39 .b, .sp p40, .o ⟨(some p41), (.l (.cells 17 q8)), (some (p40, true)), []⟩ .v, .o ⟨(some p42), (.call (.fn 37) [q41]), (some (p40, true)), []⟩ .b, .P p43 (.pick q40 q42 (cb false)) .b, .jn p40 [p0, p1, p4, p6, p8, p10, p11, p19, p20, p43]] l36_5) c36_6)))) c36_4)))
def v36_1 : List Pos := [p0, p1, p4, p10, p11]
def c36_1b : XC := (.sO [.bn p12 .lss q11 q10 .b] (.seq (.cond q12 .skip (.exit 0)) (.sj v36_2 (.block 1 (.sO [.mv p13 q11 tI, .mv p6 q13 tI] (.sO [.mv p14 q0 .v, .mv p15 q6 tI, .P p16 (.iaddr (.sl 1) q14 q15) .v, .fa p17 0 q16, .ld p18 q17 .v, .P p19 (.lenl q18) tI, .mv p20 (ci 0) tI] (.block 2 (.loop v36_3 c36_3b))))) c36_2)))
def c36_e : XC := (.sO [.al p4 (.new [(.bool false), (.bool false), (.bool false), (.str []), (kI 0), (kI 0), .nils, (.bool false), .nils, (kI 0), .nils, .nils, (.str []), (kI 0), (kI 0), (kI 0), (kI 0)]), .mv p5 (ci 0) tI] (.sj v36_0 (.sO [.mv p9 q0 .v, .P p10 (.lenl q9) tI, .mv p11 (ci 0) tI] (.block 0 (.loop v36_1 c36_1b))) c36_0))
def x36 : XFn := ⟨[.v, .s], false, [(.cells 17 p4), (.tmp p5)], c36_e⟩
def e36_0 (k t4 h) := kN k [(p4, t4)] h
def S36_0 (D : CallD) (m : Nat) (t4 : AV) (h : HP) : Res2 :=
 let t48 := (AV.agg [(vB false), (vB false), (vB false), (vS ([] : LN)), (kI 0), (kI 0), (.nils : AV), (vB false), (.nils : AV), (kI 0), (.nils : AV), (.nils : AV), (vS ([] : LN)), (kI 0), (kI 0), (kI 0), (kI 0)])
 stsC 17 t4 t48 h fun h9 =>
 cellsC 17 t4 h9 fun t4a =>
 some (.ret (.tup [t4a, (vI (Int.negSucc 0))]) h9, .no)
def e36_2 (k t0 t1 t4 t10 t11 h) := kN k [(p0, t0), (p1, (vS t1)), (p4, t4), (p10, (vI t10)), (p11, (vI t11))] h
def S36_2 (D : CallD) (m : Nat) (g1 : AV → LN → AV → Int → Int → HP → Res2) (t0 : AV) (t1 : LN) (t4 : AV) (t10 t11 : Int) (h : HP) : Res2 :=
 let t47 := wrQ .i64 (addQ t11 (Int.ofNat 1))
 g1 t0 t1 t4 t10 t47 h
def e36_4 (k t0 t1 t4 t6 t10 t11 t19 t20 h) := kN k [(p0, t0), (p1, (vS t1)), (p4, t4), (p6, (vI t6)), (p10, (vI t10)), (p11, (vI t11)), (p19, (vI t19)), (p20, (vI t20))] h
def S36_4 (D : CallD) (m : Nat) (g3 : AV → LN → AV → Int → Int → Int → Int → Int → HP → Res2) (g1 : AV → LN → AV → Int → Int → HP → Res2) (t0 : AV) (t1 : LN) (t4 : AV) (t6 t10 t11 t19 t20 : Int) (h : HP) : Res2 :=
 let t46 := wrQ .i64 (addQ t20 (Int.ofNat 1))
 g3 t0 t1 t4 t6 t10 t11 t19 t46 h
def e36_5 (k t0 t1 t4 t6 t8 t10 t11 t19 t20 t43 h) := kN k [(p0, t0), (p1, (vS t1)), (p4, t4), (p6, (vI t6)), (p8, t8), (p10, (vI t10)), (p11, (vI t11)), (p19, (vI t19)), (p20, (vI t20)), (p43, (vB t43))] h
def S36_5 (D : CallD) (m : Nat) (g3 : AV → LN → AV → Int → Int → Int → Int → Int → HP → Res2) (g1 : AV → LN → AV → Int → Int → HP → Res2) (t0 : AV) (t1 : LN) (t4 : AV) (t6 : Int) (t8 : AV) (t10 t11 t19 t20 : Int) (t43 : Bool) (h : HP) : Res2 :=
 br t43 (
 cellsC 17 t8 h fun t44 =>
 stsC 17 t4 t44 h fun h13 =>
 cellsC 17 t4 h13 fun t4a =>
 some (.ret (.tup [t4a, (vI t6)]) h13, .no)) (
 S36_4 D m g3 g1 t0 t1 t4 t6 t10 t11 t19 t20 h)
def e36_3 (k t0 t1 t4 t6 t10 t11 t19 t20 h) := kN k [(p0, t0), (p1, (vS t1)), (p4, t4), (p6, (vI t6)), (p10, (vI t10)), (p11, (vI t11)), (p19, (vI t19)), (p20, (vI t20))] h
def S36_3b (D : CallD) (m : Nat) (g3 : AV → LN → AV → Int → Int → Int → Int → Int → HP → Res2) (g1 : AV → LN → AV → Int → Int → HP → Res2) (t0 : AV) (t1 : LN) (t4 : AV) (t6 t10 t11 t19 t20 : Int) (h : HP) : Res2 :=
 let t21 := ltQ t20 t19
 br t21 (
 iasC 1 t0 (vI t6) fun t25 =>
 faC 0 t25 fun t26 =>
 cellC t26 h fun t27 =>
 iasC 17 t27 (vI t20) fun t29 =>
 cellsC 17 t29 h fun t30 =>
 let t8 := P0 h
 let h10 := nQ h [(.bool false), (.bool false), (.bool false), (.str []), (kI 0), (kI 0), .nils, (.bool false), .nils, (kI 0), .nils, .nils, (.str []), (kI 0), (kI 0), (kI 0), (kI 0)]
 stsC 17 t8 t30 h10 fun h11 =>
 let t31 := (AV.ptr (HP.nxQ h) (Nat.add 0 3))
 ldS t31 h11 fun t32 =>
 let t34 := eqL t32 t1
 obB (brV t34 (
 let t36 := (AV.ptr (HP.nxQ h) (Nat.add 0 1))
 ldBV t36 h11 fun t37 =>
 let t38 := !t37
 some (vB t38)) (
 some (vB false))) fun t39 =>
 br t39 (
 cellsC 17 t8 h11 fun t41 =>
 cal D 37 [t41] h11 fun t42 h12 =>
 asB t42 fun t42a =>
 S36_5 D m g3 g1 t0 t1 t4 t6 t8 t10 t11 t19 t20 t42a h12) (
 S36_5 D m g3 g1 t0 t1 t4 t6 t8 t10 t11 t19 t20 false h11)) (
 S36_2 D m g1 t0 t1 t4 t10 t11 h)
def S36_3 (D : CallD) (m : Nat) (g1 : AV → LN → AV → Int → Int → HP → Res2) : AV → LN → AV → Int → Int → Int → Int → Int → HP → Res2 := nrec (fun _ _ _ _ _ _ _ _ _ => none) (fun _ g => S36_3b D m g g1) m
def e36_1 (k t0 t1 t4 t10 t11 h) := kN k [(p0, t0), (p1, (vS t1)), (p4, t4), (p10, (vI t10)), (p11, (vI t11))] h
def S36_1b (D : CallD) (m : Nat) (g1 : AV → LN → AV → Int → Int → HP → Res2) (t0 : AV) (t1 : LN) (t4 : AV) (t10 t11 : Int) (h : HP) : Res2 :=
 let t12 := ltQ t11 t10
 br t12 (
 iasC 1 t0 (vI t11) fun t16 =>
 faC 0 t16 fun t17 =>
 cellC t17 h fun t18 =>
 lenC t18 fun vt19 => asI .i64 vt19 fun t19 =>
 S36_3 D m g1 t0 t1 t4 t11 t10 t11 t19 (Int.ofNat 0) h) (
 S36_0 D m t4 h)
def S36_1 (D : CallD) (m : Nat) : AV → LN → AV → Int → Int → HP → Res2 := nrec (fun _ _ _ _ _ _ => none) (fun _ g => S36_1b D m g) m
def e36_7 (k t0 t1 h) := kN k [(p0, t0), (p1, (vS t1))] h
def S36_7 (D : CallD) (m : Nat) (t0 : AV) (t1 : LN) (h : HP) : Res2 :=
 let t4 := P0 h
 let h8 := nQ h [(.bool false), (.bool false), (.bool false), (.str []), (kI 0), (kI 0), .nils, (.bool false), .nils, (kI 0), .nils, .nils, (.str []), (kI 0), (kI 0), (kI 0), (kI 0)]
 lenC t0 fun vt10 => asI .i64 vt10 fun t10 =>
 S36_1 D m t0 t1 t4 t10 (Int.ofNat 0) h8
def S36 : SFn := fun D m args h u => nou u <| popV args fun t0 args => popS args fun t1 args => endA args (S36_7 D m t0 t1 h)
theorem T36_0 (hE : FX x36 D m E) : S36_0 D m = e36_0 (E c36_0 []) := by unfold S36_0; rw [hE c36_0]; kernel_rfl
theorem T36_2 (hE : FX x36 D m E) (G1) : S36_2 D m (e36_1 G1) = e36_2 (E c36_2 [.lp v36_1 G1, .blk 0, .sj v36_0 c36_0]) := by unfold S36_2; rw [hE c36_2]; kernel_rfl
theorem T36_4 (hE : FX x36 D m E) (G3) (G1) : S36_4 D m (e36_3 G3) (e36_1 G1) = e36_4 (E c36_4 [.lp v36_3 G3, .blk 2, .blk 1, .sj v36_2 c36_2, .lp v36_1 G1, .blk 0, .sj v36_0 c36_0]) := by unfold S36_4; rw [hE c36_4]; kernel_rfl
theorem T36_5 (hE : FX x36 D m E) (G3) (G1) : S36_5 D m (e36_3 G3) (e36_1 G1) = e36_5 (E (.opq false l36_5 c36_6) [.blk 3, .sj v36_4 c36_4, .lp v36_3 G3, .blk 2, .blk 1, .sj v36_2 c36_2, .lp v36_1 G1, .blk 0, .sj v36_0 c36_0]) := by unfold S36_5; rw [T36_4 hE G3 G1, hE (.opq false l36_5 c36_6)]; kernel_rfl
theorem T36_3b (hE : FX x36 D m E) (G3) (G1) : S36_3b D m (e36_3 G3) (e36_1 G1) = e36_3 (E c36_3b [.lp v36_3 G3, .blk 2, .blk 1, .sj v36_2 c36_2, .lp v36_1 G1, .blk 0, .sj v36_0 c36_0]) := by unfold S36_3b; rw [T36_5 hE G3 G1, T36_2 hE G1, hE c36_3b]; kernel_rfl
theorem T36_3 (hE : FX x36 D m E) (G1) : S36_3 D m (e36_1 G1) = e36_3 (nrec (fun _ => none) (fun _ G3 st => E c36_3b [.lp v36_3 G3, .blk 2, .blk 1, .sj v36_2 c36_2, .lp v36_1 G1, .blk 0, .sj v36_0 c36_0] st) m) :=
  nrec_emb e36_3 (fun _ _ _ _ _ _ _ _ _ => none) (fun g => S36_3b D m g (e36_1 G1)) (fun G3 st => E c36_3b [.lp v36_3 G3, .blk 2, .blk 1, .sj v36_2 c36_2, .lp v36_1 G1, .blk 0, .sj v36_0 c36_0] st) rfl (fun g => T36_3b hE g G1) m
theorem T36_1b (hE : FX x36 D m E) (G1) : S36_1b D m (e36_1 G1) = e36_1 (E c36_1b [.lp v36_1 G1, .blk 0, .sj v36_0 c36_0]) := by unfold S36_1b; rw [T36_3 hE G1, T36_0 hE, hE c36_1b]; kernel_rfl
theorem T36_1 (hE : FX x36 D m E) : S36_1 D m = e36_1 (nrec (fun _ => none) (fun _ G1 st => E c36_1b [.lp v36_1 G1, .blk 0, .sj v36_0 c36_0] st) m) :=
  nrec_emb e36_1 (fun _ _ _ _ _ _ => none) (fun g => S36_1b D m g) (fun G1 st => E c36_1b [.lp v36_1 G1, .blk 0, .sj v36_0 c36_0] st) rfl (fun g => T36_1b hE g) m
theorem T36_7 (hE : FX x36 D m E) : S36_7 D m = e36_7 (E c36_e []) := by unfold S36_7; rw [T36_1 hE, hE c36_e]; kernel_rfl
theorem X36 : XTie S36 x36 := X_of fun D m E hE args h u => by unfold S36; rw [T36_7 hE]; kernel_rfl
/- 37 -/
def c37_e : XC := (.sO [.al p1 (.box q0), .mv p2 (cb false) .b] (.sO [.fa p3 0 q1, .ld p4 q3 .b, .mv p5 q4 .b, .ge p5 (XL.of [.G p5 true p6 (.faddr 7 q1) .v, .o ⟨(some p7), (.l (.cell q6)), (some (p5, true)), []⟩ .b, .P p8 (.pick q5 q7 (cb false)) .b]) p8 .b, .mv p9 q8 .b, .ge p9 (XL.of [.G p9 false p10 (.faddr 0 q1) .v, .o ⟨(some p11), (.l (.cell q10)), (some (p9, false)), []⟩ .b, .G p9 false p12 (.un .not q11) .b, .G p9 false p13 (.mov q12) .b, .ge p13 (XL.of [.G p13 true p14 (.faddr 2 q1) .v, .o ⟨(some p15), (.l (.cell q14)), (some (p13, true)), []⟩ .b, .G p13 true p16 (.un .not q15) .b, .G p9 false p17 (.pick q13 q16 (cb false)) .b]) p17 .b, .P p18 (.pick q9 (cb true) q17) .b]) p18 .b, .mv p2 q18 .b] (.s .ret)))
def x37 : XFn := ⟨[.v], false, [(.tmp p2)], c37_e⟩
def e37_0 (k t0 h) := kN k [(p0, t0)] h
def S37_0 (D : CallD) (m : Nat) (t0 : AV) (h : HP) : Res2 :=
 let t1 := P0 h
 let h1 := HP.newQ h (.cells true (AV.cells t0))
 let t3 := (AV.ptr (HP.nxQ h) (Nat.add 0 0))
 ldB t3 h1 fun t4 =>
 obB (brV t4 (
 let t6 := (AV.ptr (HP.nxQ h) (Nat.add 0 7))
 ldBV t6 h1 fun t7 =>
 some (vB t7)) (
 some (vB false))) fun t8 =>
 obB (brV t8 (
 some (vB true)) (
 let t10 := (AV.ptr (HP.nxQ h) (Nat.add 0 0))
 ldBV t10 h1 fun t11 =>
 let t12 := !t11
 obBV (brV t12 (
 let t14 := (AV.ptr (HP.nxQ h) (Nat.add 0 2))
 ldBV t14 h1 fun t15 =>
 let t16 := !t15
 some (vB t16)) (
 some (vB false))) fun t17 =>
 some (vB t17))) fun t18 =>
 some (.ret (vB t18) h1, .no)
def S37 : SFn := fun D m args h u => nou u <| popV args fun t0 args => endA args (S37_0 D m t0 h)
theorem T37_0 (hE : FX x37 D m E) : S37_0 D m = e37_0 (E c37_e []) := by unfold S37_0; rw [hE c37_e]; kernel_rfl
theorem X37 : XTie S37 x37 := X_of fun D m E hE args h u => by unfold S37; rw [T37_0 hE]; kernel_rfl
/- 38 -/
def v38_0 : List Pos := []
def c38_0 : XC := (.sO [.mv p4 (cb true) .b] (.s .ret))
def v38_1 : List Pos := [p2, p3, p36, p37]
def c38_1b : XC := (.sO [.bn p38 .lss q37 q36 .b] (.seq (.cond q38 .skip (.exit 0)) (.seq (.block 1 (.seq (.oX [.mv p39 q37 tI, .mv p5 q39 tI]) (.seq (.ops true (XL.of [.fa p40 8 q2, .ld p41 q40 .v, .mv p42 q5 tI, .P p43 (.iaddr (.sl 3) q41 q42) .v, .fa p44 1 q43, .ld p45 q44 tI, .fa p46 8 q3, .ld p47 q46 .v, .mv p48 q5 tI, .P p49 (.iaddr (.sl 3) q47 q48) .v, .fa p50 1 q49, .ld p51 q50 tI, .bn p52 .neq q45 q51 .b])) (.cond q52 (.seq (.oX [.mv p4 (cb false) .b]) .ret) .skip)))) (.s (.oX [.bn p53 .add q37 (ci 1) tI, .mv p37 q53 tI])))))
def c38_e : XC := (.sO [.al p2 (.box q0), .al p3 (.box q1), .mv p4 (cb false) .b] (.seq (.seq (.oX [.fa p6 4 q2, .ld p7 q6 tI, .fa p8 4 q3, .ld p9 q8 tI, .bn p10 .neq q7 q9 .b, .mv p11 q10 .b, .ge p11 (XL.of [.G p11 false p12 (.faddr 5 q2) .v, .o ⟨(some p13), (.l (.cell q12)), (some (p11, false)), []⟩ tI, .G p11 false p14 (.faddr 5 q3) .v, .o ⟨(some p15), (.l (.cell q14)), (some (p11, false)), []⟩ tI, .G p11 false p16 (.bin .neq q13 q15) .b, .P p17 (.pick q11 (cb true) q16) .b]) p17 .b, .mv p18 q17 .b, .ge p18 (XL.of [.G p18 false p19 (.faddr 1 q2) .v, .o ⟨(some p20), (.l (.cell q19)), (some (p18, false)), []⟩ .b, .G p18 false p21 (.faddr 1 q3) .v, .o ⟨(some p22), (.l (.cell q21)), (some (p18, false)), []⟩ .b, .G p18 false p23 (.eqb true q20 q22) .b, .P p24 (.pick q18 (cb true) q23) .b]) p24 .b, .mv p25 q24 .b, .ge p25 (XL.of [.G p25 false p26 (.faddr 8 q2) .v, .o ⟨(some p27), (.l (.cell q26)), (some (p25, false)), []⟩ .v, .G p25 false p28 (.lenl q27) tI, .G p25 false p29 (.faddr 8 q3) .v, .o ⟨(some p30), (.l (.cell q29)), (some (p25, false)), []⟩ .v, .G p25 false p31 (.lenl q30) tI, .G p25 false p32 (.bin .neq q28 q31) .b, .P p33 (.pick q25 (cb true) q32) .b]) p33 .b]) (.cond q33 (.seq (.oX [.mv p4 (cb false) .b]) .ret) .skip)) (.sj v38_0 (.sO [.fa p34 8 q2, .ld p35 q34 .v, .P p36 (.lenl q35) tI, .mv p37 (ci 0) tI] (.block 0 (.loop v38_1 c38_1b))) c38_0)))
def x38 : XFn := ⟨[.v, .v], false, [(.tmp p4)], c38_e⟩
def e38_0 (k h) := kN k [] h
def S38_0 (D : CallD) (m : Nat) (h : HP) : Res2 :=
 some (.ret (vB true) h, .no)
def e38_1 (k t2 t3 t36 t37 h) := kN k [(p2, t2), (p3, t3), (p36, (vI t36)), (p37, (vI t37))] h
def S38_1b (D : CallD) (m : Nat) (g1 : AV → AV → Int → Int → HP → Res2) (t2 t3 : AV) (t36 t37 : Int) (h : HP) : Res2 :=
 let t38 := ltQ t37 t36
 br t38 (
 faC 8 t2 fun t40 =>
 cellC t40 h fun t41 =>
 iasC 3 t41 (vI t37) fun t43 =>
 faC 1 t43 fun t44 =>
 ldI t44 h fun t45 =>
 faC 8 t3 fun t46 =>
 cellC t46 h fun t47 =>
 iasC 3 t47 (vI t37) fun t49 =>
 faC 1 t49 fun t50 =>
 ldI t50 h fun t51 =>
 let t52 := notQ (eqQ t45 t51)
 br t52 (
 some (.ret (vB false) h, .no)) (
 let t53 := wrQ .i64 (addQ t37 (Int.ofNat 1))
 g1 t2 t3 t36 t53 h)) (
 S38_0 D m h)
def S38_1 (D : CallD) (m : Nat) : AV → AV → Int → Int → HP → Res2 := nrec (fun _ _ _ _ _ => none) (fun _ g => S38_1b D m g) m
def e38_2 (k t0 t1 h) := kN k [(p0, t0), (p1, t1)] h
def S38_2 (D : CallD) (m : Nat) (t0 t1 : AV) (h : HP) : Res2 :=
 let t2 := P0 h
 let h3 := HP.newQ h (.cells true (AV.cells t0))
 let t3 := P0 h3
 let h4 := HP.newQ h3 (.cells true (AV.cells t1))
 let t6 := (AV.ptr (HP.nxQ h) (Nat.add 0 4))
 ldI t6 h4 fun t7 =>
 let t8 := (AV.ptr (HP.nxQ h3) (Nat.add 0 4))
 ldI t8 h4 fun t9 =>
 let t10 := notQ (eqQ t7 t9)
 obB (brV t10 (
 some (vB true)) (
 let t12 := (AV.ptr (HP.nxQ h) (Nat.add 0 5))
 ldIV t12 h4 fun t13 =>
 let t14 := (AV.ptr (HP.nxQ h3) (Nat.add 0 5))
 ldIV t14 h4 fun t15 =>
 let t16 := notQ (eqQ t13 t15)
 some (vB t16))) fun t17 =>
 obB (brV t17 (
 some (vB true)) (
 let t19 := (AV.ptr (HP.nxQ h) (Nat.add 0 1))
 ldBV t19 h4 fun t20 =>
 let t21 := (AV.ptr (HP.nxQ h3) (Nat.add 0 1))
 ldBV t21 h4 fun t22 =>
 let t23 := ((t20 == t22) != true)
 some (vB t23))) fun t24 =>
 obB (brV t24 (
 some (vB true)) (
 let t26 := (AV.ptr (HP.nxQ h) (Nat.add 0 8))
 cellCV t26 h4 fun t27 =>
 lenCV t27 fun vt28 => asIV .i64 vt28 fun t28 =>
 let t29 := (AV.ptr (HP.nxQ h3) (Nat.add 0 8))
 cellCV t29 h4 fun t30 =>
 lenCV t30 fun vt31 => asIV .i64 vt31 fun t31 =>
 let t32 := notQ (eqQ t28 t31)
 some (vB t32))) fun t33 =>
 br t33 (
 some (.ret (vB false) h4, .no)) (
 let t34 := (AV.ptr (HP.nxQ h) (Nat.add 0 8))
 cellC t34 h4 fun t35 =>
 lenC t35 fun vt36 => asI .i64 vt36 fun t36 =>
 S38_1 D m t2 t3 t36 (Int.ofNat 0) h4)
def S38 : SFn := fun D m args h u => nou u <| popV args fun t0 args => popV args fun t1 args => endA args (S38_2 D m t0 t1 h)
theorem T38_0 (hE : FX x38 D m E) : S38_0 D m = e38_0 (E c38_0 []) := by unfold S38_0; rw [hE c38_0]; kernel_rfl
theorem T38_1b (hE : FX x38 D m E) (G1) : S38_1b D m (e38_1 G1) = e38_1 (E c38_1b [.lp v38_1 G1, .blk 0, .sj v38_0 c38_0]) := by unfold S38_1b; rw [T38_0 hE, hE c38_1b]; kernel_rfl
theorem T38_1 (hE : FX x38 D m E) : S38_1 D m = e38_1 (nrec (fun _ => none) (fun _ G1 st => E c38_1b [.lp v38_1 G1, .blk 0, .sj v38_0 c38_0] st) m) :=
  nrec_emb e38_1 (fun _ _ _ _ _ => none) (fun g => S38_1b D m g) (fun G1 st => E c38_1b [.lp v38_1 G1, .blk 0, .sj v38_0 c38_0] st) rfl (fun g => T38_1b hE g) m
theorem T38_2 (hE : FX x38 D m E) : S38_2 D m = e38_2 (E c38_e []) := by unfold S38_2; rw [T38_1 hE, hE c38_e]; kernel_rfl
theorem X38 : XTie S38 x38 := X_of fun D m E hE args h u => by unfold S38; rw [T38_2 hE]; kernel_rfl
/- 39 -/
def v39_1 : List Pos := [p4]
def c39_1 : XC := (.sO [.mv p50 q4 .v, .mv p2 q50 .v] (.s .ret))
def v39_3 : List Pos := [p1, p3, p4, p31, p32]
def c39_3 : XC := (.s (.oX [.bn p49 .add q32 (ci 1) tI, .mv p32 q49 tI]))
def v39_2 : List Pos := [p1, p3, p4, p31, p32]
def c39_2b : XC := (.sO [.bn p33 .lss q32 q31 .b] (.seq (.cond q33 .skip (.exit 2)) (.sj v39_3 (.block 3 (.sO [.mv p34 q32 tI, .mv p6 q34 tI] (.seq (.ops true (XL.of [.L p35 (.cells 1 q1) .v, .mv p36 q3 .v, .mv p37 q6 tI, .P p38 (.iaddr (.sl 1) q36 q37) .v, .ld p39 q38 .s, .cl p40 57 [q35, q39] .b, .P p41 (.un .not q40) .b])) (.cond q41 (.s (.oX [.mv p42 q4 .v, .mv p43 q3 .v, .mv p44 q6 tI, .P p45 (.iaddr (.sl 1) q43 q44) .v, .ld p46 q45 .s, .al p47 (.bsl [(.str [])] 1 [⟨0, 1, q46⟩]), .o ⟨(some p48), (.e (.app 1 16 q42 q47)), none, []⟩ .v, .mv p4 q48 .v])) (.s .skip))))) c39_3)))
def v39_0 : List Pos := [p1, p3, p4]
def c39_0 : XC := (.sj v39_1 (.sO [.mv p30 q3 .v, .P p31 (.lenl q30) tI, .mv p32 (ci 0) tI] (.block 2 (.loop v39_2 c39_2b))) c39_1)
def v39_4 : List Pos := [p1, p3, p4, p9, p10]
def c39_4b : XC := (.sO [.bn p11 .lss q10 q9 .b] (.seq (.cond q11 .skip (.exit 0)) (.seq (.block 1 (.seq (.oX [.mv p12 q10 tI, .mv p5 q12 tI]) (.ops true (XL.of [.fa p13 0 q1, .ld p14 q13 .v, .mv p15 q5 tI, .P p16 (.iaddr (.sl 17) q14 q15) .v, .fa p17 9 q16, .L p18 (.cells 7 q17) .v, .al p19 (.bsl [(kI 0), .nils, .nils, (.str []), (kI 0), (kI 0), (kI 0)] 1 [⟨0, 7, q18⟩]), .fa p20 0 q1, .ld p21 q20 .v, .mv p22 q5 tI, .P p23 (.iaddr (.sl 17) q21 q22) .v, .fa p24 6 q23, .ld p25 q24 .v, .mv p26 q3 .v, .o ⟨(some p27), (.call (.fn 56) [q25, q26]), none, [⟨none, .cell q13, p14⟩, ⟨none, .cells 7 q17, p18⟩]⟩ .v, .cl p28 55 [q19, q27] .v, .mv p3 q28 .v])))) (.s (.oX [.bn p29 .add q10 (ci 1) tI, .mv p10 q29 tI])))))
def c39_e : XC := (.sO [.al p1 (.box q0), .mv p2 (.c .nils) .v] (.sO [.mv p3 (.c .nils) .v, .mv p4 (.c .nils) .v] (.sj v39_0 (.sO [.fa p7 0 q1, .ld p8 q7 .v, .P p9 (.lenl q8) tI, .mv p10 (ci 0) tI] (.block 0 (.loop v39_4 c39_4b))) c39_0)))
def x39 : XFn := ⟨[.v], false, [(.tmp p2)], c39_e⟩
def e39_1 (k t4 h) := kN k [(p4, t4)] h
def S39_1 (D : CallD) (m : Nat) (t4 : AV) (h : HP) : Res2 :=
 some (.ret t4 h, .no)
def e39_3 (k t1 t3 t4 t31 t32 h) := kN k [(p1, t1), (p3, t3), (p4, t4), (p31, (vI t31)), (p32, (vI t32))] h
def S39_3 (D : CallD) (m : Nat) (g2 : AV → AV → AV → Int → Int → HP → Res2) (t1 t3 t4 : AV) (t31 t32 : Int) (h : HP) : Res2 :=
 let t49 := wrQ .i64 (addQ t32 (Int.ofNat 1))
 g2 t1 t3 t4 t31 t49 h
def e39_2 (k t1 t3 t4 t31 t32 h) := kN k [(p1, t1), (p3, t3), (p4, t4), (p31, (vI t31)), (p32, (vI t32))] h
def S39_2b (D : CallD) (m : Nat) (g2 : AV → AV → AV → Int → Int → HP → Res2) (t1 t3 t4 : AV) (t31 t32 : Int) (h : HP) : Res2 :=
 let t33 := ltQ t32 t31
 br t33 (
 cellsC 1 t1 h fun t35 =>
 iasC 1 t3 (vI t32) fun t38 =>
 ldS t38 h fun t39 =>
 cal D 57 [t35, (vS t39)] h fun t40 h7 =>
 asB t40 fun t40a =>
 let t41 := !t40a
 br t41 (
 iasC 1 t3 (vI t32) fun t45 =>
 ldS t45 h7 fun t46 =>
 let t47 := AV.slice (HP.nxQ h7) 0 1 (.exact 1)
 let h8 := nQ h7 [(vS t46)]
 eff (.app 1 16 (.c t4) (.c t47)) h8 fun t48 h9 =>
 S39_3 D m g2 t1 t3 t48 t31 t32 h9) (
 S39_3 D m g2 t1 t3 t4 t31 t32 h7)) (
 S39_1 D m t4 h)
def S39_2 (D : CallD) (m : Nat) : AV → AV → AV → Int → Int → HP → Res2 := nrec (fun _ _ _ _ _ _ => none) (fun _ g => S39_2b D m g) m
def e39_0 (k t1 t3 t4 h) := kN k [(p1, t1), (p3, t3), (p4, t4)] h
def S39_0 (D : CallD) (m : Nat) (t1 t3 t4 : AV) (h : HP) : Res2 :=
 lenC t3 fun vt31 => asI .i64 vt31 fun t31 =>
 S39_2 D m t1 t3 t4 t31 (Int.ofNat 0) h
def e39_4 (k t1 t3 t4 t9 t10 h) := kN k [(p1, t1), (p3, t3), (p4, t4), (p9, (vI t9)), (p10, (vI t10))] h
def S39_4b (D : CallD) (m : Nat) (g4 : AV → AV → AV → Int → Int → HP → Res2) (t1 t3 t4 : AV) (t9 t10 : Int) (h : HP) : Res2 :=
 let t11 := ltQ t10 t9
 br t11 (
 faC 0 t1 fun t13 =>
 cellC t13 h fun t14 =>
 iasC 17 t14 (vI t10) fun t16 =>
 faC 9 t16 fun t17 =>
 cellsC 7 t17 h fun t18 =>
 obQ (evA (.bsl [(kI 0), .nils, .nils, (.str []), (kI 0), (kI 0), (kI 0)] 1 [⟨0, 7, (.c t18)⟩]) .leaf) fun r10 =>
 let t19 := vkV r10.2 (HP.nxQ h)
 let h11 := HP.newQ h r10.1
 faC 0 t1 fun t20 =>
 cellC t20 h11 fun t21 =>
 iasC 17 t21 (vI t10) fun t23 =>
 faC 6 t23 fun t24 =>
 cellC t24 h11 fun t25 =>
 cal D 56 [t25, t3] h11 fun t27 h12 =>
 br (again [⟨none, .cell q13, p14⟩, ⟨none, .cells 7 q17, p18⟩] (mkT [(p18, t18), (p17, t17), (p14, t14), (p13, t13)]) h12) (
 cal D 55 [t19, t27] h12 fun t28 h13 =>
 let t29 := wrQ .i64 (addQ t10 (Int.ofNat 1))
 g4 t1 t28 t4 t9 t29 h13) none) (
 S39_0 D m t1 t3 t4 h)
def S39_4 (D : CallD) (m : Nat) : AV → AV → AV → Int → Int → HP → Res2 := nrec (fun _ _ _ _ _ _ => none) (fun _ g => S39_4b D m g) m
def e39_5 (k t0 h) := kN k [(p0, t0)] h
def S39_5 (D : CallD) (m : Nat) (t0 : AV) (h : HP) : Res2 :=
 let t1 := P0 h
 let h6 := HP.newQ h (.cells true (AV.cells t0))
 let t7 := (AV.ptr (HP.nxQ h) (Nat.add 0 0))
 cellC t7 h6 fun t8 =>
 lenC t8 fun vt9 => asI .i64 vt9 fun t9 =>
 S39_4 D m t1 (.nils : AV) (.nils : AV) t9 (Int.ofNat 0) h6
def S39 : SFn := fun D m args h u => nou u <| popV args fun t0 args => endA args (S39_5 D m t0 h)
theorem T39_1 (hE : FX x39 D m E) : S39_1 D m = e39_1 (E c39_1 []) := by unfold S39_1; rw [hE c39_1]; kernel_rfl
theorem T39_3 (hE : FX x39 D m E) (G2) : S39_3 D m (e39_2 G2) = e39_3 (E c39_3 [.lp v39_2 G2, .blk 2, .sj v39_1 c39_1]) := by unfold S39_3; rw [hE c39_3]; kernel_rfl
theorem T39_2b (hE : FX x39 D m E) (G2) : S39_2b D m (e39_2 G2) = e39_2 (E c39_2b [.lp v39_2 G2, .blk 2, .sj v39_1 c39_1]) := by unfold S39_2b; rw [T39_3 hE G2, T39_1 hE, hE c39_2b]; kernel_rfl
theorem T39_2 (hE : FX x39 D m E) : S39_2 D m = e39_2 (nrec (fun _ => none) (fun _ G2 st => E c39_2b [.lp v39_2 G2, .blk 2, .sj v39_1 c39_1] st) m) :=
  nrec_emb e39_2 (fun _ _ _ _ _ _ => none) (fun g => S39_2b D m g) (fun G2 st => E c39_2b [.lp v39_2 G2, .blk 2, .sj v39_1 c39_1] st) rfl (fun g => T39_2b hE g) m
theorem T39_0 (hE : FX x39 D m E) : S39_0 D m = e39_0 (E c39_0 []) := by unfold S39_0; rw [T39_2 hE, hE c39_0]; kernel_rfl
theorem T39_4b (hE : FX x39 D m E) (G4) : S39_4b D m (e39_4 G4) = e39_4 (E c39_4b [.lp v39_4 G4, .blk 0, .sj v39_0 c39_0]) := by unfold S39_4b; rw [T39_0 hE, hE c39_4b]; kernel_rfl
theorem T39_4 (hE : FX x39 D m E) : S39_4 D m = e39_4 (nrec (fun _ => none) (fun _ G4 st => E c39_4b [.lp v39_4 G4, .blk 0, .sj v39_0 c39_0] st) m) :=
  nrec_emb e39_4 (fun _ _ _ _ _ _ => none) (fun g => S39_4b D m g) (fun G4 st => E c39_4b [.lp v39_4 G4, .blk 0, .sj v39_0 c39_0] st) rfl (fun g => T39_4b hE g) m
theorem T39_5 (hE : FX x39 D m E) : S39_5 D m = e39_5 (E c39_e []) := by unfold S39_5; rw [T39_4 hE, hE c39_e]; kernel_rfl
theorem X39 : XTie S39 x39 := X_of fun D m E hE args h u => by unfold S39; rw [T39_5 hE]; kernel_rfl
/- 40 -/
def v40_0 : List Pos := [p7]
def c40_0 : XC := (.sO [.mv p41 q7 .v, .mv p6 q41 .v] (.s .ret))
def v40_2 : List Pos := [p1, p2, p3, p7, p11, p12]
def c40_2 : XC := (.s (.oX [.bn p40 .add q12 (ci 1) tI, .mv p12 q40 tI]))
def v40_3 : List Pos := [p1, p2, p3, p7, p9, p11, p12]
def c40_3 : XC := (.s (.oX [.mv p36 q7 .v, .L p37 (.cells 8 q9) .v, .al p38 (.bsl [(kI 0), (.str []), (.str []), (.int .u32 (.ofNat 0)), (.int .u64 (.ofNat 0)), .nils, (kI 0), (kI 0)] 1 [⟨0, 8, q37⟩]), .o ⟨(some p39), (.e (.app 8 96 q36 q38)), none, []⟩ .v, .mv p7 q39 .v]))
def v40_1 : List Pos := [p1, p2, p3, p7, p11, p12]
def c40_1b : XC := (.sO [.bn p13 .lss q12 q11 .b] (.seq (.cond q13 .skip (.exit 0)) (.sj v40_2 (.block 1 (.sO [.mv p14 q12 tI, .mv p8 q14 tI] (.sO [.mv p15 q2 .v, .mv p16 q8 tI, .P p17 (.iaddr (.sl 8) q15 q16) .v, .L p18 (.cells 8 q17) .v, .al p9 (.new [(kI 0), (.str []), (.str []), (.int .u32 (.ofNat 0)), (.int .u64 (.ofNat 0)), .nils, (kI 0), (kI 0)]), .ss 8 q9 q18] (.seq (.ops true (XL.of [.L p19 (.cells 1 q3) .v, .mv p20 q1 tI, .mv p21 q2 .v, .mv p22 q8 tI, .P p23 (.iaddr (.sl 8) q21 q22) .v, .fa p24 5 q23, .ld p25 q24 .v, .cl p26 40 [q19, q20, q25] .v, .fa p27 5 q9, .st q27 q26])) (.sj v40_3 (.sO [.L p28 (.cells 8 q9) .v, .cl p29 58 [q28] .b] (.cond q29 (.s (.oX [.L p30 (.cells 1 q3) .v, .mv p31 q1 tI, .fa p32 2 q9, .ld p33 q32 .s, .cl p34 42 [q30, q31, q33] .s, .fa p35 2 q9, .st q35 q34])) (.s .skip))) c40_3))))) c40_2)))
def c40_e : XC := (.sO [.al p3 (.box q0), .mv p6 (.c .nils) .v] (.sO [.mv p7 (.c .nils) .v] (.sj v40_0 (.sO [.mv p10 q2 .v, .P p11 (.lenl q10) tI, .mv p12 (ci 0) tI] (.block 0 (.loop v40_1 c40_1b))) c40_0)))
def x40 : XFn := ⟨[.v, tI, .v], false, [(.tmp p6)], c40_e⟩
def e40_0 (k t7 h) := kN k [(p7, t7)] h
def S40_0 (D : CallD) (m : Nat) (t7 : AV) (h : HP) : Res2 :=
 some (.ret t7 h, .no)
def e40_2 (k t1 t2 t3 t7 t11 t12 h) := kN k [(p1, (vI t1)), (p2, t2), (p3, t3), (p7, t7), (p11, (vI t11)), (p12, (vI t12))] h
def S40_2 (D : CallD) (m : Nat) (g1 : Int → AV → AV → AV → Int → Int → HP → Res2) (t1 : Int) (t2 t3 t7 : AV) (t11 t12 : Int) (h : HP) : Res2 :=
 let t40 := wrQ .i64 (addQ t12 (Int.ofNat 1))
 g1 t1 t2 t3 t7 t11 t40 h
def e40_3 (k t1 t2 t3 t7 t9 t11 t12 h) := kN k [(p1, (vI t1)), (p2, t2), (p3, t3), (p7, t7), (p9, t9), (p11, (vI t11)), (p12, (vI t12))] h
def S40_3 (D : CallD) (m : Nat) (g1 : Int → AV → AV → AV → Int → Int → HP → Res2) (t1 : Int) (t2 t3 t7 t9 : AV) (t11 t12 : Int) (h : HP) : Res2 :=
 cellsC 8 t9 h fun t37 =>
 obQ (evA (.bsl [(kI 0), (.str []), (.str []), (.int .u32 (.ofNat 0)), (.int .u64 (.ofNat 0)), .nils, (kI 0), (kI 0)] 1 [⟨0, 8, (.c t37)⟩]) .leaf) fun r10 =>
 let t38 := vkV r10.2 (HP.nxQ h)
 let h11 := HP.newQ h r10.1
 eff (.app 8 96 (.c t7) (.c t38)) h11 fun t39 h12 =>
 S40_2 D m g1 t1 t2 t3 t39 t11 t12 h12
def e40_1 (k t1 t2 t3 t7 t11 t12 h) := kN k [(p1, (vI t1)), (p2, t2), (p3, t3), (p7, t7), (p11, (vI t11)), (p12, (vI t12))] h
def S40_1b (D : CallD) (m : Nat) (g1 : Int → AV → AV → AV → Int → Int → HP → Res2) (t1 : Int) (t2 t3 t7 : AV) (t11 t12 : Int) (h : HP) : Res2 :=
 let t13 := ltQ t12 t11
 br t13 (
 iasC 8 t2 (vI t12) fun t17 =>
 cellsC 8 t17 h fun t18 =>
 let t9 := P0 h
 let h6 := nQ h [(kI 0), (.str []), (.str []), (.int .u32 (.ofNat 0)), (.int .u64 (.ofNat 0)), .nils, (kI 0), (kI 0)]
 stsC 8 t9 t18 h6 fun h7 =>
 cellsC 1 t3 h7 fun t19 =>
 iasC 8 t2 (vI t12) fun t23 =>
 faC 5 t23 fun t24 =>
 cellC t24 h7 fun t25 =>
 cal D 40 [t19, (vI t1), t25] h7 fun t26 h8 =>
 let t27 := (AV.ptr (HP.nxQ h) (Nat.add 0 5))
 stoC t27 t26 h8 fun h9 =>
 cellsC 8 t9 h9 fun t28 =>
 cal D 58 [t28] h9 fun t29 h13 =>
 asB t29 fun t29a =>
 br t29a (
 cellsC 1 t3 h13 fun t30 =>
 let t32 := (AV.ptr (HP.nxQ h) (Nat.add 0 2))
 ldS t32 h13 fun t33 =>
 cal D 42 [t30, (vI t1), (vS t33)] h13 fun t34 h14 =>
 asS t34 fun t34a =>
 let t35 := (AV.ptr (HP.nxQ h) (Nat.add 0 2))
 stoC t35 (vS t34a) h14 fun h15 =>
 S40_3 D m g1 t1 t2 t3 t7 t9 t11 t12 h15) (
 S40_3 D m g1 t1 t2 t3 t7 t9 t11 t12 h13)) (
 S40_0 D m t7 h)
def S40_1 (D : CallD) (m : Nat) : Int → AV → AV → AV → Int → Int → HP → Res2 := nrec (fun _ _ _ _ _ _ _ => none) (fun _ g => S40_1b D m g) m
def e40_4 (k t0 t1 t2 h) := kN k [(p0, t0), (p1, (vI t1)), (p2, t2)] h
def S40_4 (D : CallD) (m : Nat) (t0 : AV) (t1 : Int) (t2 : AV) (h : HP) : Res2 :=
 let t3 := P0 h
 let h5 := HP.newQ h (.cells true (AV.cells t0))
 lenC t2 fun vt11 => asI .i64 vt11 fun t11 =>
 S40_1 D m t1 t2 t3 (.nils : AV) t11 (Int.ofNat 0) h5
def S40 : SFn := fun D m args h u => nou u <| popV args fun t0 args => popI .i64 args fun t1 args => popV args fun t2 args => endA args (S40_4 D m t0 t1 t2 h)
theorem T40_0 (hE : FX x40 D m E) : S40_0 D m = e40_0 (E c40_0 []) := by unfold S40_0; rw [hE c40_0]; kernel_rfl
theorem T40_2 (hE : FX x40 D m E) (G1) : S40_2 D m (e40_1 G1) = e40_2 (E c40_2 [.lp v40_1 G1, .blk 0, .sj v40_0 c40_0]) := by unfold S40_2; rw [hE c40_2]; kernel_rfl
theorem T40_3 (hE : FX x40 D m E) (G1) : S40_3 D m (e40_1 G1) = e40_3 (E c40_3 [.blk 1, .sj v40_2 c40_2, .lp v40_1 G1, .blk 0, .sj v40_0 c40_0]) := by unfold S40_3; rw [T40_2 hE G1, hE c40_3]; kernel_rfl
theorem T40_1b (hE : FX x40 D m E) (G1) : S40_1b D m (e40_1 G1) = e40_1 (E c40_1b [.lp v40_1 G1, .blk 0, .sj v40_0 c40_0]) := by unfold S40_1b; rw [T40_3 hE G1, T40_0 hE, hE c40_1b]; kernel_rfl
theorem T40_1 (hE : FX x40 D m E) : S40_1 D m = e40_1 (nrec (fun _ => none) (fun _ G1 st => E c40_1b [.lp v40_1 G1, .blk 0, .sj v40_0 c40_0] st) m) :=
  nrec_emb e40_1 (fun _ _ _ _ _ _ _ => none) (fun g => S40_1b D m g) (fun G1 st => E c40_1b [.lp v40_1 G1, .blk 0, .sj v40_0 c40_0] st) rfl (fun g => T40_1b hE g) m
theorem T40_4 (hE : FX x40 D m E) : S40_4 D m = e40_4 (E c40_e []) := by unfold S40_4; rw [T40_1 hE, hE c40_e]; kernel_rfl
theorem X40 : XTie S40 x40 := X_of fun D m E hE args h u => by unfold S40; rw [T40_4 hE]; kernel_rfl
/- 41 -/
def v41_0 : List Pos := [p7]
def c41_0 : XC := (.sO [.mv p42 q7 .v, .mv p6 q42 .v] (.s .ret))
def v41_1 : List Pos := [p1, p2, p3, p7, p11, p12]
def c41_1b : XC := (.sO [.bn p13 .lss q12 q11 .b] (.seq (.cond q13 .skip (.exit 0)) (.seq (.block 1 (.seq (.oX [.mv p14 q12 tI, .mv p8 q14 tI]) (.seq (.oX [.mv p15 q2 .v, .mv p16 q8 tI, .P p17 (.iaddr (.sl 7) q15 q16) .v, .L p18 (.cells 7 q17) .v, .al p9 (.new [(kI 0), .nils, .nils, (.str []), (kI 0), (kI 0), (kI 0)]), .ss 7 q9 q18]) (.seq (.ops true (XL.of [.L p19 (.cells 1 q3) .v, .mv p20 q1 tI, .mv p21 q2 .v, .mv p22 q8 tI, .P p23 (.iaddr (.sl 7) q21 q22) .v, .fa p24 1 q23, .ld p25 q24 .v, .cl p26 40 [q19, q20, q25] .v, .fa p27 1 q9, .st q27 q26])) (.seq (.ops true (XL.of [.L p28 (.cells 1 q3) .v, .mv p29 q1 tI, .mv p30 q2 .v, .mv p31 q8 tI, .P p32 (.iaddr (.sl 7) q30 q31) .v, .fa p33 2 q32, .ld p34 q33 .v, .cl p35 41 [q28, q29, q34] .v, .fa p36 2 q9, .st q36 q35])) (.oX [.mv p37 q7 .v, .L p38 (.cells 7 q9) .v, .al p39 (.bsl [(kI 0), .nils, .nils, (.str []), (kI 0), (kI 0), (kI 0)] 1 [⟨0, 7, q38⟩]), .o ⟨(some p40), (.e (.app 7 96 q37 q39)), none, []⟩ .v, .mv p7 q40 .v])))))) (.s (.oX [.bn p41 .add q12 (ci 1) tI, .mv p12 q41 tI])))))
def c41_e : XC := (.sO [.al p3 (.box q0), .mv p6 (.c .nils) .v] (.sO [.mv p7 (.c .nils) .v] (.sj v41_0 (.sO [.mv p10 q2 .v, .P p11 (.lenl q10) tI, .mv p12 (ci 0) tI] (.block 0 (.loop v41_1 c41_1b))) c41_0)))
def x41 : XFn := ⟨[.v, tI, .v], false, [(.tmp p6)], c41_e⟩
def e41_0 (k t7 h) := kN k [(p7, t7)] h
def S41_0 (D : CallD) (m : Nat) (t7 : AV) (h : HP) : Res2 :=
 some (.ret t7 h, .no)
def e41_1 (k t1 t2 t3 t7 t11 t12 h) := kN k [(p1, (vI t1)), (p2, t2), (p3, t3), (p7, t7), (p11, (vI t11)), (p12, (vI t12))] h
def S41_1b (D : CallD) (m : Nat) (g1 : Int → AV → AV → AV → Int → Int → HP → Res2) (t1 : Int) (t2 t3 t7 : AV) (t11 t12 : Int) (h : HP) : Res2 :=
 let t13 := ltQ t12 t11
 br t13 (
 iasC 7 t2 (vI t12) fun t17 =>
 cellsC 7 t17 h fun t18 =>
 let t9 := P0 h
 let h4 := nQ h [(kI 0), .nils, .nils, (.str []), (kI 0), (kI 0), (kI 0)]
 stsC 7 t9 t18 h4 fun h5 =>
 cellsC 1 t3 h5 fun t19 =>
 iasC 7 t2 (vI t12) fun t23 =>
 faC 1 t23 fun t24 =>
 cellC t24 h5 fun t25 =>
 cal D 40 [t19, (vI t1), t25] h5 fun t26 h6 =>
 let t27 := (AV.ptr (HP.nxQ h) (Nat.add 0 1))
 stoC t27 t26 h6 fun h7 =>
 cellsC 1 t3 h7 fun t28 =>
 iasC 7 t2 (vI t12) fun t32 =>
 faC 2 t32 fun t33 =>
 cellC t33 h7 fun t34 =>
 cal D 41 [t28, (vI t1), t34] h7 fun t35 h8 =>
 let t36 := (AV.ptr (HP.nxQ h) (Nat.add 0 2))
 stoC t36 t35 h8 fun h9 =>
 cellsC 7 t9 h9 fun t38 =>
 obQ (evA (.bsl [(kI 0), .nils, .nils, (.str []), (kI 0), (kI 0), (kI 0)] 1 [⟨0, 7, (.c t38)⟩]) .leaf) fun r10 =>
 let t39 := vkV r10.2 (HP.nxQ h9)
 let h11 := HP.newQ h9 r10.1
 eff (.app 7 96 (.c t7) (.c t39)) h11 fun t40 h12 =>
 let t41 := wrQ .i64 (addQ t12 (Int.ofNat 1))
 g1 t1 t2 t3 t40 t11 t41 h12) (
 S41_0 D m t7 h)
def S41_1 (D : CallD) (m : Nat) : Int → AV → AV → AV → Int → Int → HP → Res2 := nrec (fun _ _ _ _ _ _ _ => none) (fun _ g => S41_1b D m g) m
def e41_2 (k t0 t1 t2 h) := kN k [(p0, t0), (p1, (vI t1)), (p2, t2)] h
def S41_2 (D : CallD) (m : Nat) (t0 : AV) (t1 : Int) (t2 : AV) (h : HP) : Res2 :=
 let t3 := P0 h
 let h3 := HP.newQ h (.cells true (AV.cells t0))
 lenC t2 fun vt11 => asI .i64 vt11 fun t11 =>
 S41_1 D m t1 t2 t3 (.nils : AV) t11 (Int.ofNat 0) h3
def S41 : SFn := fun D m args h u => nou u <| popV args fun t0 args => popI .i64 args fun t1 args => popV args fun t2 args => endA args (S41_2 D m t0 t1 t2 h)
theorem T41_0 (hE : FX x41 D m E) : S41_0 D m = e41_0 (E c41_0 []) := by unfold S41_0; rw [hE c41_0]; kernel_rfl
theorem T41_1b (hE : FX x41 D m E) (G1) : S41_1b D m (e41_1 G1) = e41_1 (E c41_1b [.lp v41_1 G1, .blk 0, .sj v41_0 c41_0]) := by unfold S41_1b; rw [T41_0 hE, hE c41_1b]; kernel_rfl
theorem T41_1 (hE : FX x41 D m E) : S41_1 D m = e41_1 (nrec (fun _ => none) (fun _ G1 st => E c41_1b [.lp v41_1 G1, .blk 0, .sj v41_0 c41_0] st) m) :=
  nrec_emb e41_1 (fun _ _ _ _ _ _ _ => none) (fun g => S41_1b D m g) (fun G1 st => E c41_1b [.lp v41_1 G1, .blk 0, .sj v41_0 c41_0] st) rfl (fun g => T41_1b hE g) m
theorem T41_2 (hE : FX x41 D m E) : S41_2 D m = e41_2 (E c41_e []) := by unfold S41_2; rw [T41_1 hE, hE c41_e]; kernel_rfl
theorem X41 : XTie S41 x41 := X_of fun D m E hE args h u => by unfold S41; rw [T41_2 hE]; kernel_rfl
/- 42 -/
def c42_e : XC := (.sO [.al p3 (.box q0), .mv p6 (.c (.str [])) .s] (.seq (.seq (.oX [.L p7 (.cells 1 q3) .v, .mv p8 q2 .s, .cl p9 57 [q7, q8] .b]) (.cond q9 (.seq (.oX [.mv p10 q1 tI, .cl p11 19 [q10] .s, .bn p12 .add q11 (.c (.str [46])) .s, .mv p13 q2 .s, .bn p14 .add q12 q13 .s, .mv p6 q14 .s]) .ret) .skip)) (.sO [.mv p15 q2 .s, .mv p6 q15 .s] (.s .ret))))
def x42 : XFn := ⟨[.v, tI, .s], false, [(.tmp p6)], c42_e⟩
def e42_0 (k t0 t1 t2 h) := kN k [(p0, t0), (p1, (vI t1)), (p2, (vS t2))] h
def S42_0 (D : CallD) (m : Nat) (t0 : AV) (t1 : Int) (t2 : LN) (h : HP) : Res2 :=
 let t3 := P0 h
 let h1 := HP.newQ h (.cells true (AV.cells t0))
 cellsC 1 t3 h1 fun t7 =>
 cal D 57 [t7, (vS t2)] h1 fun t9 h2 =>
 asB t9 fun t9a =>
 br t9a (
 cal D 19 [(vI t1)] h2 fun t11 h3 =>
 asS t11 fun t11a =>
 obS (strBin .add t11a ([46] : LN)) fun t12 =>
 obS (strBin .add t12 t2) fun t14 =>
 some (.ret (vS t14) h3, .no)) (
 some (.ret (vS t2) h2, .no))
def S42 : SFn := fun D m args h u => nou u <| popV args fun t0 args => popI .i64 args fun t1 args => popS args fun t2 args => endA args (S42_0 D m t0 t1 t2 h)
theorem T42_0 (hE : FX x42 D m E) : S42_0 D m = e42_0 (E c42_e []) := by unfold S42_0; rw [hE c42_e]; kernel_rfl
theorem X42 : XTie S42 x42 := X_of fun D m E hE args h u => by unfold S42; rw [T42_0 hE]; kernel_rfl
/- 44 -/
def v44_0 : List Pos := [p0, p1]
def c44_0 : XC := (.s (.ops true (XL.of [.ld p12 q1 .v, .P p13 (.nilck q12) .v, .fa p14 3 q13, .ld p15 q14 .v, .ld p16 q1 .v, .P p17 (.nilck q16) .v, .fa p18 5 q17, .ld p19 q18 tI, .fa p20 2 q0, .st q20 q15, .fa p21 3 q0, .st q21 q19])))
def c44_e : XC := (.sj v44_0 (.sO [.o ⟨(some p5), .recover, none, []⟩ .v, .P p6 (.tassert 119 (kI 0) true q5) .v, .mv p4 q6 .v, .P p7 (.ext q4 0) tI, .P p8 (.ext q4 1) .b, .mv p2 q7 tI, .mv p3 q8 .b] (.sO [.mv p9 q3 .b] (.cond q9 (.s (.oX [.mv p10 q2 tI, .P p11 (.build [(kI 0), (.int .u32 (.ofNat 0)), .nils, (kI 0)] [⟨0, 1, q10⟩]) .v, .ss 4 q0 q11])) (.s .skip)))) c44_0)
def x44 : XFn := ⟨[.v, .v], true, [], c44_e⟩
def e44_0 (k : St → Res2) (t0 t1 : AV) (h : HP) (u : AMode) : Res2 := k ⟨mkT [(p0, t0), (p1, t1)], h, [], u⟩
def S44_0 (D : CallD) (m : Nat) (t0 t1 : AV) (h : HP) (u : AMode) : Res2 :=
 cellC t1 h fun t12 =>
 nilckC t12 fun t13 =>
 faC 3 t13 fun t14 =>
 cellC t14 h fun t15 =>
 cellC t1 h fun t16 =>
 nilckC t16 fun t17 =>
 faC 5 t17 fun t18 =>
 ldI t18 h fun t19 =>
 faC 2 t0 fun t20 =>
 stoC t20 t15 h fun h2 =>
 faC 3 t0 fun t21 =>
 stoC t21 (vI t19) h2 fun h3 =>
 some (.ret (.tup []) h3, u)
def e44_1 (k : St → Res2) (t0 t1 : AV) (h : HP) (u : AMode) : Res2 := k ⟨mkT [(p0, t0), (p1, t1)], h, [], u⟩
def S44_1 (D : CallD) (m : Nat) (t0 t1 : AV) (h : HP) (u : AMode) : Res2 :=
 recC u fun t5 u4 =>
 obQ (evP (.tassert 119 (kI 0) true (.c t5)) .leaf) fun t6 =>
 extC t6 0 fun vt7 => asI .i64 vt7 fun t7 =>
 extC t6 1 fun vt8 => asB vt8 fun t8 =>
 br t8 (
 let t11 := (AV.agg [(vI t7), (vW (Int.ofNat 0)), (.nils : AV), (kI 0)])
 stsC 4 t0 t11 h fun h5 =>
 S44_0 D m t0 t1 h5 u4) (
 S44_0 D m t0 t1 h u4)
def S44 : SFn := fun D m args h u => popV args fun t0 args => popV args fun t1 args => endA args (S44_1 D m t0 t1 h u)
theorem T44_0 (hE : FX x44 D m E) : S44_0 D m = e44_0 (E c44_0 []) := by unfold S44_0; rw [hE c44_0]; kernel_rfl
theorem T44_1 (hE : FX x44 D m E) : S44_1 D m = e44_1 (E c44_e []) := by unfold S44_1; rw [T44_0 hE, hE c44_e]; kernel_rfl
theorem X44 : XTie S44 x44 := X_of fun D m E hE args h u => by unfold S44; rw [T44_1 hE]; kernel_rfl
/- 45 -/
def v45_2 : List Pos := [p0, p3, p43, p44, p45]
def c45_2 : XC := (.s (.oX [.bn p106 .add q45 (ci 1) tI, .mv p45 q106 tI]))
def v45_4 : List Pos := [p0, p3, p7, p43, p44, p45, p50, p51, p52]
def c45_4 : XC := (.s (.oX [.bn p105 .add q52 (ci 1) tI, .mv p52 q105 tI]))
def v45_5 : List Pos := [p0, p3, p7, p8, p13, p43, p44, p45, p50, p51, p52]
def c45_5 : XC := (.s (.ops true (XL.of [.mv p92 q0 .v, .P p93 (.nilck q92) .v, .fa p94 1 q93, .ld p95 q94 .v, .fa p96 3 q7, .ld p97 q96 .s, .L p98 (.look .str .nilp false q95 q97) .v, .P p99 (.nilck q98) .v, .fa p100 0 q99, .ld p101 q100 .v, .mv p102 q8 tI, .L p103 (.cells 7 q13) .v, .P p104 (.iaddr (.sl 7) q101 q102) .v, .ss 7 q104 q103])))
def v45_3 : List Pos := [p0, p3, p7, p43, p44, p45, p50, p51, p52]
def c45_3b : XC := (.sO [.bn p53 .lss q52 q51 .b] (.seq (.cond q53 .skip (.exit 4)) (.sj v45_4 (.block 5 (.sO [.mv p54 q52 tI, .P p55 (.iaddr (.sl 8) q50 q52) .v, .L p56 (.cells 8 q55) .v, .al p9 (.new [(kI 0), (.str []), (.str []), (.int .u32 (.ofNat 0)), (.int .u64 (.ofNat 0)), .nils, (kI 0), (kI 0)]), .mv p8 q54 tI, .ss 8 q9 q56] (.sO [.L p58 (.cells 1 q3) .v, .L p59 (.cells 8 q9) .v, .cl p60 67 [q58, q59] .v, .mv p57 q60 .v, .P p61 (.ext q57 0) .v, .P p62 (.ext q57 1) tI, .P p63 (.ext q57 2) tI, .al p10 (.new [(kI 0), (.int .u32 (.ofNat 0)), (.int .u64 (.ofNat 0)), (.str []), (kI 0)]), .ss 5 q10 q61, .mv p11 q62 tI, .mv p12 q63 tI] (.sO [.mv p64 q12 tI, .bn p65 .eql q64 (ci 0) .b, .mv p66 q65 .b, .ge p66 (XL.of [.G p66 true p67 (.mov q8) tI, .G p66 true p68 (.faddr 5 q7) .v, .o ⟨(some p69), (.l (.cell q68)), (some (p66, true)), []⟩ tI, .G p66 true p70 (.mm true [q69, (ci 1)]) tI, .G p66 true p71 (.bin .lss q67 q70) .b, .P p72 (.pick q66 q71 (cb false)) .b]) p72 .b, .cl p73 46 [q72] .v] (.sO [.L p74 (.cells 5 q10) .v, .P p75 (.build [(kI 0), (.int .u32 (.ofNat 0)), (.int .u64 (.ofNat 0)), (.str []), (kI 0), .nilp, (kI 0)] [⟨0, 5, q74⟩]) .v, .al p13 (.new [(kI 0), (.int .u32 (.ofNat 0)), (.int .u64 (.ofNat 0)), (.str []), (kI 0), .nilp, (kI 0)]), .ss 7 q13 q75] (.sj v45_5 (.sO [.fa p76 3 q10, .ld p77 q76 .s, .bn p78 .neq q77 (.c (.str [])) .b] (.cond q78 (.s (.ops true (XL.of [.fa p79 0 q10, .ld p80 q79 tI, .P p81 (.build [(kI 0), (.int .u32 (.ofNat 0)), (.int .u64 (.ofNat 0)), (.str []), (kI 0)] [⟨0, 1, q80⟩]) .v, .mv p82 q0 .v, .P p83 (.nilck q82) .v, .fa p84 1 q83, .ld p85 q84 .v, .fa p86 3 q10, .ld p87 q86 .s, .L p88 (.look .str .nilp false q85 q87) .v, .fa p89 4 q10, .ld p90 q89 tI, .P p91 (.build [(kI 0), (.int .u32 (.ofNat 0)), (.int .u64 (.ofNat 0)), (.str []), (kI 0), .nilp, (kI 0)] [⟨0, 5, q81⟩, ⟨5, 1, q88⟩, ⟨6, 1, q90⟩]) .v, .ss 7 q13 q91]))) (.s .skip))) c45_5)))))) c45_4)))
def v45_1 : List Pos := [p0, p3, p43, p44, p45]
def c45_1b : XC := (.sO [.bn p46 .lss q45 q44 .b] (.seq (.cond q46 .skip (.exit 2)) (.sj v45_2 (.block 3 (.sO [.P p47 (.iaddr (.sl 17) q43 q45) .v, .L p48 (.cells 17 q47) .v, .al p7 (.new [(.bool false), (.bool false), (.bool false), (.str []), (kI 0), (kI 0), .nils, (.bool false), .nils, (kI 0), .nils, .nils, (.str []), (kI 0), (kI 0), (kI 0), (kI 0)]), .ss 17 q7 q48] (.sO [.fa p49 6 q7, .ld p50 q49 .v, .P p51 (.lenl q50) tI, .mv p52 (ci 0) tI] (.block 4 (.loop v45_3 c45_3b))))) c45_2)))
def v45_0 : List Pos := [p0, p3]
def c45_0 : XC := (.sO [.fa p42 0 q3, .ld p43 q42 .v, .P p44 (.lenl q43) tI, .mv p45 (ci 0) tI] (.block 2 (.loop v45_1 c45_1b)))
def v45_7 : List Pos := [p0, p3, p15, p16, p17]
def c45_7 : XC := (.s (.oX [.bn p41 .add q17 (ci 1) tI, .mv p17 q41 tI]))
def v45_6 : List Pos := [p0, p3, p15, p16, p17]
def c45_6b : XC := (.sO [.bn p18 .lss q17 q16 .b] (.seq (.cond q18 .skip (.exit 0)) (.sj v45_7 (.block 1 (.sO [.P p19 (.iaddr (.sl 17) q15 q17) .v, .L p20 (.cells 17 q19) .v, .al p5 (.new [(.bool false), (.bool false), (.bool false), (.str []), (kI 0), (kI 0), .nils, (.bool false), .nils, (kI 0), .nils, .nils, (.str []), (kI 0), (kI 0), (kI 0), (kI 0)]), .ss 17 q5 q20] (.sO [.fa p21 0 q5, .ld p22 q21 .b] (.cond q22 (.s (.ops true (XL.of [.mv p23 q0 .v, .P p24 (.nilck q23) .v, .fa p25 0 q24, .ld p26 q25 .v, .fa p27 3 q5, .ld p28 q27 .s, .L p29 (.cells 17 q5) .v, .o ⟨none, (.e (.mset .str q26 q28 q29)), none, []⟩ .v]))) (.s (.ops true (XL.of [.mv p30 q0 .v, .P p31 (.nilck q30) .v, .fa p32 1 q31, .ld p33 q32 .v, .fa p34 3 q5, .ld p35 q34 .s, .fa p36 4 q5, .ld p37 q36 tI, .fa p38 5 q5, .ld p39 q38 tI, .o ⟨(some p40), (.call (.fn 66) [q37, q39]), none, [⟨none, .cell q32, p33⟩, ⟨none, .cell q34, p35⟩]⟩ .v, .o ⟨none, (.e (.mset .str q33 q35 q40)), none, []⟩ .v]))))))) c45_7)))
def c45_e : XC := (.sO [.al p3 (.box q1)] (.sj v45_0 (.sO [.fa p14 0 q3, .ld p15 q14 .v, .P p16 (.lenl q15) tI, .mv p17 (ci 0) tI] (.block 0 (.loop v45_6 c45_6b))) c45_0))
def x45 : XFn := ⟨[.v, .v], false, [], c45_e⟩
def e45_2 (k t0 t3 t43 t44 t45 h) := kN k [(p0, t0), (p3, t3), (p43, t43), (p44, (vI t44)), (p45, (vI t45))] h
def S45_2 (D : CallD) (m : Nat) (g1 : AV → AV → AV → Int → Int → HP → Res2) (t0 t3 t43 : AV) (t44 t45 : Int) (h : HP) : Res2 :=
 let t106 := wrQ .i64 (addQ t45 (Int.ofNat 1))
 g1 t0 t3 t43 t44 t106 h
def e45_4 (k t0 t3 t7 t43 t44 t45 t50 t51 t52 h) := kN k [(p0, t0), (p3, t3), (p7, t7), (p43, t43), (p44, (vI t44)), (p45, (vI t45)), (p50, t50), (p51, (vI t51)), (p52, (vI t52))] h
def S45_4 (D : CallD) (m : Nat) (g3 : AV → AV → AV → AV → Int → Int → AV → Int → Int → HP → Res2) (g1 : AV → AV → AV → Int → Int → HP → Res2) (t0 t3 t7 t43 : AV) (t44 t45 : Int) (t50 : AV) (t51 t52 : Int) (h : HP) : Res2 :=
 let t105 := wrQ .i64 (addQ t52 (Int.ofNat 1))
 g3 t0 t3 t7 t43 t44 t45 t50 t51 t105 h
def e45_5 (k t0 t3 t7 t8 t13 t43 t44 t45 t50 t51 t52 h) := kN k [(p0, t0), (p3, t3), (p7, t7), (p8, (vI t8)), (p13, t13), (p43, t43), (p44, (vI t44)), (p45, (vI t45)), (p50, t50), (p51, (vI t51)), (p52, (vI t52))] h
def S45_5 (D : CallD) (m : Nat) (g3 : AV → AV → AV → AV → Int → Int → AV → Int → Int → HP → Res2) (g1 : AV → AV → AV → Int → Int → HP → Res2) (t0 t3 t7 : AV) (t8 : Int) (t13 t43 : AV) (t44 t45 : Int) (t50 : AV) (t51 t52 : Int) (h : HP) : Res2 :=
 nilckC t0 fun t93 =>
 faC 1 t93 fun t94 =>
 cellC t94 h fun t95 =>
 faC 3 t7 fun t96 =>
 ldS t96 h fun t97 =>
 obQ (evL (.look .str .nilp false (.c t95) (.c (vS t97))) .leaf h) fun t98 =>
 nilckC t98 fun t99 =>
 faC 0 t99 fun t100 =>
 cellC t100 h fun t101 =>
 cellsC 7 t13 h fun t103 =>
 iasC 7 t101 (vI t8) fun t104 =>
 stsC 7 t104 t103 h fun h20 =>
 S45_4 D m g3 g1 t0 t3 t7 t43 t44 t45 t50 t51 t52 h20
def e45_3 (k t0 t3 t7 t43 t44 t45 t50 t51 t52 h) := kN k [(p0, t0), (p3, t3), (p7, t7), (p43, t43), (p44, (vI t44)), (p45, (vI t45)), (p50, t50), (p51, (vI t51)), (p52, (vI t52))] h
def S45_3b (D : CallD) (m : Nat) (g3 : AV → AV → AV → AV → Int → Int → AV → Int → Int → HP → Res2) (g1 : AV → AV → AV → Int → Int → HP → Res2) (t0 t3 t7 t43 : AV) (t44 t45 : Int) (t50 : AV) (t51 t52 : Int) (h : HP) : Res2 :=
 let t53 := ltQ t52 t51
 br t53 (
 iasC 8 t50 (vI t52) fun t55 =>
 cellsC 8 t55 h fun t56 =>
 let t9 := P0 h
 let h12 := nQ h [(kI 0), (.str []), (.str []), (.int .u32 (.ofNat 0)), (.int .u64 (.ofNat 0)), .nils, (kI 0), (kI 0)]
 stsC 8 t9 t56 h12 fun h13 =>
 cellsC 1 t3 h13 fun t58 =>
 cellsC 8 t9 h13 fun t59 =>
 cal D 67 [t58, t59] h13 fun t60 h14 =>
 extC t60 0 fun t61 =>
 extC t60 1 fun vt62 => asI .i64 vt62 fun t62 =>
 extC t60 2 fun vt63 => asI .i64 vt63 fun t63 =>
 let t10 := P0 h14
 let h15 := nQ h14 [(kI 0), (.int .u32 (.ofNat 0)), (.int .u64 (.ofNat 0)), (.str []), (kI 0)]
 stsC 5 t10 t61 h15 fun h16 =>
 let t65 := eqQ t63 (Int.ofNat 0)
 obB (brV t65 (
 faCV 5 t7 fun t68 =>
 ldIV t68 h16 fun t69 =>
 let t70 := mmI true t69 (Int.ofNat 1)
 let t71 := ltQ t52 t70
 some (vB t71)) (
 some (vB false))) fun t72 =>
 cal D 46 [(vB t72)] h16 fun t73 h17 =>
 cellsC 5 t10 h17 fun t74 =>
 obQ (evP (.build [(kI 0), (.int .u32 (.ofNat 0)), (.int .u64 (.ofNat 0)), (.str []), (kI 0), .nilp, (kI 0)] [⟨0, 5, (.c t74)⟩]) .leaf) fun t75 =>
 let t13 := P0 h17
 let h18 := nQ h17 [(kI 0), (.int .u32 (.ofNat 0)), (.int .u64 (.ofNat 0)), (.str []), (kI 0), .nilp, (kI 0)]
 stsC 7 t13 t75 h18 fun h19 =>
 let t76 := (AV.ptr (HP.nxQ h14) (Nat.add 0 3))
 ldS t76 h19 fun t77 =>
 let t78 := !(eqL t77 ([] : LN))
 br t78 (
 let t79 := (AV.ptr (HP.nxQ h14) (Nat.add 0 0))
 ldI t79 h19 fun t80 =>
 let t81 := (AV.agg [(vI t80), (vW (Int.ofNat 0)), (AV.int .u64 (Int.ofNat 0)), (vS ([] : LN)), (kI 0)])
 nilckC t0 fun t83 =>
 faC 1 t83 fun t84 =>
 cellC t84 h19 fun t85 =>
 let t86 := (AV.ptr (HP.nxQ h14) (Nat.add 0 3))
 ldS t86 h19 fun t87 =>
 obQ (evL (.look .str .nilp false (.c t85) (.c (vS t87))) .leaf h19) fun t88 =>
 let t89 := (AV.ptr (HP.nxQ h14) (Nat.add 0 4))
 ldI t89 h19 fun t90 =>
 obQ (evP (.build [(kI 0), (.int .u32 (.ofNat 0)), (.int .u64 (.ofNat 0)), (.str []), (kI 0), .nilp, (kI 0)] [⟨0, 5, (.c t81)⟩, ⟨5, 1, (.c t88)⟩, ⟨6, 1, (.c (vI t90))⟩]) .leaf) fun t91 =>
 stsC 7 t13 t91 h19 fun h21 =>
 S45_5 D m g3 g1 t0 t3 t7 t52 t13 t43 t44 t45 t50 t51 t52 h21) (
 S45_5 D m g3 g1 t0 t3 t7 t52 t13 t43 t44 t45 t50 t51 t52 h19)) (
 S45_2 D m g1 t0 t3 t43 t44 t45 h)
def S45_3 (D : CallD) (m : Nat) (g1 : AV → AV → AV → Int → Int → HP → Res2) : AV → AV → AV → AV → Int → Int → AV → Int → Int → HP → Res2 := nrec (fun _ _ _ _ _ _ _ _ _ _ => none) (fun _ g => S45_3b D m g g1) m
def e45_1 (k t0 t3 t43 t44 t45 h) := kN k [(p0, t0), (p3, t3), (p43, t43), (p44, (vI t44)), (p45, (vI t45))] h
def S45_1b (D : CallD) (m : Nat) (g1 : AV → AV → AV → Int → Int → HP → Res2) (t0 t3 t43 : AV) (t44 t45 : Int) (h : HP) : Res2 :=
 let t46 := ltQ t45 t44
 br t46 (
 iasC 17 t43 (vI t45) fun t47 =>
 cellsC 17 t47 h fun t48 =>
 let t7 := P0 h
 let h10 := nQ h [(.bool false), (.bool false), (.bool false), (.str []), (kI 0), (kI 0), .nils, (.bool false), .nils, (kI 0), .nils, .nils, (.str []), (kI 0), (kI 0), (kI 0), (kI 0)]
 stsC 17 t7 t48 h10 fun h11 =>
 let t49 := (AV.ptr (HP.nxQ h) (Nat.add 0 6))
 cellC t49 h11 fun t50 =>
 lenC t50 fun vt51 => asI .i64 vt51 fun t51 =>
 S45_3 D m g1 t0 t3 t7 t43 t44 t45 t50 t51 (Int.ofNat 0) h11) (
 some (.ret (.tup []) h, .no))
def S45_1 (D : CallD) (m : Nat) : AV → AV → AV → Int → Int → HP → Res2 := nrec (fun _ _ _ _ _ _ => none) (fun _ g => S45_1b D m g) m
def e45_0 (k t0 t3 h) := kN k [(p0, t0), (p3, t3)] h
def S45_0 (D : CallD) (m : Nat) (t0 t3 : AV) (h : HP) : Res2 :=
 faC 0 t3 fun t42 =>
 cellC t42 h fun t43 =>
 lenC t43 fun vt44 => asI .i64 vt44 fun t44 =>
 S45_1 D m t0 t3 t43 t44 (Int.ofNat 0) h
def e45_7 (k t0 t3 t15 t16 t17 h) := kN k [(p0, t0), (p3, t3), (p15, t15), (p16, (vI t16)), (p17, (vI t17))] h
def S45_7 (D : CallD) (m : Nat) (g6 : AV → AV → AV → Int → Int → HP → Res2) (t0 t3 t15 : AV) (t16 t17 : Int) (h : HP) : Res2 :=
 let t41 := wrQ .i64 (addQ t17 (Int.ofNat 1))
 g6 t0 t3 t15 t16 t41 h
def e45_6 (k t0 t3 t15 t16 t17 h) := kN k [(p0, t0), (p3, t3), (p15, t15), (p16, (vI t16)), (p17, (vI t17))] h
def S45_6b (D : CallD) (m : Nat) (g6 : AV → AV → AV → Int → Int → HP → Res2) (t0 t3 t15 : AV) (t16 t17 : Int) (h : HP) : Res2 :=
 let t18 := ltQ t17 t16
 br t18 (
 iasC 17 t15 (vI t17) fun t19 =>
 cellsC 17 t19 h fun t20 =>
 let t5 := P0 h
 let h22 := nQ h [(.bool false), (.bool false), (.bool false), (.str []), (kI 0), (kI 0), .nils, (.bool false), .nils, (kI 0), .nils, .nils, (.str []), (kI 0), (kI 0), (kI 0), (kI 0)]
 stsC 17 t5 t20 h22 fun h23 =>
 let t21 := (AV.ptr (HP.nxQ h) (Nat.add 0 0))
 ldB t21 h23 fun t22 =>
 br t22 (
 nilckC t0 fun t24 =>
 faC 0 t24 fun t25 =>
 cellC t25 h23 fun t26 =>
 let t27 := (AV.ptr (HP.nxQ h) (Nat.add 0 3))
 ldS t27 h23 fun t28 =>
 cellsC 17 t5 h23 fun t29 =>
 eff (.mset .str (.c t26) (.c (vS t28)) (.c t29)) h23 fun t0a h24 =>
 S45_7 D m g6 t0 t3 t15 t16 t17 h24) (
 nilckC t0 fun t31 =>
 faC 1 t31 fun t32 =>
 cellC t32 h23 fun t33 =>
 let t34 := (AV.ptr (HP.nxQ h) (Nat.add 0 3))
 ldS t34 h23 fun t35 =>
 let t36 := (AV.ptr (HP.nxQ h) (Nat.add 0 4))
 ldI t36 h23 fun t37 =>
 let t38 := (AV.ptr (HP.nxQ h) (Nat.add 0 5))
 ldI t38 h23 fun t39 =>
 cal D 66 [(vI t37), (vI t39)] h23 fun t40 h25 =>
 br (again [⟨none, .cell q32, p33⟩, ⟨none, .cell q34, p35⟩] (mkT [(p35, (vS t35)), (p34, t34), (p33, t33), (p32, t32)]) h25) (
 eff (.mset .str (.c t33) (.c (vS t35)) (.c t40)) h25 fun t0a h26 =>
 S45_7 D m g6 t0 t3 t15 t16 t17 h26) none)) (
 S45_0 D m t0 t3 h)
def S45_6 (D : CallD) (m : Nat) : AV → AV → AV → Int → Int → HP → Res2 := nrec (fun _ _ _ _ _ _ => none) (fun _ g => S45_6b D m g) m
def e45_8 (k t0 t1 h) := kN k [(p0, t0), (p1, t1)] h
def S45_8 (D : CallD) (m : Nat) (t0 t1 : AV) (h : HP) : Res2 :=
 let t3 := P0 h
 let h9 := HP.newQ h (.cells true (AV.cells t1))
 let t14 := (AV.ptr (HP.nxQ h) (Nat.add 0 0))
 cellC t14 h9 fun t15 =>
 lenC t15 fun vt16 => asI .i64 vt16 fun t16 =>
 S45_6 D m t0 t3 t15 t16 (Int.ofNat 0) h9
def S45 : SFn := fun D m args h u => nou u <| popV args fun t0 args => popV args fun t1 args => endA args (S45_8 D m t0 t1 h)
theorem T45_2 (hE : FX x45 D m E) (G1) : S45_2 D m (e45_1 G1) = e45_2 (E c45_2 [.lp v45_1 G1, .blk 2]) := by unfold S45_2; rw [hE c45_2]; kernel_rfl
theorem T45_4 (hE : FX x45 D m E) (G3) (G1) : S45_4 D m (e45_3 G3) (e45_1 G1) = e45_4 (E c45_4 [.lp v45_3 G3, .blk 4, .blk 3, .sj v45_2 c45_2, .lp v45_1 G1, .blk 2]) := by unfold S45_4; rw [hE c45_4]; kernel_rfl
theorem T45_5 (hE : FX x45 D m E) (G3) (G1) : S45_5 D m (e45_3 G3) (e45_1 G1) = e45_5 (E c45_5 [.blk 5, .sj v45_4 c45_4, .lp v45_3 G3, .blk 4, .blk 3, .sj v45_2 c45_2, .lp v45_1 G1, .blk 2]) := by unfold S45_5; rw [T45_4 hE G3 G1, hE c45_5]; kernel_rfl
theorem T45_3b (hE : FX x45 D m E) (G3) (G1) : S45_3b D m (e45_3 G3) (e45_1 G1) = e45_3 (E c45_3b [.lp v45_3 G3, .blk 4, .blk 3, .sj v45_2 c45_2, .lp v45_1 G1, .blk 2]) := by unfold S45_3b; rw [T45_5 hE G3 G1, T45_2 hE G1, hE c45_3b]; kernel_rfl
theorem T45_3 (hE : FX x45 D m E) (G1) : S45_3 D m (e45_1 G1) = e45_3 (nrec (fun _ => none) (fun _ G3 st => E c45_3b [.lp v45_3 G3, .blk 4, .blk 3, .sj v45_2 c45_2, .lp v45_1 G1, .blk 2] st) m) :=
  nrec_emb e45_3 (fun _ _ _ _ _ _ _ _ _ _ => none) (fun g => S45_3b D m g (e45_1 G1)) (fun G3 st => E c45_3b [.lp v45_3 G3, .blk 4, .blk 3, .sj v45_2 c45_2, .lp v45_1 G1, .blk 2] st) rfl (fun g => T45_3b hE g G1) m
theorem T45_1b (hE : FX x45 D m E) (G1) : S45_1b D m (e45_1 G1) = e45_1 (E c45_1b [.lp v45_1 G1, .blk 2]) := by unfold S45_1b; rw [T45_3 hE G1, hE c45_1b]; kernel_rfl
theorem T45_1 (hE : FX x45 D m E) : S45_1 D m = e45_1 (nrec (fun _ => none) (fun _ G1 st => E c45_1b [.lp v45_1 G1, .blk 2] st) m) :=
  nrec_emb e45_1 (fun _ _ _ _ _ _ => none) (fun g => S45_1b D m g) (fun G1 st => E c45_1b [.lp v45_1 G1, .blk 2] st) rfl (fun g => T45_1b hE g) m
theorem T45_0 (hE : FX x45 D m E) : S45_0 D m = e45_0 (E c45_0 []) := by unfold S45_0; rw [T45_1 hE, hE c45_0]; kernel_rfl
theorem T45_7 (hE : FX x45 D m E) (G6) : S45_7 D m (e45_6 G6) = e45_7 (E c45_7 [.lp v45_6 G6, .blk 0, .sj v45_0 c45_0]) := by unfold S45_7; rw [hE c45_7]; kernel_rfl
theorem T45_6b (hE : FX x45 D m E) (G6) : S45_6b D m (e45_6 G6) = e45_6 (E c45_6b [.lp v45_6 G6, .blk 0, .sj v45_0 c45_0]) := by unfold S45_6b; rw [T45_7 hE G6, T45_0 hE, hE c45_6b]; kernel_rfl
theorem T45_6 (hE : FX x45 D m E) : S45_6 D m = e45_6 (nrec (fun _ => none) (fun _ G6 st => E c45_6b [.lp v45_6 G6, .blk 0, .sj v45_0 c45_0] st) m) :=
  nrec_emb e45_6 (fun _ _ _ _ _ _ => none) (fun g => S45_6b D m g) (fun G6 st => E c45_6b [.lp v45_6 G6, .blk 0, .sj v45_0 c45_0] st) rfl (fun g => T45_6b hE g) m
theorem T45_8 (hE : FX x45 D m E) : S45_8 D m = e45_8 (E c45_e []) := by unfold S45_8; rw [T45_6 hE, hE c45_e]; kernel_rfl
theorem X45 : XTie S45 x45 := X_of fun D m E hE args h u => by unfold S45; rw [T45_8 hE]; kernel_rfl
/- 46 -/
def c46_e : XC := (.sO [.mv p2 q0 .b, .P p3 (.un .not q2) .b] (.cond q3 (.s (.oX [.P p4 (.mkif 119 (ci 5)) .v, .o ⟨none, (.panic q4), none, []⟩ .v])) (.s .skip)))
def x46 : XFn := ⟨[.b], false, [], c46_e⟩
def e46_0 (k t0 h) := kN k [(p0, (vB t0))] h
def S46_0 (D : CallD) (m : Nat) (t0 : Bool) (h : HP) : Res2 :=
 let t3 := !t0
 br t3 (
 let t4 := (AV.iface 119 (kI 5))
 some (.pan [(.iface 119 (kI 5), false)] h, .no)) (
 some (.ret (.tup []) h, .no))
def S46 : SFn := fun D m args h u => nou u <| popB args fun t0 args => endA args (S46_0 D m t0 h)
theorem T46_0 (hE : FX x46 D m E) : S46_0 D m = e46_0 (E c46_e []) := by unfold S46_0; rw [hE c46_e]; kernel_rfl
theorem X46 : XTie S46 x46 := X_of fun D m E hE args h u => by unfold S46; rw [T46_0 hE]; kernel_rfl
/- 47 -/
def v47_0 : List Pos := [p0, p4, p6, p7]
def c47_0 : XC := (.sO [.mv p68 q7 .v, .fa p69 9 q4, .fa p70 2 q69, .ld p71 q70 .v, .cl p72 70 [q68, q71] tI] (.seq (.seq (.oX [.mv p73 q7 .v, .P p74 (.nilck q73) .v, .fa p75 1 q74, .ld p76 q75 .v, .o ⟨(some p77), (.e (.rangem q76)), none, []⟩ .v]) (.rs p77 1 (.bool true) [p78, p79, p80, p81, p11, p82, p83, p84])) (.seq (.ops true (XL.of [.mv p85 q0 .v, .P p86 (.nilck q85) .v, .fa p87 7 q86, .ld p88 q87 tI, .mv p89 q0 .v, .P p90 (.nilck q89) .v, .fa p91 6 q90, .ld p92 q91 .v, .fa p93 3 q4, .ld p94 q93 .s, .L p95 (.look .str (kI 0) false q92 q94) tI, .bn p96 .sub q88 q95 tI, .P p97 (.nilck q85) .v, .fa p98 7 q97, .st q98 q96])) (.sO [.mv p99 q7 .v, .P p100 (.nilck q99) .v, .fa p101 2 q100, .L p102 (.cells 7 q101) .v, .ss 7 q6 q102] (.s .ret)))))
def v47_1 : List Pos := [p0, p2, p4, p6, p7, p46, p47, p48]
def c47_1b : XC := (.sO [.bn p49 .lss q48 q47 .b] (.seq (.cond q49 .skip (.exit 0)) (.seq (.block 1 (.seq (.oX [.mv p50 q48 tI, .P p51 (.iaddr (.sl 3) q46 q48) .v, .L p52 (.cells 3 q51) .v, .al p9 (.new [(.str []), (kI 0), (kI 0)]), .mv p8 q50 tI, .ss 3 q9 q52]) (.ops true (XL.of [.mv p53 q7 .v, .fa p54 0 q9, .ld p55 q54 .s, .fa p56 1 q9, .ld p57 q56 tI, .mv p62 q2 .v, .mv p63 q8 tI, .P p64 (.iaddr (.sl 7) q62 q63) .v, .L p65 (.cells 7 q64) .v, .o ⟨(some p58), (.call (.fn 69) [q53, q55, q57, (ci 0)]), none, [⟨none, .cells 7 q64, p65⟩]⟩ .v, .P p59 (.nilck q58) .v, .fa p60 0 q59, .ld p61 q60 .v, .P p66 (.iaddr (.sl 7) q61 (ci 0)) .v, .ss 7 q66 q65])))) (.s (.oX [.bn p67 .add q48 (ci 1) tI, .mv p48 q67 tI])))))
def c47_e : XC := (.sO [.al p4 (.box q1), .al p6 (.new [(kI 0), (.int .u32 (.ofNat 0)), (.int .u64 (.ofNat 0)), (.str []), (kI 0), .nilp, (kI 0)])] (.sO [.mv p12 q0 .v, .al p13 (.mkmap), .fa p14 4 q4, .ld p15 q14 tI, .cl p16 68 [q15] .v, .P p17 (.build [.nilp, .nilm, (kI 0), (.int .u32 (.ofNat 0)), (.int .u64 (.ofNat 0)), (.str []), (kI 0), .nilp, (kI 0)] [⟨0, 1, q12⟩, ⟨1, 1, q13⟩, ⟨2, 7, q16⟩]) .v, .al p18 (.box q17), .mv p7 q18 .v] (.seq (.ops true (XL.of [.mv p19 q0 .v, .P p20 (.nilck q19) .v, .fa p21 7 q20, .ld p22 q21 tI, .mv p23 q0 .v, .P p24 (.nilck q23) .v, .fa p25 6 q24, .ld p26 q25 .v, .fa p27 3 q4, .ld p28 q27 .s, .L p29 (.look .str (kI 0) false q26 q28) tI, .bn p30 .add q22 q29 tI, .P p31 (.nilck q19) .v, .fa p32 7 q31, .st q32 q30])) (.seq (.ops true (XL.of [.mv p33 q0 .v, .mv p34 q0 .v, .P p35 (.nilck q34) .v, .fa p36 8 q35, .ld p37 q36 tI, .mv p38 q0 .v, .P p39 (.nilck q38) .v, .fa p40 7 q39, .ld p41 q40 tI, .P p42 (.mm true [q37, q41]) tI, .P p43 (.nilck q33) .v, .fa p44 8 q43, .st q44 q42])) (.sj v47_0 (.sO [.fa p45 8 q4, .ld p46 q45 .v, .P p47 (.lenl q46) tI, .mv p48 (ci 0) tI] (.block 0 (.loop v47_1 c47_1b))) c47_0)))))
def x47 : XFn := ⟨[.v, .v, .v], false, [(.cells 7 p6)], c47_e⟩
def e47_0 (k t0 t4 t6 t7 h) := kN k [(p0, t0), (p4, t4), (p6, t6), (p7, t7)] h
def S47_0 (D : CallD) (m : Nat) (t0 t4 t6 t7 : AV) (h : HP) : Res2 :=
 faC 9 t4 fun t69 =>
 faC 2 t69 fun t70 =>
 cellC t70 h fun t71 =>
 cal D 70 [t7, t71] h fun t72 h10 =>
 asI .i64 t72 fun t72a =>
 nilckC t7 fun t74 =>
 faC 1 t74 fun t75 =>
 cellC t75 h10 fun t76 =>
 eff (.rangem (.c t76)) h10 fun t77 h11 =>
 obQ (rstoreH t77 1 (.bool true) .no h11) fun h12 =>
 nilckC t0 fun t86 =>
 faC 7 t86 fun t87 =>
 ldI t87 h12 fun t88 =>
 nilckC t0 fun t90 =>
 faC 6 t90 fun t91 =>
 cellC t91 h12 fun t92 =>
 faC 3 t4 fun t93 =>
 ldS t93 h12 fun t94 =>
 obI .i64 (evL (.look .str (kI 0) false (.c t92) (.c (vS t94))) .leaf h12) fun t95 =>
 let t96 := wrQ .i64 (t88 - t95)
 nilckC t0 fun t97 =>
 faC 7 t97 fun t98 =>
 stoC t98 (vI t96) h12 fun h13 =>
 nilckC t7 fun t100 =>
 faC 2 t100 fun t101 =>
 cellsC 7 t101 h13 fun t102 =>
 stsC 7 t6 t102 h13 fun h14 =>
 cellsC 7 t6 h14 fun t6a =>
 some (.ret t6a h14, .no)
def e47_1 (k t0 t2 t4 t6 t7 t46 t47 t48 h) := kN k [(p0, t0), (p2, t2), (p4, t4), (p6, t6), (p7, t7), (p46, t46), (p47, (vI t47)), (p48, (vI t48))] h
def S47_1b (D : CallD) (m : Nat) (g1 : AV → AV → AV → AV → AV → AV → Int → Int → HP → Res2) (t0 t2 t4 t6 t7 t46 : AV) (t47 t48 : Int) (h : HP) : Res2 :=
 let t49 := ltQ t48 t47
 br t49 (
 iasC 3 t46 (vI t48) fun t51 =>
 cellsC 3 t51 h fun t52 =>
 let t9 := P0 h
 let h15 := nQ h [(.str []), (kI 0), (kI 0)]
 stsC 3 t9 t52 h15 fun h16 =>
 let t54 := (AV.ptr (HP.nxQ h) (Nat.add 0 0))
 ldS t54 h16 fun t55 =>
 let t56 := (AV.ptr (HP.nxQ h) (Nat.add 0 1))
 ldI t56 h16 fun t57 =>
 iasC 7 t2 (vI t48) fun t64 =>
 cellsC 7 t64 h16 fun t65 =>
 cal D 69 [t7, (vS t55), (vI t57), (kI 0)] h16 fun t58 h17 =>
 br (again [⟨none, .cells 7 q64, p65⟩] (mkT [(p65, t65), (p64, t64)]) h17) (
 nilckC t58 fun t59 =>
 faC 0 t59 fun t60 =>
 cellC t60 h17 fun t61 =>
 iasC 7 t61 (kI 0) fun t66 =>
 stsC 7 t66 t65 h17 fun h18 =>
 let t67 := wrQ .i64 (addQ t48 (Int.ofNat 1))
 g1 t0 t2 t4 t6 t7 t46 t47 t67 h18) none) (
 S47_0 D m t0 t4 t6 t7 h)
def S47_1 (D : CallD) (m : Nat) : AV → AV → AV → AV → AV → AV → Int → Int → HP → Res2 := nrec (fun _ _ _ _ _ _ _ _ _ => none) (fun _ g => S47_1b D m g) m
def e47_2 (k t0 t1 t2 h) := kN k [(p0, t0), (p1, t1), (p2, t2)] h
def S47_2 (D : CallD) (m : Nat) (t0 t1 t2 : AV) (h : HP) : Res2 :=
 let t4 := P0 h
 let h3 := HP.newQ h (.cells true (AV.cells t1))
 let t6 := P0 h3
 let h4 := nQ h3 [(kI 0), (.int .u32 (.ofNat 0)), (.int .u64 (.ofNat 0)), (.str []), (kI 0), .nilp, (kI 0)]
 let t13 := AV.map (HP.nxQ h4)
 let h5 := HP.newQ h4 (.map [] 0)
 let t14 := (AV.ptr (HP.nxQ h) (Nat.add 0 4))
 ldI t14 h5 fun t15 =>
 cal D 68 [(vI t15)] h5 fun t16 h6 =>
 obQ (evP (.build [.nilp, .nilm, (kI 0), (.int .u32 (.ofNat 0)), (.int .u64 (.ofNat 0)), (.str []), (kI 0), .nilp, (kI 0)] [⟨0, 1, (.c t0)⟩, ⟨1, 1, (.c t13)⟩, ⟨2, 7, (.c t16)⟩]) .leaf) fun t17 =>
 let t18 := P0 h6
 let h7 := HP.newQ h6 (.cells true (AV.cells t17))
 nilckC t0 fun t20 =>
 faC 7 t20 fun t21 =>
 ldI t21 h7 fun t22 =>
 nilckC t0 fun t24 =>
 faC 6 t24 fun t25 =>
 cellC t25 h7 fun t26 =>
 let t27 := (AV.ptr (HP.nxQ h) (Nat.add 0 3))
 ldS t27 h7 fun t28 =>
 obI .i64 (evL (.look .str (kI 0) false (.c t26) (.c (vS t28))) .leaf h7) fun t29 =>
 let t30 := wrQ .i64 (addQ t22 t29)
 nilckC t0 fun t31 =>
 faC 7 t31 fun t32 =>
 stoC t32 (vI t30) h7 fun h8 =>
 nilckC t0 fun t35 =>
 faC 8 t35 fun t36 =>
 ldI t36 h8 fun t37 =>
 nilckC t0 fun t39 =>
 faC 7 t39 fun t40 =>
 ldI t40 h8 fun t41 =>
 let t42 := mmI true t37 t41
 nilckC t0 fun t43 =>
 faC 8 t43 fun t44 =>
 stoC t44 (vI t42) h8 fun h9 =>
 let t45 := (AV.ptr (HP.nxQ h) (Nat.add 0 8))
 cellC t45 h9 fun t46 =>
 lenC t46 fun vt47 => asI .i64 vt47 fun t47 =>
 S47_1 D m t0 t2 t4 t6 t18 t46 t47 (Int.ofNat 0) h9
def S47 : SFn := fun D m args h u => nou u <| popV args fun t0 args => popV args fun t1 args => popV args fun t2 args => endA args (S47_2 D m t0 t1 t2 h)
theorem T47_0 (hE : FX x47 D m E) : S47_0 D m = e47_0 (E c47_0 []) := by unfold S47_0; rw [hE c47_0]; kernel_rfl
theorem T47_1b (hE : FX x47 D m E) (G1) : S47_1b D m (e47_1 G1) = e47_1 (E c47_1b [.lp v47_1 G1, .blk 0, .sj v47_0 c47_0]) := by unfold S47_1b; rw [T47_0 hE, hE c47_1b]; kernel_rfl
theorem T47_1 (hE : FX x47 D m E) : S47_1 D m = e47_1 (nrec (fun _ => none) (fun _ G1 st => E c47_1b [.lp v47_1 G1, .blk 0, .sj v47_0 c47_0] st) m) :=
  nrec_emb e47_1 (fun _ _ _ _ _ _ _ _ _ => none) (fun g => S47_1b D m g) (fun G1 st => E c47_1b [.lp v47_1 G1, .blk 0, .sj v47_0 c47_0] st) rfl (fun g => T47_1b hE g) m
theorem T47_2 (hE : FX x47 D m E) : S47_2 D m = e47_2 (E c47_e []) := by unfold S47_2; rw [T47_1 hE, hE c47_e]; kernel_rfl
theorem X47 : XTie S47 x47 := X_of fun D m E hE args h u => by unfold S47; rw [T47_2 hE]; kernel_rfl
/- 49 -/
def v49_0 : List Pos := [p0, p5, p6]
def c49_0b : XC := (.block 1 (.sO [.mv p7 (cb true) .b] (.sO [.mv p14 q0 .s, .mv p15 q6 tI, .cl p16 71 [q14, q15] .v, .mv p13 q16 .v, .P p17 (.ext q13 0) tI, .P p18 (.ext q13 1) .b, .mv p6 q17 tI, .mv p7 q18 .b] (.seq (.seq (.oX [.mv p19 q7 .b, .P p20 (.un .not q19) .b]) (.cond q20 (.seq (.oX [.mv p21 q6 tI, .mv p2 (.c .nils) .v, .mv p3 q21 tI, .mv p4 (ci 10) tI]) .ret) .skip)) (.seq (.seq (.oX [.mv p22 q6 tI, .mv p23 q0 .s, .P p24 (.lens q23) tI, .bn p25 .eql q22 q24 .b]) (.cond q25 (.seq (.oX [.mv p26 q5 .v, .mv p27 q6 tI, .P p28 (.build [(kI 0), (.str []), (kI 0)] [⟨2, 1, q27⟩]) .v, .al p29 (.bsl [(kI 0), (.str []), (kI 0)] 1 [⟨0, 3, q28⟩]), .o ⟨(some p30), (.e (.app 3 32 q26 q29)), none, []⟩ .v, .mv p2 q30 .v, .mv p3 (ci 0) tI, .mv p4 (ci 0) tI]) .ret) .skip)) (.sO [.mv p32 q0 .s, .mv p33 q6 tI, .cl p34 72 [q32, q33] .v, .mv p31 q34 .v, .P p35 (.ext q31 0) .v, .P p36 (.ext q31 1) tI, .al p8 (.new [(kI 0), (.str []), (kI 0)]), .ss 3 q8 q35, .mv p9 q36 tI] (.seq (.seq (.oX [.mv p37 q9 tI, .bn p38 .eql q37 (ci 0) .b]) (.cond q38 (.seq (.oX [.mv p39 q6 tI, .mv p2 (.c .nils) .v, .mv p3 q39 tI, .mv p4 (ci 10) tI]) .ret) .skip)) (.seq (.seq (.oX [.mv p40 q5 .v, .P p41 (.lenl q40) tI, .bn p42 .geq q41 (ci 2500) .b]) (.cond q42 (.seq (.oX [.mv p43 q6 tI, .mv p2 (.c .nils) .v, .mv p3 q43 tI, .mv p4 (ci 5) tI]) .ret) .skip)) (.sO [.mv p44 q5 .v, .L p45 (.cells 3 q8) .v, .al p46 (.bsl [(kI 0), (.str []), (kI 0)] 1 [⟨0, 3, q45⟩]), .o ⟨(some p47), (.e (.app 3 32 q44 q46)), none, []⟩ .v, .mv p5 q47 .v] (.s (.oX [.mv p48 q9 tI, .mv p6 q48 tI])))))))))))
def c49_e : XC := (.sO [.mv p2 (.c .nils) .v, .mv p3 (ci 0) tI, .mv p4 (ci 0) tI] (.seq (.seq (.oX [.mv p10 q0 .s, .P p11 (.lens q10) tI, .bn p12 .gtr q11 (ci 8192) .b]) (.cond q12 (.seq (.oX [.mv p2 (.c .nils) .v, .mv p3 (ci 0) tI, .mv p4 (ci 6) tI]) .ret) .skip)) (.sO [.mv p5 (.c .nils) .v] (.sO [.mv p6 (ci 0) tI] (.block 0 (.loop v49_0 c49_0b))))))
def x49 : XFn := ⟨[.s], false, [(.tmp p2), (.tmp p3), (.tmp p4)], c49_e⟩
def e49_0 (k t0 t5 t6 h) := kN k [(p0, (vS t0)), (p5, t5), (p6, (vI t6))] h
def S49_0b (D : CallD) (m : Nat) (g0 : LN → AV → Int → HP → Res2) (t0 : LN) (t5 : AV) (t6 : Int) (h : HP) : Res2 :=
 cal D 71 [(vS t0), (vI t6)] h fun t16 h2 =>
 extC t16 0 fun vt17 => asI .i64 vt17 fun t17 =>
 extC t16 1 fun vt18 => asB vt18 fun t18 =>
 let t20 := !t18
 br t20 (
 some (.ret (.tup [(.nils : AV), (vI t17), (kI 10)]) h2, .no)) (
 let t24 := Int.ofNat (lenL t0)
 let t25 := eqQ t17 t24
 br t25 (
 let t28 := (AV.agg [(kI 0), (vS ([] : LN)), (vI t17)])
 let t29 := AV.slice (HP.nxQ h2) 0 1 (.exact 1)
 let h3 := nQ h2 [(kI 0), (vS ([] : LN)), (vI t17)]
 eff (.app 3 32 (.c t5) (.c t29)) h3 fun t30 h4 =>
 some (.ret (.tup [t30, (kI 0), (kI 0)]) h4, .no)) (
 cal D 72 [(vS t0), (vI t17)] h2 fun t34 h5 =>
 extC t34 0 fun t35 =>
 extC t34 1 fun vt36 => asI .i64 vt36 fun t36 =>
 let t8 := P0 h5
 let h6 := nQ h5 [(kI 0), (.str []), (kI 0)]
 stsC 3 t8 t35 h6 fun h7 =>
 let t38 := eqQ t36 (Int.ofNat 0)
 br t38 (
 some (.ret (.tup [(.nils : AV), (vI t17), (kI 10)]) h7, .no)) (
 lenC t5 fun vt41 => asI .i64 vt41 fun t41 =>
 let t42 := leQ (Int.ofNat 2500) t41
 br t42 (
 some (.ret (.tup [(.nils : AV), (vI t17), (kI 5)]) h7, .no)) (
 cellsC 3 t8 h7 fun t45 =>
 obQ (evA (.bsl [(kI 0), (.str []), (kI 0)] 1 [⟨0, 3, (.c t45)⟩]) .leaf) fun r8 =>
 let t46 := vkV r8.2 (HP.nxQ h7)
 let h9 := HP.newQ h7 r8.1
 eff (.app 3 32 (.c t5) (.c t46)) h9 fun t47 h10 =>
 g0 t0 t47 t36 h10))))
def S49_0 (D : CallD) (m : Nat) : LN → AV → Int → HP → Res2 := nrec (fun _ _ _ _ => none) (fun _ g => S49_0b D m g) m
def e49_1 (k t0 h) := kN k [(p0, (vS t0))] h
def S49_1 (D : CallD) (m : Nat) (t0 : LN) (h : HP) : Res2 :=
 let t11 := Int.ofNat (lenL t0)
 let t12 := ltQ (Int.ofNat 8192) t11
 br t12 (
 some (.ret (.tup [(.nils : AV), (kI 0), (kI 6)]) h, .no)) (
 S49_0 D m t0 (.nils : AV) (Int.ofNat 0) h)
def S49 : SFn := fun D m args h u => nou u <| popS args fun t0 args => endA args (S49_1 D m t0 h)
theorem T49_0b (hE : FX x49 D m E) (G0) : S49_0b D m (e49_0 G0) = e49_0 (E c49_0b [.lp v49_0 G0, .blk 0]) := by unfold S49_0b; rw [hE c49_0b]; kernel_rfl
theorem T49_0 (hE : FX x49 D m E) : S49_0 D m = e49_0 (nrec (fun _ => none) (fun _ G0 st => E c49_0b [.lp v49_0 G0, .blk 0] st) m) :=
  nrec_emb e49_0 (fun _ _ _ _ => none) (fun g => S49_0b D m g) (fun G0 st => E c49_0b [.lp v49_0 G0, .blk 0] st) rfl (fun g => T49_0b hE g) m
theorem T49_1 (hE : FX x49 D m E) : S49_1 D m = e49_1 (E c49_e []) := by unfold S49_1; rw [T49_0 hE, hE c49_e]; kernel_rfl
theorem X49 : XTie S49 x49 := X_of fun D m E hE args h u => by unfold S49; rw [T49_1 hE]; kernel_rfl
/- 50 -/
def c50_e : XC := (.sO [.al p1 (.box q0), .al p2 (.new [(kI 0), (.str []), (kI 0)])] (.sO [.fa p3 0 q1, .ld p4 q3 .v, .fa p5 1 q1, .ld p6 q5 tI, .P p7 (.iaddr (.sl 3) q4 q6) .v, .L p8 (.cells 3 q7) .v, .ss 3 q2 q8] (.s .ret)))
def x50 : XFn := ⟨[.v], false, [(.cells 3 p2)], c50_e⟩
def e50_0 (k t0 h) := kN k [(p0, t0)] h
def S50_0 (D : CallD) (m : Nat) (t0 : AV) (h : HP) : Res2 :=
 let t1 := P0 h
 let h1 := HP.newQ h (.cells true (AV.cells t0))
 let t2 := P0 h1
 let h2 := nQ h1 [(kI 0), (.str []), (kI 0)]
 let t3 := (AV.ptr (HP.nxQ h) (Nat.add 0 0))
 cellC t3 h2 fun t4 =>
 let t5 := (AV.ptr (HP.nxQ h) (Nat.add 0 1))
 ldI t5 h2 fun t6 =>
 iasC 3 t4 (vI t6) fun t7 =>
 cellsC 3 t7 h2 fun t8 =>
 stsC 3 t2 t8 h2 fun h3 =>
 cellsC 3 t2 h3 fun t2a =>
 some (.ret t2a h3, .no)
def S50 : SFn := fun D m args h u => nou u <| popV args fun t0 args => endA args (S50_0 D m t0 h)
theorem T50_0 (hE : FX x50 D m E) : S50_0 D m = e50_0 (E c50_e []) := by unfold S50_0; rw [hE c50_e]; kernel_rfl
theorem X50 : XTie S50 x50 := X_of fun D m E hE args h u => by unfold S50; rw [T50_0 hE]; kernel_rfl
/- 51 -/
def v51_1 : List Pos := [p1, p2, p3, p4]
def c51_1 : XC := (.seq (.ops true (XL.of [.L p109 (.cells 5 q1) .v, .L p111 (.cells 17 q4) .v, .o ⟨(some p110), (.call (.fn 79) [q109, (.c (.str [59]))]), none, [⟨none, .cells 17 q4, p111⟩]⟩ .v, .o ⟨none, (.e (.stores 5 q2 q110)), none, [⟨none, .cells 17 q4, p111⟩]⟩ .v, .ss 17 q3 q111])) (.s .ret))
def v51_3 : List Pos := [p1, p2, p3, p4]
def c51_3 : XC := (.sO [.fa p104 5 q4, .ld p105 q104 tI, .bn p106 .gtr q105 (ci 0) .b] (.cond q106 (.s (.oX [.L p107 (.cells 5 q1) .v, .cl p108 79 [q107, (.c (.str [125]))] .v, .ss 5 q1 q108])) (.s .skip)))
def c51_6 : XC := (.sO [.mv p101 q5 .b] (.cond q101 (.s (.oX [.L p102 (.cells 5 q1) .v, .cl p103 74 [q102] .v, .ss 5 q1 q103])) (.s .skip)))
def l51_5 : XL := (XL.of [.mv p5 q100 .b])
def v51_4 : List Pos := [p1, p2, p3, p4, p5]
def c51_4b : XC := (.seq (.seq (.oX [.mv p76 q5 .b, .mv p77 q76 .b, .ge p77 (XL.of [.G p77 true p78 (.faddr 3 q1) .v, .o ⟨(some p79), (.l (.cell q78)), (some (p77, true)), []⟩ tI, .G p77 true p80 (.bin .eql q79 (ci 0)) .b, .P p81 (.pick q77 q80 (cb false)) .b]) p81 .b]) (.cond q81 .skip (.exit 0))) (.block 1 (.sO [.P p82 (.build [(kI 0), (.str []), (.str []), (.int .u32 (.ofNat 0)), (.int .u64 (.ofNat 0)), .nils, (kI 0), (kI 0)] []) .v, .al p6 (.new [(kI 0), (.str []), (.str []), (.int .u32 (.ofNat 0)), (.int .u64 (.ofNat 0)), .nils, (kI 0), (kI 0)]), .ss 8 q6 q82] (.sO [.L p84 (.cells 5 q1) .v, .cl p85 81 [q84] .v, .mv p83 q85 .v, .P p86 (.ext q83 0) .v, .P p87 (.ext q83 1) .v, .ss 5 q1 q86, .ss 8 q6 q87] (.sO [.fa p88 6 q4, .ld p89 q88 .v, .L p90 (.cells 8 q6) .v, .al p91 (.bsl [(kI 0), (.str []), (.str []), (.int .u32 (.ofNat 0)), (.int .u64 (.ofNat 0)), .nils, (kI 0), (kI 0)] 1 [⟨0, 8, q90⟩]), .o ⟨(some p92), (.e (.app 8 96 q89 q91)), none, []⟩ .v, .fa p93 6 q4, .st q93 q92] (.opq false (XL.pre [.fa p94 5 q4, .ld p95 q94 tI, .bn p96 .gtr q95 (ci 0) .b, .mv p97 q96 .b, .sp p97, .o ⟨(some p98), (.l (.cells 5 q1)), (some (p97, true)), []⟩ .v, .o ⟨(some p99), (.call (.fn 73) [q98, (.c (.str [44]))]), (some (p97, true)), []⟩ .b, .P p100 (.pick q97 q99 (cb false)) .b, .jn p97 [p1, p2, p3, p4, p100]] l51_5) c51_6))))))
def v51_2 : List Pos := [p1, p2, p3, p4]
def c51_2 : XC := (.sj v51_3 (.sO [.mv p5 (cb true) .b] (.block 0 (.loop v51_4 c51_4b))) c51_3)
def v51_0 : List Pos := [p1, p2, p3, p4]
def c51_0 : XC := (.sO [.L p20 (.cells 5 q1) .v, .cl p21 50 [q20] .v, .P p22 (.field 2 1 false q21) tI, .fa p23 16 q4, .st q23 q22] (.sO [.L p25 (.cells 5 q1) .v, .cl p26 75 [q25] .v, .mv p24 q26 .v, .P p27 (.ext q24 0) .v, .P p28 (.ext q24 1) tI, .ss 5 q1 q27, .fa p29 4 q4, .st q29 q28] (.sO [.L p31 (.cells 5 q1) .v, .cl p32 76 [q31, (ci 1)] .v, .mv p30 q32 .v, .P p33 (.ext q30 0) .v, .P p34 (.ext q30 1) .s, .ss 5 q1 q33, .fa p35 3 q4, .st q35 q34] (.seq (.seq (.oX [.L p36 (.cells 5 q1) .v, .cl p37 73 [q36, (.c (.str [40]))] .b]) (.cond q37 (.seq (.oX [.fa p38 0 q4, .st q38 (cb true)]) (.seq (.oX [.L p40 (.cells 5 q1) .v, .cl p41 74 [q40] .v, .cl p42 77 [q41] .v, .mv p39 q42 .v, .P p43 (.ext q39 0) .v, .P p44 (.ext q39 1) .v, .ss 5 q1 q43, .fa p45 8 q4, .st q45 q44]) (.seq (.seq (.oX [.L p46 (.cells 5 q1) .v, .cl p47 73 [q46, (.c (.str [123]))] .b]) (.cond q47 (.seq (.oX [.fa p48 7 q4, .st q48 (cb true)]) (.seq (.oX [.L p50 (.cells 5 q1) .v, .cl p51 78 [q50] .v, .mv p49 q51 .v, .P p52 (.ext q49 0) .v, .P p53 (.ext q49 1) .v, .ss 5 q1 q52, .fa p54 9 q4, .ss 7 q54 q53]) (.seq (.ops true (XL.of [.L p55 (.cells 5 q1) .v, .L p56 (.cells 17 q4) .v, .o ⟨none, (.e (.stores 5 q2 q55)), none, [⟨none, .cells 17 q4, p56⟩]⟩ .v, .ss 17 q3 q56])) .ret))) .skip)) (.seq (.ops true (XL.of [.L p57 (.cells 5 q1) .v, .L p59 (.cells 17 q4) .v, .o ⟨(some p58), (.call (.fn 79) [q57, (.c (.str [59]))]), none, [⟨none, .cells 17 q4, p59⟩]⟩ .v, .o ⟨none, (.e (.stores 5 q2 q58)), none, [⟨none, .cells 17 q4, p59⟩]⟩ .v, .ss 17 q3 q59])) .ret)))) .skip)) (.sO [.L p61 (.cells 5 q1) .v, .cl p62 80 [q61] .v, .mv p60 q62 .v, .P p63 (.ext q60 0) .v, .P p64 (.ext q60 1) tI, .ss 5 q1 q63, .fa p65 5 q4, .st q65 q64] (.sj v51_1 (.sO [.L p66 (.cells 5 q1) .v, .cl p67 73 [q66, (.c (.str [61]))] .b] (.cond q67 (.sO [.fa p68 7 q4, .st q68 (cb true)] (.sO [.L p69 (.cells 5 q1) .v, .cl p70 74 [q69] .v, .ss 5 q1 q70] (.sj v51_2 (.sO [.fa p71 5 q4, .ld p72 q71 tI, .bn p73 .gtr q72 (ci 0) .b] (.cond q73 (.s (.oX [.L p74 (.cells 5 q1) .v, .cl p75 79 [q74, (.c (.str [123]))] .v, .ss 5 q1 q75])) (.s .skip))) c51_2))) (.s .skip))) c51_1))))))
def c51_e : XC := (.sO [.al p1 (.box q0), .al p2 (.new [.nils, (kI 0), (kI 0), (kI 0), (kI 0)]), .al p3 (.new [(.bool false), (.bool false), (.bool false), (.str []), (kI 0), (kI 0), .nils, (.bool false), .nils, (kI 0), .nils, .nils, (.str []), (kI 0), (kI 0), (kI 0), (kI 0)])] (.seq (.ops true (XL.of [.L p7 (.cells 5 q1) .v, .L p9 (.cells 5 q1) .v, .al p4 (.new [(.bool false), (.bool false), (.bool false), (.str []), (kI 0), (kI 0), .nils, (.bool false), .nils, (kI 0), .nils, .nils, (.str []), (kI 0), (kI 0), (kI 0), (kI 0)]), .o ⟨(some p8), (.call (.fn 73) [q7, (.c (.str [115, 116, 97, 116, 105, 99]))]), none, [⟨none, .cells 5 q1, p9⟩]⟩ .b, .cl p10 73 [q9, (.c (.str [101, 120, 116, 101, 114, 110]))] .b, .P p11 (.build [(.bool false), (.bool false), (.bool false), (.str []), (kI 0), (kI 0), .nils, (.bool false), .nils, (kI 0), .nils, .nils, (.str []), (kI 0), (kI 0), (kI 0), (kI 0)] [⟨1, 1, q8⟩, ⟨2, 1, q10⟩]) .v, .ss 17 q4 q11])) (.sj v51_0 (.sO [.fa p12 1 q4, .ld p13 q12 .b, .mv p14 q13 .b, .ge p14 (XL.of [.G p14 false p15 (.faddr 2 q4) .v, .o ⟨(some p16), (.l (.cell q15)), (some (p14, false)), []⟩ .b, .P p17 (.pick q14 (cb true) q16) .b]) p17 .b] (.cond q17 (.s (.oX [.L p18 (.cells 5 q1) .v, .cl p19 74 [q18] .v, .ss 5 q1 q19])) (.s .skip))) c51_0)))
def x51 : XFn := ⟨[.v], false, [(.cells 5 p2), (.cells 17 p3)], c51_e⟩
def e51_1 (k t1 t2 t3 t4 h) := kN k [(p1, t1), (p2, t2), (p3, t3), (p4, t4)] h
def S51_1 (D : CallD) (m : Nat) (t1 t2 t3 t4 : AV) (h : HP) : Res2 :=
 cellsC 5 t1 h fun t109 =>
 cellsC 17 t4 h fun t111 =>
 cal D 79 [t109, (vS ([59] : LN))] h fun t110 h42 =>
 br (again [⟨none, .cells 17 q4, p111⟩] (mkT [(p111, t111), (p4, t4)]) h42) (
 stsC 5 t2 t110 h42 fun h43 =>
 br (againE (.stores 5 q2 q110) [⟨none, .cells 17 q4, p111⟩] (mkT [(p2, t2), (p111, t111), (p4, t4)]) h43) (
 stsC 17 t3 t111 h43 fun h44 =>
 cellsC 5 t2 h44 fun t2a =>
 cellsC 17 t3 h44 fun t3a =>
 some (.ret (.tup [t2a, t3a]) h44, .no)) none) none
def e51_3 (k t1 t2 t3 t4 h) := kN k [(p1, t1), (p2, t2), (p3, t3), (p4, t4)] h
def S51_3 (D : CallD) (m : Nat) (t1 t2 t3 t4 : AV) (h : HP) : Res2 :=
 faC 5 t4 fun t104 =>
 ldI t104 h fun t105 =>
 let t106 := ltQ (Int.ofNat 0) t105
 br t106 (
 cellsC 5 t1 h fun t107 =>
 cal D 79 [t107, (vS ([125] : LN))] h fun t108 h49 =>
 stsC 5 t1 t108 h49 fun h50 =>
 S51_1 D m t1 t2 t3 t4 h50) (
 S51_1 D m t1 t2 t3 t4 h)
def e51_5 (k t1 t2 t3 t4 t100 h) := kN k [(p1, t1), (p2, t2), (p3, t3), (p4, t4), (p100, (vB t100))] h
def S51_5 (D : CallD) (m : Nat) (g4 : AV → AV → AV → AV → Bool → HP → Res2) (t1 t2 t3 t4 : AV) (t100 : Bool) (h : HP) : Res2 :=
 br t100 (
 cellsC 5 t1 h fun t102 =>
 cal D 74 [t102] h fun t103 h61 =>
 stsC 5 t1 t103 h61 fun h62 =>
 g4 t1 t2 t3 t4 t100 h62) (
 g4 t1 t2 t3 t4 t100 h)
def e51_4 (k t1 t2 t3 t4 t5 h) := kN k [(p1, t1), (p2, t2), (p3, t3), (p4, t4), (p5, (vB t5))] h
def S51_4b (D : CallD) (m : Nat) (g4 : AV → AV → AV → AV → Bool → HP → Res2) (t1 t2 t3 t4 : AV) (t5 : Bool) (h : HP) : Res2 :=
 obB (brV t5 (
 faCV 3 t1 fun t78 =>
 ldIV t78 h fun t79 =>
 let t80 := eqQ t79 (Int.ofNat 0)
 some (vB t80)) (
 some (vB false))) fun t81 =>
 br t81 (
 let t82 := (AV.agg [(kI 0), (vS ([] : LN)), (vS ([] : LN)), (vW (Int.ofNat 0)), (AV.int .u64 (Int.ofNat 0)), (.nils : AV), (kI 0), (kI 0)])
 let t6 := P0 h
 let h51 := nQ h [(kI 0), (.str []), (.str []), (.int .u32 (.ofNat 0)), (.int .u64 (.ofNat 0)), .nils, (kI 0), (kI 0)]
 stsC 8 t6 t82 h51 fun h52 =>
 cellsC 5 t1 h52 fun t84 =>
 cal D 81 [t84] h52 fun t85 h53 =>
 extC t85 0 fun t86 =>
 extC t85 1 fun t87 =>
 stsC 5 t1 t86 h53 fun h54 =>
 stsC 8 t6 t87 h54 fun h55 =>
 faC 6 t4 fun t88 =>
 cellC t88 h55 fun t89 =>
 cellsC 8 t6 h55 fun t90 =>
 obQ (evA (.bsl [(kI 0), (.str []), (.str []), (.int .u32 (.ofNat 0)), (.int .u64 (.ofNat 0)), .nils, (kI 0), (kI 0)] 1 [⟨0, 8, (.c t90)⟩]) .leaf) fun r56 =>
 let t91 := vkV r56.2 (HP.nxQ h55)
 let h57 := HP.newQ h55 r56.1
 eff (.app 8 96 (.c t89) (.c t91)) h57 fun t92 h58 =>
 faC 6 t4 fun t93 =>
 stoC t93 t92 h58 fun h59 =>
 faC 5 t4 fun t94 =>
 ldI t94 h59 fun t95 =>
 let t96 := ltQ (Int.ofNat 0) t95
 br t96 (
 cellsC 5 t1 h59 fun t98 =>
 cal D 73 [t98, (vS ([44] : LN))] h59 fun t99 h60 =>
 asB t99 fun t99a =>
 S51_5 D m g4 t1 t2 t3 t4 t99a h60) (
 S51_5 D m g4 t1 t2 t3 t4 false h59)) (
 S51_3 D m t1 t2 t3 t4 h)
def S51_4 (D : CallD) (m : Nat) : AV → AV → AV → AV → Bool → HP → Res2 := nrec (fun _ _ _ _ _ _ => none) (fun _ g => S51_4b D m g) m
def e51_2 (k t1 t2 t3 t4 h) := kN k [(p1, t1), (p2, t2), (p3, t3), (p4, t4)] h
def S51_2 (D : CallD) (m : Nat) (t1 t2 t3 t4 : AV) (h : HP) : Res2 :=
 S51_4 D m t1 t2 t3 t4 true h
def e51_0 (k t1 t2 t3 t4 h) := kN k [(p1, t1), (p2, t2), (p3, t3), (p4, t4)] h
def S51_0 (D : CallD) (m : Nat) (t1 t2 t3 t4 : AV) (h : HP) : Res2 :=
 cellsC 5 t1 h fun t20 =>
 cal D 50 [t20] h fun t21 h15 =>
 fldC 2 1 false t21 fun vt22 => asI .i64 vt22 fun t22 =>
 faC 16 t4 fun t23 =>
 stoC t23 (vI t22) h15 fun h16 =>
 cellsC 5 t1 h16 fun t25 =>
 cal D 75 [t25] h16 fun t26 h17 =>
 extC t26 0 fun t27 =>
 extC t26 1 fun vt28 => asI .i64 vt28 fun t28 =>
 stsC 5 t1 t27 h17 fun h18 =>
 faC 4 t4 fun t29 =>
 stoC t29 (vI t28) h18 fun h19 =>
 cellsC 5 t1 h19 fun t31 =>
 cal D 76 [t31, (kI 1)] h19 fun t32 h20 =>
 extC t32 0 fun t33 =>
 extC t32 1 fun vt34 => asS vt34 fun t34 =>
 stsC 5 t1 t33 h20 fun h21 =>
 faC 3 t4 fun t35 =>
 stoC t35 (vS t34) h21 fun h22 =>
 cellsC 5 t1 h22 fun t36 =>
 cal D 73 [t36, (vS ([40] : LN))] h22 fun t37 h23 =>
 asB t37 fun t37a =>
 br t37a (
 faC 0 t4 fun t38 =>
 stoC t38 (vB true) h23 fun h24 =>
 cellsC 5 t1 h24 fun t40 =>
 cal D 74 [t40] h24 fun t41 h25 =>
 cal D 77 [t41] h25 fun t42 h26 =>
 extC t42 0 fun t43 =>
 extC t42 1 fun t44 =>
 stsC 5 t1 t43 h26 fun h27 =>
 faC 8 t4 fun t45 =>
 stoC t45 t44 h27 fun h28 =>
 cellsC 5 t1 h28 fun t46 =>
 cal D 73 [t46, (vS ([123] : LN))] h28 fun t47 h29 =>
 asB t47 fun t47a =>
 br t47a (
 faC 7 t4 fun t48 =>
 stoC t48 (vB true) h29 fun h30 =>
 cellsC 5 t1 h30 fun t50 =>
 cal D 78 [t50] h30 fun t51 h31 =>
 extC t51 0 fun t52 =>
 extC t51 1 fun t53 =>
 stsC 5 t1 t52 h31 fun h32 =>
 faC 9 t4 fun t54 =>
 stsC 7 t54 t53 h32 fun h33 =>
 cellsC 5 t1 h33 fun t55 =>
 cellsC 17 t4 h33 fun t56 =>
 stsC 5 t2 t55 h33 fun h34 =>
 br (againE (.stores 5 q2 q55) [⟨none, .cells 17 q4, p56⟩] (mkT [(p2, t2), (p56, t56), (p4, t4)]) h34) (
 stsC 17 t3 t56 h34 fun h35 =>
 cellsC 5 t2 h35 fun t2a =>
 cellsC 17 t3 h35 fun t3a =>
 some (.ret (.tup [t2a, t3a]) h35, .no)) none) (
 cellsC 5 t1 h29 fun t57 =>
 cellsC 17 t4 h29 fun t59 =>
 cal D 79 [t57, (vS ([59] : LN))] h29 fun t58 h36 =>
 br (again [⟨none, .cells 17 q4, p59⟩] (mkT [(p59, t59), (p4, t4)]) h36) (
 stsC 5 t2 t58 h36 fun h37 =>
 br (againE (.stores 5 q2 q58) [⟨none, .cells 17 q4, p59⟩] (mkT [(p2, t2), (p59, t59), (p4, t4)]) h37) (
 stsC 17 t3 t59 h37 fun h38 =>
 cellsC 5 t2 h38 fun t2a =>
 cellsC 17 t3 h38 fun t3a =>
 some (.ret (.tup [t2a, t3a]) h38, .no)) none) none)) (
 cellsC 5 t1 h23 fun t61 =>
 cal D 80 [t61] h23 fun t62 h39 =>
 extC t62 0 fun t63 =>
 extC t62 1 fun vt64 => asI .i64 vt64 fun t64 =>
 stsC 5 t1 t63 h39 fun h40 =>
 faC 5 t4 fun t65 =>
 stoC t65 (vI t64) h40 fun h41 =>
 cellsC 5 t1 h41 fun t66 =>
 cal D 73 [t66, (vS ([61] : LN))] h41 fun t67 h45 =>
 asB t67 fun t67a =>
 br t67a (
 faC 7 t4 fun t68 =>
 stoC t68 (vB true) h45 fun h46 =>
 cellsC 5 t1 h46 fun t69 =>
 cal D 74 [t69] h46 fun t70 h47 =>
 stsC 5 t1 t70 h47 fun h48 =>
 faC 5 t4 fun t71 =>
 ldI t71 h48 fun t72 =>
 let t73 := ltQ (Int.ofNat 0) t72
 br t73 (
 cellsC 5 t1 h48 fun t74 =>
 cal D 79 [t74, (vS ([123] : LN))] h48 fun t75 h63 =>
 stsC 5 t1 t75 h63 fun h64 =>
 S51_2 D m t1 t2 t3 t4 h64) (
 S51_2 D m t1 t2 t3 t4 h48)) (
 S51_1 D m t1 t2 t3 t4 h45))
def e51_7 (k t0 h) := kN k [(p0, t0)] h
def S51_7 (D : CallD) (m : Nat) (t0 : AV) (h : HP) : Res2 :=
 let t1 := P0 h
 let h8 := HP.newQ h (.cells true (AV.cells t0))
 let t2 := P0 h8
 let h9 := nQ h8 [.nils, (kI 0), (kI 0), (kI 0), (kI 0)]
 let t3 := P0 h9
 let h10 := nQ h9 [(.bool false), (.bool false), (.bool false), (.str []), (kI 0), (kI 0), .nils, (.bool false), .nils, (kI 0), .nils, .nils, (.str []), (kI 0), (kI 0), (kI 0), (kI 0)]
 cellsC 5 t1 h10 fun t7 =>
 cellsC 5 t1 h10 fun t9 =>
 let t4 := P0 h10
 let h11 := nQ h10 [(.bool false), (.bool false), (.bool false), (.str []), (kI 0), (kI 0), .nils, (.bool false), .nils, (kI 0), .nils, .nils, (.str []), (kI 0), (kI 0), (kI 0), (kI 0)]
 cal D 73 [t7, (vS ([115, 116, 97, 116, 105, 99] : LN))] h11 fun t8 h12 =>
 br (again [⟨none, .cells 5 q1, p9⟩] (mkT [(p9, t9), (p1, t1)]) h12) (
 asB t8 fun t8a =>
 cal D 73 [t9, (vS ([101, 120, 116, 101, 114, 110] : LN))] h12 fun t10 h13 =>
 asB t10 fun t10a =>
 let t11 := (AV.agg [(vB false), (vB t8a), (vB t10a), (vS ([] : LN)), (kI 0), (kI 0), (.nils : AV), (vB false), (.nils : AV), (kI 0), (.nils : AV), (.nils : AV), (vS ([] : LN)), (kI 0), (kI 0), (kI 0), (kI 0)])
 stsC 17 t4 t11 h13 fun h14 =>
 let t12 := (AV.ptr (HP.nxQ h10) (Nat.add 0 1))
 ldB t12 h14 fun t13 =>
 obB (brV t13 (
 some (vB true)) (
 let t15 := (AV.ptr (HP.nxQ h10) (Nat.add 0 2))
 ldBV t15 h14 fun t16 =>
 some (vB t16))) fun t17 =>
 br t17 (
 cellsC 5 t1 h14 fun t18 =>
 cal D 74 [t18] h14 fun t19 h65 =>
 stsC 5 t1 t19 h65 fun h66 =>
 S51_0 D m t1 t2 t3 t4 h66) (
 S51_0 D m t1 t2 t3 t4 h14)) none
def S51 : SFn := fun D m args h u => nou u <| popV args fun t0 args => endA args (S51_7 D m t0 h)
theorem T51_1 (hE : FX x51 D m E) : S51_1 D m = e51_1 (E c51_1 []) := by unfold S51_1; rw [hE c51_1]; kernel_rfl
theorem T51_3 (hE : FX x51 D m E) : S51_3 D m = e51_3 (E c51_3 [.sj v51_1 c51_1]) := by unfold S51_3; rw [T51_1 hE, hE c51_3]; kernel_rfl
theorem T51_5 (hE : FX x51 D m E) (G4) : S51_5 D m (e51_4 G4) = e51_5 (E (.opq false l51_5 c51_6) [.blk 1, .lp v51_4 G4, .blk 0, .sj v51_3 c51_3, .sj v51_1 c51_1]) := by unfold S51_5; rw [hE (.opq false l51_5 c51_6)]; kernel_rfl
theorem T51_4b (hE : FX x51 D m E) (G4) : S51_4b D m (e51_4 G4) = e51_4 (E c51_4b [.lp v51_4 G4, .blk 0, .sj v51_3 c51_3, .sj v51_1 c51_1]) := by unfold S51_4b; rw [T51_5 hE G4, T51_3 hE, hE c51_4b]; kernel_rfl
theorem T51_4 (hE : FX x51 D m E) : S51_4 D m = e51_4 (nrec (fun _ => none) (fun _ G4 st => E c51_4b [.lp v51_4 G4, .blk 0, .sj v51_3 c51_3, .sj v51_1 c51_1] st) m) :=
  nrec_emb e51_4 (fun _ _ _ _ _ _ => none) (fun g => S51_4b D m g) (fun G4 st => E c51_4b [.lp v51_4 G4, .blk 0, .sj v51_3 c51_3, .sj v51_1 c51_1] st) rfl (fun g => T51_4b hE g) m
theorem T51_2 (hE : FX x51 D m E) : S51_2 D m = e51_2 (E c51_2 [.sj v51_1 c51_1]) := by unfold S51_2; rw [T51_4 hE, hE c51_2]; kernel_rfl
theorem T51_0 (hE : FX x51 D m E) : S51_0 D m = e51_0 (E c51_0 []) := by unfold S51_0; rw [T51_2 hE, T51_1 hE, hE c51_0]; kernel_rfl
theorem T51_7 (hE : FX x51 D m E) : S51_7 D m = e51_7 (E c51_e []) := by unfold S51_7; rw [T51_0 hE, hE c51_e]; kernel_rfl
theorem X51 : XTie S51 x51 := X_of fun D m E hE args h u => by unfold S51; rw [T51_7 hE]; kernel_rfl
/- 52 -/
def c52_e : XC := (.sO [.al p0 (.new [.nils, (kI 0), (kI 0), (kI 0), (kI 0), (kI 0), (kI 0)])] (.sO [.P p2 (.build [.nils, (kI 0), (kI 0), (kI 0), (kI 0), (kI 0), (kI 0)] []) .v, .al p1 (.new [.nils, (kI 0), (kI 0), (kI 0), (kI 0), (kI 0), (kI 0)]), .ss 7 q1 q2] (.sO [.L p3 (.cells 7 q1) .v, .P p4 (.build [(.str []), (kI 0), (kI 0)] [⟨1, 1, (ci 1)⟩]) .v, .al p5 (.bsl [(.str []), (kI 0), (kI 0)] 1 [⟨0, 3, q4⟩]), .P p6 (.build [(.bool false), (.bool false), (.bool false), (.str []), (kI 0), (kI 0), .nils, (.bool false), .nils, (kI 0), .nils, .nils, (.str []), (kI 0), (kI 0), (kI 0), (kI 0)] [⟨0, 1, (cb true)⟩, ⟨3, 1, (.c (.str [112, 117, 116, 119]))⟩, ⟨8, 1, q5⟩]) .v, .cl p7 82 [q3, q6, (.c (.str [112, 117, 116, 119]))] .v, .ss 7 q1 q7] (.sO [.L p8 (.cells 7 q1) .v, .P p9 (.build [(.str []), (kI 0), (kI 0)] [⟨1, 1, (ci 2)⟩]) .v, .al p10 (.bsl [(.str []), (kI 0), (kI 0)] 1 [⟨0, 3, q9⟩]), .P p11 (.build [(.bool false), (.bool false), (.bool false), (.str []), (kI 0), (kI 0), .nils, (.bool false), .nils, (kI 0), .nils, .nils, (.str []), (kI 0), (kI 0), (kI 0), (kI 0)] [⟨0, 1, (cb true)⟩, ⟨3, 1, (.c (.str [112, 117, 116, 100]))⟩, ⟨8, 1, q10⟩]) .v, .cl p12 82 [q8, q11, (.c (.str [112, 117, 116, 100]))] .v, .ss 7 q1 q12] (.sO [.L p13 (.cells 7 q1) .v, .P p14 (.build [(.bool false), (.bool false), (.bool false), (.str []), (kI 0), (kI 0), .nils, (.bool false), .nils, (kI 0), .nils, .nils, (.str []), (kI 0), (kI 0), (kI 0), (kI 0)] [⟨0, 1, (cb true)⟩, ⟨3, 1, (.c (.str [103, 101, 116, 119]))⟩, ⟨4, 1, (ci 1)⟩]) .v, .cl p15 82 [q13, q14, (.c (.str [103, 101, 116, 119]))] .v, .ss 7 q1 q15] (.sO [.fa p16 1 q1, .st q16 (ci 1)] (.sO [.L p17 (.cells 7 q1) .v, .ss 7 q0 q17] (.s .ret))))))))
def x52 : XFn := ⟨[], false, [(.cells 7 p0)], c52_e⟩
def e52_0 (k h) := kN k [] h
def S52_0 (D : CallD) (m : Nat) (h : HP) : Res2 :=
 let t0 := P0 h
 let h1 := nQ h [.nils, (kI 0), (kI 0), (kI 0), (kI 0), (kI 0), (kI 0)]
 let t2 := (AV.agg [(.nils : AV), (kI 0), (kI 0), (kI 0), (kI 0), (kI 0), (kI 0)])
 let t1 := P0 h1
 let h2 := nQ h1 [.nils, (kI 0), (kI 0), (kI 0), (kI 0), (kI 0), (kI 0)]
 stsC 7 t1 t2 h2 fun h3 =>
 cellsC 7 t1 h3 fun t3 =>
 let t4 := (AV.agg [(vS ([] : LN)), (kI 1), (kI 0)])
 let t5 := AV.slice (HP.nxQ h3) 0 1 (.exact 1)
 let h4 := nQ h3 [(vS ([] : LN)), (kI 1), (kI 0)]
 let t6 := (AV.agg [(vB true), (vB false), (vB false), (vS ([112, 117, 116, 119] : LN)), (kI 0), (kI 0), (.nils : AV), (vB false), t5, (kI 0), (.nils : AV), (.nils : AV), (vS ([] : LN)), (kI 0), (kI 0), (kI 0), (kI 0)])
 cal D 82 [t3, t6, (vS ([112, 117, 116, 119] : LN))] h4 fun t7 h5 =>
 stsC 7 t1 t7 h5 fun h6 =>
 cellsC 7 t1 h6 fun t8 =>
 let t9 := (AV.agg [(vS ([] : LN)), (kI 2), (kI 0)])
 let t10 := AV.slice (HP.nxQ h6) 0 1 (.exact 1)
 let h7 := nQ h6 [(vS ([] : LN)), (kI 2), (kI 0)]
 let t11 := (AV.agg [(vB true), (vB false), (vB false), (vS ([112, 117, 116, 100] : LN)), (kI 0), (kI 0), (.nils : AV), (vB false), t10, (kI 0), (.nils : AV), (.nils : AV), (vS ([] : LN)), (kI 0), (kI 0), (kI 0), (kI 0)])
 cal D 82 [t8, t11, (vS ([112, 117, 116, 100] : LN))] h7 fun t12 h8 =>
 stsC 7 t1 t12 h8 fun h9 =>
 cellsC 7 t1 h9 fun t13 =>
 let t14 := (AV.agg [(vB true), (vB false), (vB false), (vS ([103, 101, 116, 119] : LN)), (kI 1), (kI 0), (.nils : AV), (vB false), (.nils : AV), (kI 0), (.nils : AV), (.nils : AV), (vS ([] : LN)), (kI 0), (kI 0), (kI 0), (kI 0)])
 cal D 82 [t13, t14, (vS ([103, 101, 116, 119] : LN))] h9 fun t15 h10 =>
 stsC 7 t1 t15 h10 fun h11 =>
 let t16 := (AV.ptr (HP.nxQ h1) (Nat.add 0 1))
 stoC t16 (kI 1) h11 fun h12 =>
 cellsC 7 t1 h12 fun t17 =>
 stsC 7 t0 t17 h12 fun h13 =>
 cellsC 7 t0 h13 fun t0a =>
 some (.ret t0a h13, .no)
def S52 : SFn := fun D m args h u => nou u <| endA args (S52_0 D m h)
theorem T52_0 (hE : FX x52 D m E) : S52_0 D m = e52_0 (E c52_e []) := by unfold S52_0; rw [hE c52_e]; kernel_rfl
theorem X52 : XTie S52 x52 := X_of fun D m E hE args h u => by unfold S52; rw [T52_0 hE]; kernel_rfl
end
end Go.Proofs.YtblciblkocameaaGreat.Sx
