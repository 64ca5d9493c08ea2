/- Functions, printed by a program of ours: their code, what they do, and that it is so. -/
import Derived.Test.YtcoldhmbmcdemaaGreatMp
set_option maxRecDepth 8000
set_option linter.unusedVariables false
namespace Go.Proofs.YtcoldhmbmcdemaaGreat.Sx
open Go Go.Proofs.YtcoldhmbmcdemaaGreat.Ev
noncomputable section
variable {D : CallD} {m : Nat} {E : XE}
/- 4 -/
def c4_e : XC := (.sO [.mv p6 (cb false) .b] (.seq (.seq (.oX [.cl p14 8 [] .b, .P p15 (.un .not q14) .b]) (.cond q15 (.seq (.oX [.mv p6 (cb false) .b]) .ret) .skip)) (.sO [.P p16 (.build [(.str []), (.str []), (.str []), (.str []), (.str []), (.str []), (.str []), (.str []), (.str []), (.str []), (.str [])] [⟨0, 1, (.c (.str [43]))⟩, ⟨1, 1, (.c (.str [45]))⟩, ⟨2, 1, (.c (.str [42]))⟩, ⟨3, 1, (.c (.str [47]))⟩, ⟨4, 1, (.c (.str [37]))⟩, ⟨5, 1, (.c (.str [60, 60]))⟩, ⟨6, 1, (.c (.str [62, 62]))⟩, ⟨7, 1, (.c (.str [38]))⟩, ⟨8, 1, (.c (.str [124]))⟩, ⟨9, 1, (.c (.str [94]))⟩, ⟨10, 1, (.c (.str [60]))⟩]) .v, .al p7 (.new [(.str []), (.str []), (.str []), (.str []), (.str []), (.str []), (.str []), (.str []), (.str []), (.str []), (.str [])]), .ss 11 q7 q16] (.sO [.P p17 (.build [(kI 0), (kI 0), (kI 0), (kI 0), (kI 0), (kI 0), (kI 0), (kI 0), (kI 0), (kI 0), (kI 0)] [⟨0, 1, (ci 1)⟩, ⟨1, 1, (ci 2)⟩, ⟨2, 1, (ci 11)⟩, ⟨3, 1, (ci 14)⟩, ⟨4, 1, (ci 16)⟩, ⟨5, 1, (ci 3)⟩, ⟨6, 1, (ci 8)⟩, ⟨7, 1, (ci 10)⟩, ⟨8, 1, (ci 9)⟩, ⟨9, 1, (ci 6)⟩, ⟨10, 1, (ci 4)⟩]) .v, .al p8 (.new [(kI 0), (kI 0), (kI 0), (kI 0), (kI 0), (kI 0), (kI 0), (kI 0), (kI 0), (kI 0), (kI 0)]), .ss 11 q8 q17] (.sO [.mv p19 q0 tC, .bn p20 .rem q19 (.c (.int .u8 (.ofNat 11))) tC, .P p21 (.iaddr (.arr 11 1) q7 q20) .v, .ld p22 q21 .s, .bn p23 .add (.c (.str [105, 110, 116, 32, 109, 97, 105, 110, 40, 41, 32, 123, 32, 105, 110, 116, 32, 97, 32, 61, 32, 103, 101, 116, 119, 40, 41, 59, 32, 105, 110, 116, 32, 98, 32, 61, 32, 103, 101, 116, 119, 40, 41, 59, 32, 114, 101, 116, 117, 114, 110, 32, 97, 32])) q22 .s, .bn p24 .add q23 (.c (.str [32, 98, 59, 32, 125])) .s, .al p25 (.bsl [(.str [])] 1 [⟨0, 1, q24⟩]), .cl p26 9 [q25] .v, .mv p18 q26 .v, .P p27 (.ext q18 0) .v, .P p28 (.ext q18 1) .b, .mv p9 q27 .v, .mv p10 q28 .b] (.sO [.mv p30 q0 tC, .bn p31 .rem q30 (.c (.int .u8 (.ofNat 11))) tC, .P p32 (.iaddr (.arr 11 1) q8 q31) .v, .ld p33 q32 tI, .mv p34 q1 tW, .mv p35 q2 tW, .cl p36 12 [q33, q34, q35] .v, .mv p29 q36 .v, .P p37 (.ext q29 0) tW, .P p38 (.ext q29 1) .b, .mv p11 q37 tW, .mv p12 q38 .b] (.sO [.mv p39 q9 .v, .mv p40 q1 tW, .mv p41 q2 tW, .al p42 (.bsl [(.int .u32 (.ofNat 0)), (.int .u32 (.ofNat 0))] 2 [⟨0, 1, q40⟩, ⟨1, 1, q41⟩]), .cl p43 11 [q39, q42, (ci 1000)] .v, .al p13 (.new [(kI 0), (.int .u32 (.ofNat 0)), .nils, (kI 0)]), .ss 4 q13 q43] (.sO [.mv p44 q10 .b, .mv p45 q44 .b, .ge p45 (XL.of [.G p45 true p46 (.faddr 0 q13) .v, .o ⟨(some p47), (.l (.cell q46)), (some (p45, true)), []⟩ tI, .G p45 true p48 (.bin .eql q47 (ci 1)) .b, .P p49 (.pick q45 q48 (cb false)) .b]) p49 .b, .mv p50 q49 .b, .ge p50 (XL.of [.G p50 true p51 (.faddr 1 q13) .v, .o ⟨(some p52), (.l (.cell q51)), (some (p50, true)), []⟩ tW, .G p50 true p53 (.mov q11) tW, .G p50 true p54 (.bin .eql q52 q53) .b, .P p55 (.pick q50 q54 (cb false)) .b]) p55 .b, .mv p6 q55 .b] (.s .ret)))))))))
def x4 : XFn := ⟨[tC, tW, tW], false, [(.tmp p6)], c4_e⟩
def e4_0 (k t0 t1 t2 h) := kN k [(p0, (vC t0)), (p1, (vW t1)), (p2, (vW t2))] h
def S4_0 (D : CallD) (m : Nat) (t0 t1 t2 : Int) (h : HP) : Res2 :=
 cal D 8 [] h fun t14 h1 =>
 asB t14 fun t14a =>
 let t15 := !t14a
 br t15 (
 some (.ret (vB false) h1, .no)) (
 let t16 := (AV.agg [(vS ([43] : LN)), (vS ([45] : LN)), (vS ([42] : LN)), (vS ([47] : LN)), (vS ([37] : LN)), (vS ([60, 60] : LN)), (vS ([62, 62] : LN)), (vS ([38] : LN)), (vS ([124] : LN)), (vS ([94] : LN)), (vS ([60] : LN))])
 let t7 := AV.ptr (HP.nxQ h1) 0
 let h2 := HP.newQ h1 (.cells true [(.str []), (.str []), (.str []), (.str []), (.str []), (.str []), (.str []), (.str []), (.str []), (.str []), (.str [])])
 stsC 11 t7 t16 h2 fun h3 =>
 let t17 := (AV.agg [(vI (Int.ofNat 1)), (vI (Int.ofNat 2)), (vI (Int.ofNat 11)), (vI (Int.ofNat 14)), (vI (Int.ofNat 16)), (vI (Int.ofNat 3)), (vI (Int.ofNat 8)), (vI (Int.ofNat 10)), (vI (Int.ofNat 9)), (vI (Int.ofNat 6)), (vI (Int.ofNat 4))])
 let t8 := AV.ptr (HP.nxQ h3) 0
 let h4 := HP.newQ h3 (.cells true [(kI 0), (kI 0), (kI 0), (kI 0), (kI 0), (kI 0), (kI 0), (kI 0), (kI 0), (kI 0), (kI 0)])
 stsC 11 t8 t17 h4 fun h5 =>
 let t20 := Int.tmod t0 (Int.ofNat 11)
 iarC 11 1 t7 (vC t20) fun t21 =>
 ldS t21 h5 fun t22 =>
 obS (strBin .add ([105, 110, 116, 32, 109, 97, 105, 110, 40, 41, 32, 123, 32, 105, 110, 116, 32, 97, 32, 61, 32, 103, 101, 116, 119, 40, 41, 59, 32, 105, 110, 116, 32, 98, 32, 61, 32, 103, 101, 116, 119, 40, 41, 59, 32, 114, 101, 116, 117, 114, 110, 32, 97, 32] : LN) t22) fun t23 =>
 obS (strBin .add t23 ([32, 98, 59, 32, 125] : LN)) fun t24 =>
 let t25 := AV.slice (HP.nxQ h5) 0 1 (.exact 1)
 let h6 := HP.newQ h5 (.cells true [(vS t24)])
 cal D 9 [t25] h6 fun t26 h7 =>
 extC t26 0 fun t27 =>
 extC t26 1 fun vt28 => asB vt28 fun t28 =>
 let t31 := Int.tmod t0 (Int.ofNat 11)
 iarC 11 1 t8 (vC t31) fun t32 =>
 ldI t32 h7 fun t33 =>
 cal D 12 [(vI t33), (vW t1), (vW t2)] h7 fun t36 h8 =>
 extC t36 0 fun vt37 => asI .u32 vt37 fun t37 =>
 extC t36 1 fun vt38 => asB vt38 fun t38 =>
 let t42 := AV.slice (HP.nxQ h8) 0 2 (.exact 2)
 let h9 := HP.newQ h8 (.cells true [(vW t1), (vW t2)])
 cal D 11 [t27, t42, (vI (Int.ofNat 1000))] h9 fun t43 h10 =>
 let t13 := AV.ptr (HP.nxQ h10) 0
 let h11 := HP.newQ h10 (.cells true [(kI 0), (.int .u32 (.ofNat 0)), .nils, (kI 0)])
 stsC 4 t13 t43 h11 fun h12 =>
 obB (brV t28 (
 let t46 := (AV.ptr (HP.nxQ h10) (Nat.add 0 0))
 ldIV t46 h12 fun t47 =>
 let t48 := eqQ t47 (Int.ofNat 1)
 some (vB t48)) (
 some (vB false))) fun t49 =>
 obB (brV t49 (
 let t51 := (AV.ptr (HP.nxQ h10) (Nat.add 0 1))
 ldWV t51 h12 fun t52 =>
 let t54 := eqQ t52 t37
 some (vB t54)) (
 some (vB false))) fun t55 =>
 some (.ret (vB t55) h12, .no))
def S4 : SFn := fun D m args h u => nou u <| popI .u8 args fun t0 args => popI .u32 args fun t1 args => popI .u32 args fun t2 args => endA args (S4_0 D m t0 t1 t2 h)
theorem T4_0 (hE : FX x4 D m E) : S4_0 D m = e4_0 (E c4_e []) := by unfold S4_0; rw [hE c4_e]; kernel_rfl
theorem X4 : XTie S4 x4 := X_of fun D m E hE args h u => by unfold S4; rw [T4_0 hE]; kernel_rfl
/- 8 -/
def c8_e : XC := (.sO [.mv p0 (cb false) .b] (.sO [.al p5 (.bsl [(.str [])] 1 [⟨0, 1, (.c (.str [105, 110, 116, 32, 109, 97, 105, 110, 40, 41, 32, 123, 32, 112, 117, 116, 119, 40, 51, 41, 59, 32, 114, 101, 116, 117, 114, 110, 32, 55, 59, 32, 125]))⟩]), .cl p6 9 [q5] .v, .mv p4 q6 .v, .P p7 (.ext q4 0) .v, .P p8 (.ext q4 1) .b, .mv p1 q7 .v, .mv p2 q8 .b] (.seq (.seq (.oX [.mv p9 q2 .b, .P p10 (.un .not q9) .b, .mv p11 q10 .b, .ge p11 (XL.of [.G p11 false p12 (.mov q1) .v, .G p11 false p13 (.lenl q12) tI, .G p11 false p14 (.bin .neq q13 (ci 1)) .b, .P p15 (.pick q11 (cb true) q14) .b]) p15 .b, .mv p16 q15 .b, .ge p16 (XL.of [.G p16 false p17 (.mov q1) .v, .G p16 false p18 (.iaddr (.sl 2) q17 (ci 0)) .v, .G p16 false p19 (.faddr 0 q18) .v, .o ⟨(some p20), (.l (.cell q19)), (some (p16, false)), []⟩ .v, .G p16 false p21 (.lenl q20) tI, .G p16 false p22 (.bin .neq q21 (ci 1)) .b, .P p23 (.pick q16 (cb true) q22) .b]) p23 .b]) (.cond q23 (.seq (.oX [.mv p0 (cb false) .b]) .ret) .skip)) (.sO [.mv p24 q1 .v, .cl p25 11 [q24, (.c .nils), (ci 100)] .v, .al p3 (.new [(kI 0), (.int .u32 (.ofNat 0)), .nils, (kI 0)]), .ss 4 q3 q25] (.sO [.fa p26 0 q3, .ld p27 q26 tI, .bn p28 .eql q27 (ci 1) .b, .mv p29 q28 .b, .ge p29 (XL.of [.G p29 true p30 (.faddr 1 q3) .v, .o ⟨(some p31), (.l (.cell q30)), (some (p29, true)), []⟩ tW, .G p29 true p32 (.bin .eql q31 (.c (.int .u32 (.ofNat 7)))) .b, .P p33 (.pick q29 q32 (cb false)) .b]) p33 .b, .mv p34 q33 .b, .ge p34 (XL.of [.G p34 true p35 (.faddr 2 q3) .v, .o ⟨(some p36), (.l (.cell q35)), (some (p34, true)), []⟩ .v, .G p34 true p37 (.lenl q36) tI, .G p34 true p38 (.bin .eql q37 (ci 1)) .b, .P p39 (.pick q34 q38 (cb false)) .b]) p39 .b, .mv p40 q39 .b, .ge p40 (XL.of [.G p40 true p41 (.faddr 2 q3) .v, .o ⟨(some p42), (.l (.cell q41)), (some (p40, true)), []⟩ .v, .G p40 true p43 (.iaddr (.sl 3) q42 (ci 0)) .v, .G p40 true p44 (.faddr 1 q43) .v, .o ⟨(some p45), (.l (.cell q44)), (some (p40, true)), []⟩ tW, .G p40 true p46 (.bin .eql q45 (.c (.int .u32 (.ofNat 3)))) .b, .P p47 (.pick q40 q46 (cb false)) .b]) p47 .b, .mv p0 q47 .b] (.s .ret))))))
def x8 : XFn := ⟨[], false, [(.tmp p0)], c8_e⟩
def e8_0 (k h) := kN k [] h
def S8_0 (D : CallD) (m : Nat) (h : HP) : Res2 :=
 let t5 := AV.slice (HP.nxQ h) 0 1 (.exact 1)
 let h1 := HP.newQ h (.cells true [(vS ([105, 110, 116, 32, 109, 97, 105, 110, 40, 41, 32, 123, 32, 112, 117, 116, 119, 40, 51, 41, 59, 32, 114, 101, 116, 117, 114, 110, 32, 55, 59, 32, 125] : LN))])
 cal D 9 [t5] h1 fun t6 h2 =>
 extC t6 0 fun t7 =>
 extC t6 1 fun vt8 => asB vt8 fun t8 =>
 let t10 := !t8
 obB (brV t10 (
 some (vB true)) (
 lenCV t7 fun vt13 => asIV .i64 vt13 fun t13 =>
 let t14 := notQ (eqQ t13 (Int.ofNat 1))
 some (vB t14))) fun t15 =>
 obB (brV t15 (
 some (vB true)) (
 iasCV 2 t7 (vI (Int.ofNat 0)) fun t18 =>
 faCV 0 t18 fun t19 =>
 cellCV t19 h2 fun t20 =>
 lenCV t20 fun vt21 => asIV .i64 vt21 fun t21 =>
 let t22 := notQ (eqQ t21 (Int.ofNat 1))
 some (vB t22))) fun t23 =>
 br t23 (
 some (.ret (vB false) h2, .no)) (
 cal D 11 [t7, (.nils : AV), (vI (Int.ofNat 100))] h2 fun t25 h3 =>
 let t3 := AV.ptr (HP.nxQ h3) 0
 let h4 := HP.newQ h3 (.cells true [(kI 0), (.int .u32 (.ofNat 0)), .nils, (kI 0)])
 stsC 4 t3 t25 h4 fun h5 =>
 let t26 := (AV.ptr (HP.nxQ h3) (Nat.add 0 0))
 ldI t26 h5 fun t27 =>
 let t28 := eqQ t27 (Int.ofNat 1)
 obB (brV t28 (
 let t30 := (AV.ptr (HP.nxQ h3) (Nat.add 0 1))
 ldWV t30 h5 fun t31 =>
 let t32 := eqQ t31 (Int.ofNat 7)
 some (vB t32)) (
 some (vB false))) fun t33 =>
 obB (brV t33 (
 let t35 := (AV.ptr (HP.nxQ h3) (Nat.add 0 2))
 cellCV t35 h5 fun t36 =>
 lenCV t36 fun vt37 => asIV .i64 vt37 fun t37 =>
 let t38 := eqQ t37 (Int.ofNat 1)
 some (vB t38)) (
 some (vB false))) fun t39 =>
 obB (brV t39 (
 let t41 := (AV.ptr (HP.nxQ h3) (Nat.add 0 2))
 cellCV t41 h5 fun t42 =>
 iasCV 3 t42 (vI (Int.ofNat 0)) fun t43 =>
 faCV 1 t43 fun t44 =>
 ldWV t44 h5 fun t45 =>
 let t46 := eqQ t45 (Int.ofNat 3)
 some (vB t46)) (
 some (vB false))) fun t47 =>
 some (.ret (vB t47) h5, .no))
def S8 : SFn := fun D m args h u => nou u <| endA args (S8_0 D m h)
theorem T8_0 (hE : FX x8 D m E) : S8_0 D m = e8_0 (E c8_e []) := by unfold S8_0; rw [hE c8_e]; kernel_rfl
theorem X8 : XTie S8 x8 := X_of fun D m E hE args h u => by unfold S8; rw [T8_0 hE]; kernel_rfl
/- 9 -/
def v9_0 : List Pos := [p6]
def c9_0 : XC := (.sO [.mv p38 q6 .v, .mv p2 q38 .v, .mv p3 (cb true) .b] (.s .ret))
def v9_1 : List Pos := [p6, p19, p20, p21]
def c9_1b : XC := (.sO [.bn p22 .lss q21 q20 .b] (.seq (.cond q22 .skip (.exit 0)) (.seq (.block 1 (.seq (.oX [.P p23 (.iaddr (.sl 1) q19 q21) .v, .L p24 (.cells 1 q23) .v, .al p8 (.new [.nils]), .ss 1 q8 q24]) (.seq (.oX [.L p26 (.cells 1 q8) .v, .cl p27 21 [q26] .v, .mv p25 q27 .v, .P p28 (.ext q25 0) .v, .P p29 (.ext q25 1) tI, .P p30 (.ext q25 2) tI, .al p9 (.new [.nils, .nils]), .ss 2 q9 q28, .mv p10 q29 tI, .mv p11 q30 tI]) (.seq (.seq (.oX [.mv p31 q11 tI, .bn p32 .neq q31 (ci 0) .b]) (.cond q32 (.seq (.oX [.mv p2 (.c .nils) .v, .mv p3 (cb false) .b]) .ret) .skip)) (.oX [.mv p33 q6 .v, .L p34 (.cells 2 q9) .v, .al p35 (.bsl [.nils, .nils] 1 [⟨0, 2, q34⟩]), .o ⟨(some p36), (.e (.app 2 48 q33 q35)), none, []⟩ .v, .mv p6 q36 .v]))))) (.s (.oX [.bn p37 .add q21 (ci 1) tI, .mv p21 q37 tI])))))
def c9_e : XC := (.sO [.mv p2 (.c .nils) .v, .mv p3 (cb false) .b] (.sO [.mv p13 q0 .v, .cl p14 20 [q13] .v, .mv p12 q14 .v, .P p15 (.ext q12 0) .v, .P p16 (.ext q12 1) .b, .mv p4 q15 .v, .mv p5 q16 .b] (.seq (.seq (.oX [.mv p17 q5 .b, .P p18 (.un .not q17) .b]) (.cond q18 (.seq (.oX [.mv p2 (.c .nils) .v, .mv p3 (cb false) .b]) .ret) .skip)) (.sO [.mv p6 (.c .nils) .v] (.sj v9_0 (.sO [.mv p19 q4 .v, .P p20 (.lenl q19) tI, .mv p21 (ci 0) tI] (.block 0 (.loop v9_1 c9_1b))) c9_0)))))
def x9 : XFn := ⟨[.v], false, [(.tmp p2), (.tmp p3)], c9_e⟩
def e9_0 (k t6 h) := kN k [(p6, t6)] h
def S9_0 (D : CallD) (m : Nat) (t6 : AV) (h : HP) : Res2 :=
 some (.ret (.tup [t6, (vB true)]) h, .no)
def e9_1 (k t6 t19 t20 t21 h) := kN k [(p6, t6), (p19, t19), (p20, (vI t20)), (p21, (vI t21))] h
def S9_1b (D : CallD) (m : Nat) (g1 : AV → AV → Int → Int → HP → Res2) (t6 t19 : AV) (t20 t21 : Int) (h : HP) : Res2 :=
 let t22 := ltQ t21 t20
 br t22 (
 iasC 1 t19 (vI t21) fun t23 =>
 cellsC 1 t23 h fun t24 =>
 let t8 := AV.ptr (HP.nxQ h) 0
 let h4 := HP.newQ h (.cells true [.nils])
 stsC 1 t8 t24 h4 fun h5 =>
 cellsC 1 t8 h5 fun t26 =>
 cal D 21 [t26] h5 fun t27 h6 =>
 extC t27 0 fun t28 =>
 extC t27 1 fun vt29 => asI .i64 vt29 fun t29 =>
 extC t27 2 fun vt30 => asI .i64 vt30 fun t30 =>
 let t9 := AV.ptr (HP.nxQ h6) 0
 let h7 := HP.newQ h6 (.cells true [.nils, .nils])
 stsC 2 t9 t28 h7 fun h8 =>
 let t32 := notQ (eqQ t30 (Int.ofNat 0))
 br t32 (
 some (.ret (.tup [(.nils : AV), (vB false)]) h8, .no)) (
 cellsC 2 t9 h8 fun t34 =>
 obQ (evA (.bsl [.nils, .nils] 1 [⟨0, 2, (.c t34)⟩]) .leaf) fun r9 =>
 let t35 := vkV r9.2 (HP.nxQ h8)
 let h10 := HP.newQ h8 r9.1
 eff (.app 2 48 (.c t6) (.c t35)) h10 fun t36 h11 =>
 let t37 := wrQ .i64 (addQ t21 (Int.ofNat 1))
 g1 t36 t19 t20 t37 h11)) (
 S9_0 D m t6 h)
def S9_1 (D : CallD) (m : Nat) : AV → AV → Int → Int → HP → Res2 := nrec (fun _ _ _ _ _ => none) (fun _ g => S9_1b D m g) m
def e9_2 (k t0 h) := kN k [(p0, t0)] h
def S9_2 (D : CallD) (m : Nat) (t0 : AV) (h : HP) : Res2 :=
 cal D 20 [t0] h fun t14 h3 =>
 extC t14 0 fun t15 =>
 extC t14 1 fun vt16 => asB vt16 fun t16 =>
 let t18 := !t16
 br t18 (
 some (.ret (.tup [(.nils : AV), (vB false)]) h3, .no)) (
 lenC t15 fun vt20 => asI .i64 vt20 fun t20 =>
 S9_1 D m (.nils : AV) t15 t20 (Int.ofNat 0) h3)
def S9 : SFn := fun D m args h u => nou u <| popV args fun t0 args => endA args (S9_2 D m t0 h)
theorem T9_0 (hE : FX x9 D m E) : S9_0 D m = e9_0 (E c9_0 []) := by unfold S9_0; rw [hE c9_0]; kernel_rfl
theorem T9_1b (hE : FX x9 D m E) (G1) : S9_1b D m (e9_1 G1) = e9_1 (E c9_1b [.lp v9_1 G1, .blk 0, .sj v9_0 c9_0]) := by unfold S9_1b; rw [T9_0 hE, hE c9_1b]; kernel_rfl
theorem T9_1 (hE : FX x9 D m E) : S9_1 D m = e9_1 (nrec (fun _ => none) (fun _ G1 st => E c9_1b [.lp v9_1 G1, .blk 0, .sj v9_0 c9_0] st) m) :=
  nrec_emb e9_1 (fun _ _ _ _ _ => none) (fun g => S9_1b D m g) (fun G1 st => E c9_1b [.lp v9_1 G1, .blk 0, .sj v9_0 c9_0] st) rfl (fun g => T9_1b hE g) m
theorem T9_2 (hE : FX x9 D m E) : S9_2 D m = e9_2 (E c9_e []) := by unfold S9_2; rw [T9_1 hE, hE c9_e]; kernel_rfl
theorem X9 : XTie S9 x9 := X_of fun D m E hE args h u => by unfold S9; rw [T9_2 hE]; kernel_rfl
/- 11 -/
def v11_1 : List Pos := [p6, p11]
def c11_1 : XC := (.sO [.L p61 (.cells 4 q11) .v, .ss 4 q6 q61] (.s .ret))
def v11_0 : List Pos := [p6, p7, p8]
def c11_0 : XC := (.sO [.fa p48 7 q7, .ld p49 q48 tI, .fa p50 4 q7, .ld p51 q50 .v, .fa p52 6 q7, .ld p53 q52 tI, .P p54 (.build [(kI 0), (.int .u32 (.ofNat 0)), .nils, (kI 0)] [⟨0, 1, q49⟩, ⟨2, 1, q51⟩, ⟨3, 1, q53⟩]) .v, .al p11 (.new [(kI 0), (.int .u32 (.ofNat 0)), .nils, (kI 0)]), .ss 4 q11 q54] (.sj v11_1 (.sO [.fa p55 7 q7, .ld p56 q55 tI, .bn p57 .lss q56 (ci 0) .b] (.cond q57 (.sO [.fa p58 0 q11, .st q58 (ci 1)] (.s (.oX [.mv p59 q8 tW, .fa p60 1 q11, .st q60 q59]))) (.s .skip))) c11_1))
def c11_e : XC := (.sO [.al p6 (.new [(kI 0), (.int .u32 (.ofNat 0)), .nils, (kI 0)])] (.sO [.mv p12 q0 .v, .mv p13 q1 .v, .mv p14 q2 tI, .P p15 (.build [.nils, .nils, .nils, .nils, .nils, (kI 0), (kI 0), (kI 0)] [⟨0, 1, q12⟩, ⟨3, 1, q13⟩, ⟨5, 1, q14⟩, ⟨7, 1, (.c (.int .i64 (.negSucc 0)))⟩]) .v, .cl p16 23 [q15] .v, .al p7 (.new [.nils, .nils, .nils, .nils, .nils, (kI 0), (kI 0), (kI 0)]), .ss 8 q7 q16] (.sO [.mv p8 (.c (.int .u32 (.ofNat 0))) tW] (.sj v11_0 (.sO [.fa p17 7 q7, .ld p18 q17 tI, .bn p19 .lss q18 (ci 0) .b] (.cond q19 (.sO [.L p21 (.cells 8 q7) .v, .cl p22 24 [q21, (.c (.int .i64 (.negSucc 0))), (.c (.str [109, 97, 105, 110]))] .v, .mv p20 q22 .v, .P p23 (.ext q20 0) .v, .P p24 (.ext q20 1) tI, .al p9 (.new [(.str []), (.bool false), .nils, .nils, .nils, .nils]), .ss 6 q9 q23, .mv p10 q24 tI] (.sO [.mv p25 q10 tI, .bn p26 .lss q25 (ci 0) .b, .mv p27 q26 .b, .ge p27 (XL.of [.G p27 false p28 (.faddr 2 q9) .v, .o ⟨(some p29), (.l (.cell q28)), (some (p27, false)), []⟩ .v, .G p27 false p30 (.lenl q29) tI, .G p27 false p31 (.bin .gtr q30 (ci 0)) .b, .P p32 (.pick q27 (cb true) q31) .b]) p32 .b] (.cond q32 (.s (.oX [.L p33 (.cells 8 q7) .v, .cl p34 25 [q33, (ci 2)] .v, .ss 8 q7 q34])) (.s (.oX [.L p36 (.cells 8 q7) .v, .L p37 (.cells 6 q9) .v, .mv p38 q10 tI, .P p39 (.build [.nils, .nils] []) .v, .fa p40 2 q7, .ld p41 q40 .v, .P p42 (.lenl q41) tI, .bn p43 .add (ci 4096) q42 tI, .cl p44 26 [q36, q37, q38, (ci 0), q39, (.c .nils), q43] .v, .mv p35 q44 .v, .P p45 (.ext q35 0) .v, .P p46 (.ext q35 1) tW, .P p47 (.ext q35 2) (.i .u64), .ss 8 q7 q45, .mv p8 q46 tW]))))) (.s .skip))) c11_0))))
def x11 : XFn := ⟨[.v, .v, tI], false, [(.cells 4 p6)], c11_e⟩
def e11_1 (k t6 t11 h) := kN k [(p6, t6), (p11, t11)] h
def S11_1 (D : CallD) (m : Nat) (t6 t11 : AV) (h : HP) : Res2 :=
 cellsC 4 t11 h fun t61 =>
 stsC 4 t6 t61 h fun h9 =>
 cellsC 4 t6 h9 fun t6a =>
 some (.ret t6a h9, .no)
def e11_0 (k t6 t7 t8 h) := kN k [(p6, t6), (p7, t7), (p8, (vW t8))] h
def S11_0 (D : CallD) (m : Nat) (t6 t7 : AV) (t8 : Int) (h : HP) : Res2 :=
 faC 7 t7 fun t48 =>
 ldI t48 h fun t49 =>
 faC 4 t7 fun t50 =>
 cellC t50 h fun t51 =>
 faC 6 t7 fun t52 =>
 ldI t52 h fun t53 =>
 obQ (evP (.build [(kI 0), (.int .u32 (.ofNat 0)), .nils, (kI 0)] [⟨0, 1, (.c (vI t49))⟩, ⟨2, 1, (.c t51)⟩, ⟨3, 1, (.c (vI t53))⟩]) .leaf) fun t54 =>
 let t11 := AV.ptr (HP.nxQ h) 0
 let h7 := HP.newQ h (.cells true [(kI 0), (.int .u32 (.ofNat 0)), .nils, (kI 0)])
 stsC 4 t11 t54 h7 fun h8 =>
 faC 7 t7 fun t55 =>
 ldI t55 h8 fun t56 =>
 let t57 := ltQ t56 (Int.ofNat 0)
 br t57 (
 let t58 := (AV.ptr (HP.nxQ h) (Nat.add 0 0))
 stoC t58 (vI (Int.ofNat 1)) h8 fun h10 =>
 let t60 := (AV.ptr (HP.nxQ h) (Nat.add 0 1))
 stoC t60 (vW t8) h10 fun h11 =>
 S11_1 D m t6 t11 h11) (
 S11_1 D m t6 t11 h8)
def e11_2 (k t0 t1 t2 h) := kN k [(p0, t0), (p1, t1), (p2, (vI t2))] h
def S11_2 (D : CallD) (m : Nat) (t0 t1 : AV) (t2 : Int) (h : HP) : Res2 :=
 let t6 := AV.ptr (HP.nxQ h) 0
 let h3 := HP.newQ h (.cells true [(kI 0), (.int .u32 (.ofNat 0)), .nils, (kI 0)])
 obQ (evP (.build [.nils, .nils, .nils, .nils, .nils, (kI 0), (kI 0), (kI 0)] [⟨0, 1, (.c t0)⟩, ⟨3, 1, (.c t1)⟩, ⟨5, 1, (.c (vI t2))⟩, ⟨7, 1, (.c (vI (Int.negSucc 0)))⟩]) .leaf) fun t15 =>
 cal D 23 [t15] h3 fun t16 h4 =>
 let t7 := AV.ptr (HP.nxQ h4) 0
 let h5 := HP.newQ h4 (.cells true [.nils, .nils, .nils, .nils, .nils, (kI 0), (kI 0), (kI 0)])
 stsC 8 t7 t16 h5 fun h6 =>
 let t17 := (AV.ptr (HP.nxQ h4) (Nat.add 0 7))
 ldI t17 h6 fun t18 =>
 let t19 := ltQ t18 (Int.ofNat 0)
 br t19 (
 cellsC 8 t7 h6 fun t21 =>
 cal D 24 [t21, (vI (Int.negSucc 0)), (vS ([109, 97, 105, 110] : LN))] h6 fun t22 h12 =>
 extC t22 0 fun t23 =>
 extC t22 1 fun vt24 => asI .i64 vt24 fun t24 =>
 let t9 := AV.ptr (HP.nxQ h12) 0
 let h13 := HP.newQ h12 (.cells true [(.str []), (.bool false), .nils, .nils, .nils, .nils])
 stsC 6 t9 t23 h13 fun h14 =>
 let t26 := ltQ t24 (Int.ofNat 0)
 obB (brV t26 (
 some (vB true)) (
 let t28 := (AV.ptr (HP.nxQ h12) (Nat.add 0 2))
 cellCV t28 h14 fun t29 =>
 lenCV t29 fun vt30 => asIV .i64 vt30 fun t30 =>
 let t31 := ltQ (Int.ofNat 0) t30
 some (vB t31))) fun t32 =>
 br t32 (
 cellsC 8 t7 h14 fun t33 =>
 cal D 25 [t33, (vI (Int.ofNat 2))] h14 fun t34 h15 =>
 stsC 8 t7 t34 h15 fun h16 =>
 S11_0 D m t6 t7 (Int.ofNat 0) h16) (
 cellsC 8 t7 h14 fun t36 =>
 cellsC 6 t9 h14 fun t37 =>
 let t39 := (AV.agg [(.nils : AV), (.nils : AV)])
 let t40 := (AV.ptr (HP.nxQ h4) (Nat.add 0 2))
 cellC t40 h14 fun t41 =>
 lenC t41 fun vt42 => asI .i64 vt42 fun t42 =>
 let t43 := wrQ .i64 (addQ (Int.ofNat 4096) t42)
 cal D 26 [t36, t37, (vI t24), (vI (Int.ofNat 0)), t39, (.nils : AV), (vI t43)] h14 fun t44 h17 =>
 extC t44 0 fun t45 =>
 extC t44 1 fun vt46 => asI .u32 vt46 fun t46 =>
 extC t44 2 fun vt47 => asI .u64 vt47 fun t47 =>
 stsC 8 t7 t45 h17 fun h18 =>
 S11_0 D m t6 t7 t46 h18)) (
 S11_0 D m t6 t7 (Int.ofNat 0) h6)
def S11 : SFn := fun D m args h u => nou u <| popV args fun t0 args => popV args fun t1 args => popI .i64 args fun t2 args => endA args (S11_2 D m t0 t1 t2 h)
theorem T11_1 (hE : FX x11 D m E) : S11_1 D m = e11_1 (E c11_1 []) := by unfold S11_1; rw [hE c11_1]; kernel_rfl
theorem T11_0 (hE : FX x11 D m E) : S11_0 D m = e11_0 (E c11_0 []) := by unfold S11_0; rw [T11_1 hE, hE c11_0]; kernel_rfl
theorem T11_2 (hE : FX x11 D m E) : S11_2 D m = e11_2 (E c11_e []) := by unfold S11_2; rw [T11_0 hE, hE c11_e]; kernel_rfl
theorem X11 : XTie S11 x11 := X_of fun D m E hE args h u => by unfold S11; rw [T11_2 hE]; kernel_rfl
/- 12 -/
def v12_0 : List Pos := [p0, p1, p2]
def c12_0 : XC := (.sO [.mv p129 q0 tI, .mv p130 q1 tW, .mv p131 q2 tW, .cl p132 33 [q129, q130, q131] .v, .P p133 (.ext q132 0) tW, .P p134 (.ext q132 1) .b, .mv p6 q133 tW, .mv p7 q134 .b] (.s .ret))
def v12_2 : List Pos := [p11]
def c12_2 : XC := (.sO [.mv p67 q11 tI, .P p68 (.conv (.ii .u32) q67) tW, .mv p6 q68 tW, .mv p7 (cb true) .b] (.s .ret))
def v12_1 : List Pos := [p0, p1, p2, p8, p9, p10, p11, p19, p48]
def c12_1 : XC := (.cond q48 (.sj v12_2 (.sO [.mv p51 q0 tI, .bn p52 .eql q51 (ci 4) .b, .mv p53 q52 .b, .ge p53 (XL.of [.G p53 true p54 (.mov q8) tI, .G p53 true p55 (.mov q9) tI, .G p53 true p56 (.bin .lss q54 q55) .b, .P p57 (.pick q53 q56 (cb false)) .b]) p57 .b, .mv p58 q57 .b, .ge p58 (XL.of [.G p58 false p59 (.mov q0) tI, .G p58 false p60 (.bin .eql q59 (ci 5)) .b, .G p58 false p61 (.mov q60) .b, .ge p61 (XL.of [.G p61 true p62 (.mov q1) tW, .G p61 true p63 (.mov q2) tW, .G p61 true p64 (.bin .lss q62 q63) .b, .G p58 false p65 (.pick q61 q64 (cb false)) .b]) p65 .b, .P p66 (.pick q58 (cb true) q65) .b]) p66 .b] (.cond q66 (.s (.oX [.mv p11 (ci 1) tI])) (.s .skip))) c12_2) (.sO [.bn p70 .eql q19 (ci 6) .b, .mv p69 q70 .b] (.cond q69 (.sO [.mv p71 q1 tW, .mv p72 q2 tW, .cl p73 30 [(ci 1), q71, q72] tW, .mv p6 q73 tW, .mv p7 (cb true) .b] (.s .ret)) (.sO [.bn p75 .eql q19 (ci 7) .b, .mv p74 q75 .b] (.cond q74 (.sO [.mv p76 q1 tW, .P p77 (.conv (.ii .i64) q76) tI, .mv p78 q10 tI, .cl p79 29 [q78] tI, .bn p80 .quo q77 q79 tI, .P p81 (.conv (.ii .u32) q80) tW, .mv p6 q81 tW, .mv p7 (cb true) .b] (.s .ret)) (.sO [.bn p83 .eql q19 (ci 8) .b, .mv p82 q83 .b] (.cond q82 (.sO [.mv p84 q8 tI, .mv p85 q10 tI, .cl p86 29 [q85] tI, .cl p87 31 [q84, q86] tI, .cl p88 28 [q87] tW, .mv p6 q88 tW, .mv p7 (cb true) .b] (.s .ret)) (.sO [.bn p90 .eql q19 (ci 9) .b, .mv p89 q90 .b] (.cond q89 (.sO [.mv p91 q1 tW, .mv p92 q2 tW, .cl p93 30 [(ci 2), q91, q92] tW, .mv p6 q93 tW, .mv p7 (cb true) .b] (.s .ret)) (.sO [.bn p95 .eql q19 (ci 10) .b, .mv p94 q95 .b] (.cond q94 (.sO [.mv p96 q1 tW, .mv p97 q2 tW, .cl p98 30 [(ci 3), q96, q97] tW, .mv p6 q98 tW, .mv p7 (cb true) .b] (.s .ret)) (.sO [.bn p100 .eql q19 (ci 11) .b, .mv p99 q100 .b] (.cond q99 (.sO [.mv p101 q1 tW, .P p102 (.conv (.ii .i64) q101) tI, .bn p103 .rem q102 (ci 65536) tI, .mv p104 q2 tW, .P p105 (.conv (.ii .i64) q104) tI, .bn p106 .mul q103 q105 tI, .mv p107 q1 tW, .P p108 (.conv (.ii .i64) q107) tI, .bn p109 .quo q108 (ci 65536) tI, .mv p110 q2 tW, .P p111 (.conv (.ii .i64) q110) tI, .bn p112 .rem q111 (ci 65536) tI, .bn p113 .mul q109 q112 tI, .bn p114 .mul q113 (ci 65536) tI, .bn p115 .add q106 q114 tI, .cl p116 28 [q115] tW, .mv p6 q116 tW, .mv p7 (cb true) .b] (.s .ret)) (.sO [.bn p118 .eql q19 (ci 12) .b, .mv p117 q118 .b] (.cond q117 (.sO [.mv p119 q8 tI, .mv p120 q9 tI, .bn p121 .mul q119 q120 tI, .cl p122 31 [q121, (ci 4294967296)] tI, .cl p123 28 [q122] tW, .mv p6 q123 tW, .mv p7 (cb true) .b] (.s .ret)) (.sO [.bn p125 .eql q19 (ci 13) .b, .mv p124 q125 .b] (.cond q124 (.sO [.mv p126 q1 tW, .mv p127 q2 tW, .cl p128 32 [q126, q127] tW, .mv p6 q128 tW, .mv p7 (cb true) .b] (.s .ret)) (.s .skip))))))))))))))))))
def c12_e : XC := (.sO [.mv p6 (.c (.int .u32 (.ofNat 0))) tW, .mv p7 (cb false) .b] (.sO [.mv p12 q1 tW, .cl p13 27 [q12] tI, .mv p14 q2 tW, .cl p15 27 [q14] tI, .mv p8 q13 tI, .mv p9 q15 tI] (.sO [.mv p16 q2 tW, .bn p17 .rem q16 (.c (.int .u32 (.ofNat 32))) tW, .P p18 (.conv (.ii .i64) q17) tI, .mv p10 q18 tI] (.sO [.mv p11 (ci 0) tI] (.sj v12_0 (.sO [.mv p19 q0 tI] (.block 0 (.sO [.bn p21 .eql q19 (ci 1) .b, .mv p20 q21 .b] (.cond q20 (.sO [.mv p22 q1 tW, .P p23 (.conv (.ii .i64) q22) tI, .mv p24 q2 tW, .P p25 (.conv (.ii .i64) q24) tI, .bn p26 .add q23 q25 tI, .cl p27 28 [q26] tW, .mv p6 q27 tW, .mv p7 (cb true) .b] (.s .ret)) (.sO [.bn p29 .eql q19 (ci 2) .b, .mv p28 q29 .b] (.cond q28 (.sO [.mv p30 q1 tW, .P p31 (.conv (.ii .i64) q30) tI, .mv p32 q2 tW, .P p33 (.conv (.ii .i64) q32) tI, .bn p34 .sub q31 q33 tI, .cl p35 28 [q34] tW, .mv p6 q35 tW, .mv p7 (cb true) .b] (.s .ret)) (.sO [.bn p37 .eql q19 (ci 3) .b, .mv p36 q37 .b] (.cond q36 (.seq (.ops true (XL.of [.mv p38 q1 tW, .P p39 (.conv (.ii .i64) q38) tI, .mv p40 q10 tI, .bn p41 .sub (ci 32) q40 tI, .mv p44 q10 tI, .cl p42 29 [q41] tI, .bn p43 .rem q39 q42 tI, .cl p45 29 [q44] tI, .bn p46 .mul q43 q45 tI, .cl p47 28 [q46] tW, .mv p6 q47 tW, .mv p7 (cb true) .b])) (.s .ret)) (.sj v12_1 (.sO [.bn p49 .eql q19 (ci 4) .b, .mv p48 q49 .b] (.cond q48 (.s .skip) (.s (.oX [.bn p50 .eql q19 (ci 5) .b, .mv p48 q50 .b])))) c12_1))))))))) c12_0)))))
def x12 : XFn := ⟨[tI, tW, tW], false, [(.tmp p6), (.tmp p7)], c12_e⟩
def e12_0 (k t0 t1 t2 h) := kN k [(p0, (vI t0)), (p1, (vW t1)), (p2, (vW t2))] h
def S12_0 (D : CallD) (m : Nat) (t0 t1 t2 : Int) (h : HP) : Res2 :=
 cal D 33 [(vI t0), (vW t1), (vW t2)] h fun t132 h6 =>
 extC t132 0 fun vt133 => asI .u32 vt133 fun t133 =>
 extC t132 1 fun vt134 => asB vt134 fun t134 =>
 some (.ret (.tup [(vW t133), (vB t134)]) h6, .no)
def e12_2 (k t11 h) := kN k [(p11, (vI t11))] h
def S12_2 (D : CallD) (m : Nat) (t11 : Int) (h : HP) : Res2 :=
 let t68 := wrapF .u32 t11
 some (.ret (.tup [(vW t68), (vB true)]) h, .no)
def e12_1 (k t0 t1 t2 t8 t9 t10 t11 t19 t48 h) := kN k [(p0, (vI t0)), (p1, (vW t1)), (p2, (vW t2)), (p8, (vI t8)), (p9, (vI t9)), (p10, (vI t10)), (p11, (vI t11)), (p19, (vI t19)), (p48, (vB t48))] h
def S12_1 (D : CallD) (m : Nat) (t0 t1 t2 t8 t9 t10 t11 t19 : Int) (t48 : Bool) (h : HP) : Res2 :=
 br t48 (
 let t52 := eqQ t0 (Int.ofNat 4)
 obB (brV t52 (
 let t56 := ltQ t8 t9
 some (vB t56)) (
 some (vB false))) fun t57 =>
 obB (brV t57 (
 some (vB true)) (
 let t60 := eqQ t0 (Int.ofNat 5)
 obBV (brV t60 (
 let t64 := ltQ t1 t2
 some (vB t64)) (
 some (vB false))) fun t65 =>
 some (vB t65))) fun t66 =>
 br t66 (
 S12_2 D m (Int.ofNat 1) h) (
 S12_2 D m t11 h)) (
 let t70 := eqQ t19 (Int.ofNat 6)
 br t70 (
 cal D 30 [(vI (Int.ofNat 1)), (vW t1), (vW t2)] h fun t73 h12 =>
 asI .u32 t73 fun t73a =>
 some (.ret (.tup [(vW t73a), (vB true)]) h12, .no)) (
 let t75 := eqQ t19 (Int.ofNat 7)
 br t75 (
 let t77 := wrapF .i64 t1
 cal D 29 [(vI t10)] h fun t79 h13 =>
 asI .i64 t79 fun t79a =>
 obI .i64 (intBin .quo .i64 t77 t79a) fun t80 =>
 let t81 := wrapF .u32 t80
 some (.ret (.tup [(vW t81), (vB true)]) h13, .no)) (
 let t83 := eqQ t19 (Int.ofNat 8)
 br t83 (
 cal D 29 [(vI t10)] h fun t86 h14 =>
 asI .i64 t86 fun t86a =>
 cal D 31 [(vI t8), (vI t86a)] h14 fun t87 h15 =>
 asI .i64 t87 fun t87a =>
 cal D 28 [(vI t87a)] h15 fun t88 h16 =>
 asI .u32 t88 fun t88a =>
 some (.ret (.tup [(vW t88a), (vB true)]) h16, .no)) (
 let t90 := eqQ t19 (Int.ofNat 9)
 br t90 (
 cal D 30 [(vI (Int.ofNat 2)), (vW t1), (vW t2)] h fun t93 h17 =>
 asI .u32 t93 fun t93a =>
 some (.ret (.tup [(vW t93a), (vB true)]) h17, .no)) (
 let t95 := eqQ t19 (Int.ofNat 10)
 br t95 (
 cal D 30 [(vI (Int.ofNat 3)), (vW t1), (vW t2)] h fun t98 h18 =>
 asI .u32 t98 fun t98a =>
 some (.ret (.tup [(vW t98a), (vB true)]) h18, .no)) (
 let t100 := eqQ t19 (Int.ofNat 11)
 br t100 (
 let t102 := wrapF .i64 t1
 let t103 := Int.tmod t102 (Int.ofNat 65536)
 let t105 := wrapF .i64 t2
 let t106 := wrQ .i64 (t103 * t105)
 let t108 := wrapF .i64 t1
 let t109 := wrapF .i64 (Int.tdiv t108 (Int.ofNat 65536))
 let t111 := wrapF .i64 t2
 let t112 := Int.tmod t111 (Int.ofNat 65536)
 let t113 := wrQ .i64 (t109 * t112)
 let t114 := wrQ .i64 (t113 * (Int.ofNat 65536))
 let t115 := wrQ .i64 (addQ t106 t114)
 cal D 28 [(vI t115)] h fun t116 h19 =>
 asI .u32 t116 fun t116a =>
 some (.ret (.tup [(vW t116a), (vB true)]) h19, .no)) (
 let t118 := eqQ t19 (Int.ofNat 12)
 br t118 (
 let t121 := wrQ .i64 (t8 * t9)
 cal D 31 [(vI t121), (vI (Int.ofNat 4294967296))] h fun t122 h20 =>
 asI .i64 t122 fun t122a =>
 cal D 28 [(vI t122a)] h20 fun t123 h21 =>
 asI .u32 t123 fun t123a =>
 some (.ret (.tup [(vW t123a), (vB true)]) h21, .no)) (
 let t125 := eqQ t19 (Int.ofNat 13)
 br t125 (
 cal D 32 [(vW t1), (vW t2)] h fun t128 h22 =>
 asI .u32 t128 fun t128a =>
 some (.ret (.tup [(vW t128a), (vB true)]) h22, .no)) (
 S12_0 D m t0 t1 t2 h)))))))))
def e12_3 (k t0 t1 t2 h) := kN k [(p0, (vI t0)), (p1, (vW t1)), (p2, (vW t2))] h
def S12_3 (D : CallD) (m : Nat) (t0 t1 t2 : Int) (h : HP) : Res2 :=
 cal D 27 [(vW t1)] h fun t13 h4 =>
 asI .i64 t13 fun t13a =>
 cal D 27 [(vW t2)] h4 fun t15 h5 =>
 asI .i64 t15 fun t15a =>
 let t17 := Int.tmod t2 (Int.ofNat 32)
 let t18 := wrapF .i64 t17
 let t21 := eqQ t0 (Int.ofNat 1)
 br t21 (
 let t23 := wrapF .i64 t1
 let t25 := wrapF .i64 t2
 let t26 := wrQ .i64 (addQ t23 t25)
 cal D 28 [(vI t26)] h5 fun t27 h7 =>
 asI .u32 t27 fun t27a =>
 some (.ret (.tup [(vW t27a), (vB true)]) h7, .no)) (
 let t29 := eqQ t0 (Int.ofNat 2)
 br t29 (
 let t31 := wrapF .i64 t1
 let t33 := wrapF .i64 t2
 let t34 := wrQ .i64 (t31 - t33)
 cal D 28 [(vI t34)] h5 fun t35 h8 =>
 asI .u32 t35 fun t35a =>
 some (.ret (.tup [(vW t35a), (vB true)]) h8, .no)) (
 let t37 := eqQ t0 (Int.ofNat 3)
 br t37 (
 let t39 := wrapF .i64 t1
 let t41 := wrQ .i64 ((Int.ofNat 32) - t18)
 cal D 29 [(vI t41)] h5 fun t42 h9 =>
 asI .i64 t42 fun t42a =>
 obI .i64 (intBin .rem .i64 t39 t42a) fun t43 =>
 cal D 29 [(vI t18)] h9 fun t45 h10 =>
 asI .i64 t45 fun t45a =>
 let t46 := wrQ .i64 (t43 * t45a)
 cal D 28 [(vI t46)] h10 fun t47 h11 =>
 asI .u32 t47 fun t47a =>
 some (.ret (.tup [(vW t47a), (vB true)]) h11, .no)) (
 let t49 := eqQ t0 (Int.ofNat 4)
 br t49 (
 S12_1 D m t0 t1 t2 t13a t15a t18 (Int.ofNat 0) t0 t49 h5) (
 let t50 := eqQ t0 (Int.ofNat 5)
 S12_1 D m t0 t1 t2 t13a t15a t18 (Int.ofNat 0) t0 t50 h5))))
def S12 : SFn := fun D m args h u => nou u <| popI .i64 args fun t0 args => popI .u32 args fun t1 args => popI .u32 args fun t2 args => endA args (S12_3 D m t0 t1 t2 h)
theorem T12_0 (hE : FX x12 D m E) : S12_0 D m = e12_0 (E c12_0 []) := by unfold S12_0; rw [hE c12_0]; kernel_rfl
theorem T12_2 (hE : FX x12 D m E) : S12_2 D m = e12_2 (E c12_2 [.blk 0, .sj v12_0 c12_0]) := by unfold S12_2; rw [hE c12_2]; kernel_rfl
theorem T12_1 (hE : FX x12 D m E) : S12_1 D m = e12_1 (E c12_1 [.blk 0, .sj v12_0 c12_0]) := by unfold S12_1; rw [T12_2 hE, T12_0 hE, hE c12_1]; kernel_rfl
theorem T12_3 (hE : FX x12 D m E) : S12_3 D m = e12_3 (E c12_e []) := by unfold S12_3; rw [T12_1 hE, hE c12_e]; kernel_rfl
theorem X12 : XTie S12 x12 := X_of fun D m E hE args h u => by unfold S12; rw [T12_3 hE]; kernel_rfl
/- 13 -/
def c13_e : XC := (.sO [.mv p2 (.c (.str [])) .s] (.seq (.seq (.oX [.mv p3 q0 tI, .bn p4 .lss q3 (ci 0) .b, .mv p5 q4 .b, .ge p5 (XL.of [.G p5 true p6 (.mov q0) tI, .G p5 true p7 (.bin .gtr q6 (.c (.int .i64 (.negSucc 9)))) .b, .P p8 (.pick q5 q7 (cb false)) .b]) p8 .b]) (.cond q8 (.seq (.oX [.mv p9 q0 tI, .P p10 (.un .neg q9) tI, .cl p11 13 [q10] .s, .bn p12 .add (.c (.str [45])) q11 .s, .mv p2 q12 .s]) .ret) .skip)) (.seq (.seq (.oX [.mv p13 q0 tI, .bn p14 .lss q13 (ci 0) .b]) (.cond q14 (.seq (.oX [.mv p15 q0 tI, .bn p16 .quo q15 (ci 10) tI, .P p17 (.un .neg q16) tI, .cl p18 13 [q17] .s, .bn p19 .add (.c (.str [45])) q18 .s, .mv p20 q0 tI, .bn p21 .rem q20 (ci 10) tI, .P p22 (.un .neg q21) tI, .cl p23 13 [q22] .s, .bn p24 .add q19 q23 .s, .mv p2 q24 .s]) .ret) .skip)) (.seq (.seq (.oX [.mv p25 q0 tI, .bn p26 .lss q25 (ci 10) .b]) (.cond q26 (.seq (.oX [.mv p27 q0 tI, .bn p28 .add (ci 48) q27 tI, .P p29 (.conv (.ii .u8) q28) tC, .al p30 (.bsl [(.int .u8 (.ofNat 0))] 1 [⟨0, 1, q29⟩]), .L p31 (.bstr q30) .s, .mv p2 q31 .s]) .ret) .skip)) (.sO [.mv p32 q0 tI, .bn p33 .quo q32 (ci 10) tI, .cl p34 13 [q33] .s, .mv p35 q0 tI, .bn p36 .rem q35 (ci 10) tI, .cl p37 13 [q36] .s, .bn p38 .add q34 q37 .s, .mv p2 q38 .s] (.s .ret))))))
def x13 : XFn := ⟨[tI], false, [(.tmp p2)], c13_e⟩
def e13_0 (k t0 h) := kN k [(p0, (vI t0))] h
def S13_0 (D : CallD) (m : Nat) (t0 : Int) (h : HP) : Res2 :=
 let t4 := ltQ t0 (Int.ofNat 0)
 obB (brV t4 (
 let t7 := ltQ (Int.negSucc 9) t0
 some (vB t7)) (
 some (vB false))) fun t8 =>
 br t8 (
 let t10 := IntKind.wrap .i64 (0 - t0)
 cal D 13 [(vI t10)] h fun t11 h1 =>
 asS t11 fun t11a =>
 obS (strBin .add ([45] : LN) t11a) fun t12 =>
 some (.ret (vS t12) h1, .no)) (
 let t14 := ltQ t0 (Int.ofNat 0)
 br t14 (
 let t16 := wrapF .i64 (Int.tdiv t0 (Int.ofNat 10))
 let t17 := IntKind.wrap .i64 (0 - t16)
 cal D 13 [(vI t17)] h fun t18 h2 =>
 asS t18 fun t18a =>
 obS (strBin .add ([45] : LN) t18a) fun t19 =>
 let t21 := Int.tmod t0 (Int.ofNat 10)
 let t22 := IntKind.wrap .i64 (0 - t21)
 cal D 13 [(vI t22)] h2 fun t23 h3 =>
 asS t23 fun t23a =>
 obS (strBin .add t19 t23a) fun t24 =>
 some (.ret (vS t24) h3, .no)) (
 let t26 := ltQ t0 (Int.ofNat 10)
 br t26 (
 let t28 := wrQ .i64 (addQ (Int.ofNat 48) t0)
 let t29 := wrapF .u8 t28
 let t30 := AV.slice (HP.nxQ h) 0 1 (.exact 1)
 let h4 := HP.newQ h (.cells true [(vC t29)])
 obS (bstrV t30 h4) fun t31 =>
 some (.ret (vS t31) h4, .no)) (
 let t33 := wrapF .i64 (Int.tdiv t0 (Int.ofNat 10))
 cal D 13 [(vI t33)] h fun t34 h5 =>
 asS t34 fun t34a =>
 let t36 := Int.tmod t0 (Int.ofNat 10)
 cal D 13 [(vI t36)] h5 fun t37 h6 =>
 asS t37 fun t37a =>
 obS (strBin .add t34a t37a) fun t38 =>
 some (.ret (vS t38) h6, .no))))
def S13 : SFn := fun D m args h u => nou u <| popI .i64 args fun t0 args => endA args (S13_0 D m t0 h)
theorem T13_0 (hE : FX x13 D m E) : S13_0 D m = e13_0 (E c13_e []) := by unfold S13_0; rw [hE c13_e]; kernel_rfl
theorem X13 : XTie S13 x13 := X_of fun D m E hE args h u => by unfold S13; rw [T13_0 hE]; kernel_rfl
/- 20 -/
def v20_0 : List Pos := [p4]
def c20_0 : XC := (.sO [.mv p46 q4 .v, .mv p2 q46 .v, .mv p3 (cb true) .b] (.s .ret))
def v20_1 : List Pos := [p4, p16, p17, p18]
def c20_1b : XC := (.sO [.bn p19 .lss q18 q17 .b] (.seq (.cond q19 .skip (.exit 0)) (.seq (.block 1 (.seq (.oX [.P p20 (.iaddr (.sl 1) q16 q18) .v, .ld p21 q20 .s, .mv p6 q21 .s]) (.seq (.seq (.oX [.mv p22 q6 .s, .P p23 (.lens q22) tI, .bn p24 .gtr q23 (ci 3000) .b]) (.cond q24 (.seq (.oX [.mv p2 (.c .nils) .v, .mv p3 (cb false) .b]) .ret) .skip)) (.seq (.oX [.mv p26 q6 .s, .cl p27 48 [q26] .v, .mv p25 q27 .v, .P p28 (.ext q25 0) .v, .P p29 (.ext q25 1) tI, .P p30 (.ext q25 2) tI, .al p7 (.new [.nils]), .ss 1 q7 q28, .mv p8 q29 tI, .mv p9 q30 tI]) (.seq (.seq (.oX [.mv p31 q9 tI, .bn p32 .neq q31 (ci 0) .b]) (.cond q32 (.seq (.oX [.mv p2 (.c .nils) .v, .mv p3 (cb false) .b]) .ret) .skip)) (.seq (.oX [.L p34 (.cells 1 q7) .v, .cl p35 49 [q34] .v, .mv p33 q35 .v, .P p36 (.ext q33 0) .v, .P p37 (.ext q33 1) tI, .P p38 (.ext q33 2) tI, .al p10 (.new [.nils]), .ss 1 q10 q36, .mv p11 q37 tI, .mv p12 q38 tI]) (.seq (.seq (.oX [.mv p39 q12 tI, .bn p40 .neq q39 (ci 0) .b]) (.cond q40 (.seq (.oX [.mv p2 (.c .nils) .v, .mv p3 (cb false) .b]) .ret) .skip)) (.oX [.mv p41 q4 .v, .L p42 (.cells 1 q10) .v, .al p43 (.bsl [.nils] 1 [⟨0, 1, q42⟩]), .o ⟨(some p44), (.e (.app 1 24 q41 q43)), none, []⟩ .v, .mv p4 q44 .v])))))))) (.s (.oX [.bn p45 .add q18 (ci 1) tI, .mv p18 q45 tI])))))
def c20_e : XC := (.sO [.mv p2 (.c .nils) .v, .mv p3 (cb false) .b] (.sO [.mv p4 (.c .nils) .v] (.seq (.seq (.oX [.mv p13 q0 .v, .P p14 (.lenl q13) tI, .bn p15 .gtr q14 (ci 10) .b]) (.cond q15 (.seq (.oX [.mv p2 (.c .nils) .v, .mv p3 (cb false) .b]) .ret) .skip)) (.sj v20_0 (.sO [.mv p16 q0 .v, .P p17 (.lenl q16) tI, .mv p18 (ci 0) tI] (.block 0 (.loop v20_1 c20_1b))) c20_0))))
def x20 : XFn := ⟨[.v], false, [(.tmp p2), (.tmp p3)], c20_e⟩
def e20_0 (k t4 h) := kN k [(p4, t4)] h
def S20_0 (D : CallD) (m : Nat) (t4 : AV) (h : HP) : Res2 :=
 some (.ret (.tup [t4, (vB true)]) h, .no)
def e20_1 (k t4 t16 t17 t18 h) := kN k [(p4, t4), (p16, t16), (p17, (vI t17)), (p18, (vI t18))] h
def S20_1b (D : CallD) (m : Nat) (g1 : AV → AV → Int → Int → HP → Res2) (t4 t16 : AV) (t17 t18 : Int) (h : HP) : Res2 :=
 let t19 := ltQ t18 t17
 br t19 (
 iasC 1 t16 (vI t18) fun t20 =>
 ldS t20 h fun t21 =>
 let t23 := Int.ofNat (lenL t21)
 let t24 := ltQ (Int.ofNat 3000) t23
 br t24 (
 some (.ret (.tup [(.nils : AV), (vB false)]) h, .no)) (
 cal D 48 [(vS t21)] h fun t27 h3 =>
 extC t27 0 fun t28 =>
 extC t27 1 fun vt29 => asI .i64 vt29 fun t29 =>
 extC t27 2 fun vt30 => asI .i64 vt30 fun t30 =>
 let t7 := AV.ptr (HP.nxQ h3) 0
 let h4 := HP.newQ h3 (.cells true [.nils])
 stsC 1 t7 t28 h4 fun h5 =>
 let t32 := notQ (eqQ t30 (Int.ofNat 0))
 br t32 (
 some (.ret (.tup [(.nils : AV), (vB false)]) h5, .no)) (
 cellsC 1 t7 h5 fun t34 =>
 cal D 49 [t34] h5 fun t35 h6 =>
 extC t35 0 fun t36 =>
 extC t35 1 fun vt37 => asI .i64 vt37 fun t37 =>
 extC t35 2 fun vt38 => asI .i64 vt38 fun t38 =>
 let t10 := AV.ptr (HP.nxQ h6) 0
 let h7 := HP.newQ h6 (.cells true [.nils])
 stsC 1 t10 t36 h7 fun h8 =>
 let t40 := notQ (eqQ t38 (Int.ofNat 0))
 br t40 (
 some (.ret (.tup [(.nils : AV), (vB false)]) h8, .no)) (
 cellsC 1 t10 h8 fun t42 =>
 obQ (evA (.bsl [.nils] 1 [⟨0, 1, (.c t42)⟩]) .leaf) fun r9 =>
 let t43 := vkV r9.2 (HP.nxQ h8)
 let h10 := HP.newQ h8 r9.1
 eff (.app 1 24 (.c t4) (.c t43)) h10 fun t44 h11 =>
 let t45 := wrQ .i64 (addQ t18 (Int.ofNat 1))
 g1 t44 t16 t17 t45 h11)))) (
 S20_0 D m t4 h)
def S20_1 (D : CallD) (m : Nat) : AV → AV → Int → Int → HP → Res2 := nrec (fun _ _ _ _ _ => none) (fun _ g => S20_1b D m g) m
def e20_2 (k t0 h) := kN k [(p0, t0)] h
def S20_2 (D : CallD) (m : Nat) (t0 : AV) (h : HP) : Res2 :=
 lenC t0 fun vt14 => asI .i64 vt14 fun t14 =>
 let t15 := ltQ (Int.ofNat 10) t14
 br t15 (
 some (.ret (.tup [(.nils : AV), (vB false)]) h, .no)) (
 lenC t0 fun vt17 => asI .i64 vt17 fun t17 =>
 S20_1 D m (.nils : AV) t0 t17 (Int.ofNat 0) h)
def S20 : SFn := fun D m args h u => nou u <| popV args fun t0 args => endA args (S20_2 D m t0 h)
theorem T20_0 (hE : FX x20 D m E) : S20_0 D m = e20_0 (E c20_0 []) := by unfold S20_0; rw [hE c20_0]; kernel_rfl
theorem T20_1b (hE : FX x20 D m E) (G1) : S20_1b D m (e20_1 G1) = e20_1 (E c20_1b [.lp v20_1 G1, .blk 0, .sj v20_0 c20_0]) := by unfold S20_1b; rw [T20_0 hE, hE c20_1b]; kernel_rfl
theorem T20_1 (hE : FX x20 D m E) : S20_1 D m = e20_1 (nrec (fun _ => none) (fun _ G1 st => E c20_1b [.lp v20_1 G1, .blk 0, .sj v20_0 c20_0] st) m) :=
  nrec_emb e20_1 (fun _ _ _ _ _ => none) (fun g => S20_1b D m g) (fun G1 st => E c20_1b [.lp v20_1 G1, .blk 0, .sj v20_0 c20_0] st) rfl (fun g => T20_1b hE g) m
theorem T20_2 (hE : FX x20 D m E) : S20_2 D m = e20_2 (E c20_e []) := by unfold S20_2; rw [T20_1 hE, hE c20_e]; kernel_rfl
theorem X20 : XTie S20 x20 := X_of fun D m E hE args h u => by unfold S20; rw [T20_2 hE]; kernel_rfl
/- 21 -/
def v21_0 : List Pos := [p2, p8]
def c21_0 : XC := (.sO [.L p45 (.cells 2 q8) .v, .ss 2 q2 q45, .mv p3 (ci 0) tI, .mv p4 (ci 0) tI] (.s .ret))
def v21_2 : List Pos := [p2, p8, p25, p26, p27]
def c21_2 : XC := (.s (.oX [.bn p44 .add q27 (ci 1) tI, .mv p27 q44 tI]))
def v21_1 : List Pos := [p2, p8, p25, p26, p27]
def c21_1b : XC := (.sO [.bn p28 .lss q27 q26 .b] (.seq (.cond q28 .skip (.exit 0)) (.sj v21_2 (.block 1 (.sO [.P p29 (.iaddr (.sl 17) q25 q27) .v, .L p30 (.cells 17 q29) .v, .al p10 (.new [(.bool false), (.bool false), (.bool false), (.str []), (kI 0), (kI 0), .nils, (.bool false), .nils, (kI 0), .nils, .nils, (.str []), (kI 0), (kI 0), (kI 0), (kI 0)]), .ss 17 q10 q30] (.sO [.fa p31 0 q10, .ld p32 q31 .b, .mv p33 q32 .b, .ge p33 (XL.of [.G p33 true p34 (.faddr 7 q10) .v, .o ⟨(some p35), (.l (.cell q34)), (some (p33, true)), []⟩ .b, .P p36 (.pick q33 q35 (cb false)) .b]) p36 .b] (.cond q36 (.s (.ops true (XL.of [.fa p37 0 q8, .ld p38 q37 .v, .L p39 (.cells 17 q10) .v, .o ⟨(some p40), (.call (.fn 51) [q39]), none, [⟨none, .cell q37, p38⟩]⟩ .v, .al p41 (.bsl [(.str []), (.bool false), .nils, .nils, .nils, .nils] 1 [⟨0, 6, q40⟩]), .o ⟨(some p42), (.e (.app 6 120 q38 q41)), none, []⟩ .v, .fa p43 0 q8, .st q43 q42]))) (.s .skip))))) c21_2)))
def c21_e : XC := (.sO [.al p1 (.box q0), .al p2 (.new [.nils, .nils]), .mv p3 (ci 0) tI, .mv p4 (ci 0) tI] (.sO [.L p12 (.cells 1 q1) .v, .cl p13 50 [q12] .v, .mv p11 q13 .v, .P p14 (.ext q11 0) .v, .P p15 (.ext q11 1) tI, .P p16 (.ext q11 2) tI, .mv p5 q14 .v, .mv p6 q15 tI, .mv p7 q16 tI] (.seq (.seq (.oX [.mv p17 q7 tI, .bn p18 .neq q17 (ci 0) .b]) (.cond q18 (.seq (.oX [.P p19 (.build [.nils, .nils] []) .v, .mv p20 q6 tI, .mv p21 q7 tI, .ss 2 q2 q19, .mv p3 q20 tI, .mv p4 q21 tI]) .ret) .skip)) (.sO [.mv p22 q5 .v, .P p23 (.build [.nils, .nils] [⟨1, 1, q22⟩]) .v, .al p8 (.new [.nils, .nils]), .ss 2 q8 q23] (.sj v21_0 (.sO [.fa p24 0 q1, .ld p25 q24 .v, .P p26 (.lenl q25) tI, .mv p27 (ci 0) tI] (.block 0 (.loop v21_1 c21_1b))) c21_0)))))
def x21 : XFn := ⟨[.v], false, [(.cells 2 p2), (.tmp p3), (.tmp p4)], c21_e⟩
def e21_0 (k t2 t8 h) := kN k [(p2, t2), (p8, t8)] h
def S21_0 (D : CallD) (m : Nat) (t2 t8 : AV) (h : HP) : Res2 :=
 cellsC 2 t8 h fun t45 =>
 stsC 2 t2 t45 h fun h10 =>
 cellsC 2 t2 h10 fun t2a =>
 some (.ret (.tup [t2a, (vI (Int.ofNat 0)), (vI (Int.ofNat 0))]) h10, .no)
def e21_2 (k t2 t8 t25 t26 t27 h) := kN k [(p2, t2), (p8, t8), (p25, t25), (p26, (vI t26)), (p27, (vI t27))] h
def S21_2 (D : CallD) (m : Nat) (g1 : AV → AV → AV → Int → Int → HP → Res2) (t2 t8 t25 : AV) (t26 t27 : Int) (h : HP) : Res2 :=
 let t44 := wrQ .i64 (addQ t27 (Int.ofNat 1))
 g1 t2 t8 t25 t26 t44 h
def e21_1 (k t2 t8 t25 t26 t27 h) := kN k [(p2, t2), (p8, t8), (p25, t25), (p26, (vI t26)), (p27, (vI t27))] h
def S21_1b (D : CallD) (m : Nat) (g1 : AV → AV → AV → Int → Int → HP → Res2) (t2 t8 t25 : AV) (t26 t27 : Int) (h : HP) : Res2 :=
 let t28 := ltQ t27 t26
 br t28 (
 iasC 17 t25 (vI t27) fun t29 =>
 cellsC 17 t29 h fun t30 =>
 let t10 := AV.ptr (HP.nxQ h) 0
 let h11 := HP.newQ h (.cells true [(.bool false), (.bool false), (.bool false), (.str []), (kI 0), (kI 0), .nils, (.bool false), .nils, (kI 0), .nils, .nils, (.str []), (kI 0), (kI 0), (kI 0), (kI 0)])
 stsC 17 t10 t30 h11 fun h12 =>
 let t31 := (AV.ptr (HP.nxQ h) (Nat.add 0 0))
 ldB t31 h12 fun t32 =>
 obB (brV t32 (
 let t34 := (AV.ptr (HP.nxQ h) (Nat.add 0 7))
 ldBV t34 h12 fun t35 =>
 some (vB t35)) (
 some (vB false))) fun t36 =>
 br t36 (
 faC 0 t8 fun t37 =>
 cellC t37 h12 fun t38 =>
 cellsC 17 t10 h12 fun t39 =>
 cal D 51 [t39] h12 fun t40 h13 =>
 br (again [⟨none, .cell q37, p38⟩] (mkT [(p38, t38), (p37, t37)]) h13) (
 obQ (evA (.bsl [(.str []), (.bool false), .nils, .nils, .nils, .nils] 1 [⟨0, 6, (.c t40)⟩]) .leaf) fun r14 =>
 let t41 := vkV r14.2 (HP.nxQ h13)
 let h15 := HP.newQ h13 r14.1
 eff (.app 6 120 (.c t38) (.c t41)) h15 fun t42 h16 =>
 faC 0 t8 fun t43 =>
 stoC t43 t42 h16 fun h17 =>
 S21_2 D m g1 t2 t8 t25 t26 t27 h17) none) (
 S21_2 D m g1 t2 t8 t25 t26 t27 h12)) (
 S21_0 D m t2 t8 h)
def S21_1 (D : CallD) (m : Nat) : AV → AV → AV → Int → Int → HP → Res2 := nrec (fun _ _ _ _ _ _ => none) (fun _ g => S21_1b D m g) m
def e21_3 (k t0 h) := kN k [(p0, t0)] h
def S21_3 (D : CallD) (m : Nat) (t0 : AV) (h : HP) : Res2 :=
 let t1 := AV.ptr (HP.nxQ h) 0
 let h4 := HP.newQ h (.cells true (AV.cells t0))
 let t2 := AV.ptr (HP.nxQ h4) 0
 let h5 := HP.newQ h4 (.cells true [.nils, .nils])
 cellsC 1 t1 h5 fun t12 =>
 cal D 50 [t12] h5 fun t13 h6 =>
 extC t13 0 fun t14 =>
 extC t13 1 fun vt15 => asI .i64 vt15 fun t15 =>
 extC t13 2 fun vt16 => asI .i64 vt16 fun t16 =>
 let t18 := notQ (eqQ t16 (Int.ofNat 0))
 br t18 (
 let t19 := (AV.agg [(.nils : AV), (.nils : AV)])
 stsC 2 t2 t19 h6 fun h7 =>
 cellsC 2 t2 h7 fun t2a =>
 some (.ret (.tup [t2a, (vI t15), (vI t16)]) h7, .no)) (
 obQ (evP (.build [.nils, .nils] [⟨1, 1, (.c t14)⟩]) .leaf) fun t23 =>
 let t8 := AV.ptr (HP.nxQ h6) 0
 let h8 := HP.newQ h6 (.cells true [.nils, .nils])
 stsC 2 t8 t23 h8 fun h9 =>
 let t24 := (AV.ptr (HP.nxQ h) (Nat.add 0 0))
 cellC t24 h9 fun t25 =>
 lenC t25 fun vt26 => asI .i64 vt26 fun t26 =>
 S21_1 D m t2 t8 t25 t26 (Int.ofNat 0) h9)
def S21 : SFn := fun D m args h u => nou u <| popV args fun t0 args => endA args (S21_3 D m t0 h)
theorem T21_0 (hE : FX x21 D m E) : S21_0 D m = e21_0 (E c21_0 []) := by unfold S21_0; rw [hE c21_0]; kernel_rfl
theorem T21_2 (hE : FX x21 D m E) (G1) : S21_2 D m (e21_1 G1) = e21_2 (E c21_2 [.lp v21_1 G1, .blk 0, .sj v21_0 c21_0]) := by unfold S21_2; rw [hE c21_2]; kernel_rfl
theorem T21_1b (hE : FX x21 D m E) (G1) : S21_1b D m (e21_1 G1) = e21_1 (E c21_1b [.lp v21_1 G1, .blk 0, .sj v21_0 c21_0]) := by unfold S21_1b; rw [T21_2 hE G1, T21_0 hE, hE c21_1b]; kernel_rfl
theorem T21_1 (hE : FX x21 D m E) : S21_1 D m = e21_1 (nrec (fun _ => none) (fun _ G1 st => E c21_1b [.lp v21_1 G1, .blk 0, .sj v21_0 c21_0] st) m) :=
  nrec_emb e21_1 (fun _ _ _ _ _ _ => none) (fun g => S21_1b D m g) (fun G1 st => E c21_1b [.lp v21_1 G1, .blk 0, .sj v21_0 c21_0] st) rfl (fun g => T21_1b hE g) m
theorem T21_3 (hE : FX x21 D m E) : S21_3 D m = e21_3 (E c21_e []) := by unfold S21_3; rw [T21_1 hE, hE c21_e]; kernel_rfl
theorem X21 : XTie S21 x21 := X_of fun D m E hE args h u => by unfold S21; rw [T21_3 hE]; kernel_rfl
/- 23 -/
def v23_1 : List Pos := [p1, p2]
def c23_1 : XC := (.sO [.L p202 (.cells 8 q1) .v, .ss 8 q2 q202] (.s .ret))
def v23_3 : List Pos := [p1, p2, p96, p97]
def c23_3 : XC := (.s (.oX [.bn p201 .add q97 (ci 1) tI, .mv p97 q201 tI]))
def v23_5 : List Pos := [p1, p2, p8, p96, p97, p106, p107]
def c23_5 : XC := (.s (.oX [.bn p200 .add q107 (ci 1) tI, .mv p107 q200 tI]))
def v23_7 : List Pos := [p1, p2, p8, p9, p10, p96, p97, p106, p107, p147, p148]
def c23_7b : XC := (.sO [.bn p149 .lss q148 q147 .b] (.seq (.cond q149 .skip (.exit 12)) (.seq (.block 13 (.seq (.oX [.mv p150 q148 tI, .mv p12 q150 tI]) (.seq (.oX [.fa p151 3 q10, .ld p152 q151 .v, .mv p153 q12 tI, .P p154 (.iaddr (.sl 3) q152 q153) .v, .L p155 (.cells 3 q154) .v, .al p13 (.new [(kI 0), (.str []), (kI 0)]), .ss 3 q13 q155]) (.seq (.oX [.L p156 (.cells 8 q1) .v, .mv p157 q8 tI, .fa p158 1 q13, .ld p159 q158 .s, .cl p160 55 [q156, q157, q159] tI, .mv p14 q160 tI]) (.seq (.seq (.oX [.mv p161 q14 tI, .bn p162 .eql q161 (ci 0) .b, .mv p163 q162 .b, .ge p163 (XL.of [.G p163 false p164 (.faddr 0 q13) .v, .o ⟨(some p165), (.l (.cell q164)), (some (p163, false)), []⟩ tI, .G p163 false p166 (.bin .lss q165 (ci 0)) .b, .P p167 (.pick q163 (cb true) q166) .b]) p167 .b, .mv p168 q167 .b, .ge p168 (XL.of [.G p168 false p169 (.faddr 0 q13) .v, .o ⟨(some p170), (.l (.cell q169)), (some (p168, false)), []⟩ tI, .G p168 false p171 (.faddr 2 q10) .v, .o ⟨(some p172), (.l (.cell q171)), (some (p168, false)), []⟩ .v, .G p168 false p173 (.lenl q172) tI, .G p168 false p174 (.bin .sub q173 (ci 4)) tI, .G p168 false p175 (.bin .gtr q170 q174) .b, .P p176 (.pick q168 (cb true) q175) .b]) p176 .b]) (.cond q176 (.seq (.oX [.L p177 (.cells 8 q1) .v, .cl p178 25 [q177, (ci 2)] .v, .ss 8 q2 q178]) .ret) .skip)) (.ops true (XL.of [.L p179 (.cells 8 q1) .v, .fa p180 1 q1, .ld p181 q180 .v, .mv p182 q8 tI, .P p183 (.iaddr (.sl 1) q181 q182) .v, .ld p184 q183 .v, .mv p185 q9 tI, .P p186 (.iaddr (.sl 1) q184 q185) .v, .ld p187 q186 tI, .fa p188 0 q13, .ld p189 q188 tI, .bn p190 .add q187 q189 tI, .mv p191 q14 tI, .fa p193 2 q13, .ld p194 q193 tI, .o ⟨(some p192), (.call (.fn 28) [q191]), none, [⟨none, .cells 8 q1, p179⟩, ⟨none, .cell q180, p181⟩, ⟨none, .cell q183, p184⟩, ⟨none, .cell q186, p187⟩, ⟨none, .cell q188, p189⟩, ⟨none, .cell q193, p194⟩]⟩ tW, .o ⟨(some p195), (.call (.fn 28) [q194]), none, [⟨none, .cells 8 q1, p179⟩, ⟨none, .cell q180, p181⟩, ⟨none, .cell q183, p184⟩, ⟨none, .cell q186, p187⟩, ⟨none, .cell q188, p189⟩]⟩ tW, .bn p196 .add q192 q195 tW, .P p197 (.conv (.ii .u64) q196) (.i .u64), .cl p198 56 [q179, q190, (ci 4), q197] .v, .ss 8 q1 q198]))))))) (.s (.oX [.bn p199 .add q148 (ci 1) tI, .mv p148 q199 tI])))))
def v23_6 : List Pos := [p1, p2, p8, p9, p10, p96, p97, p106, p107]
def c23_6 : XC := (.sO [.fa p145 3 q10, .ld p146 q145 .v, .P p147 (.lenl q146) tI, .mv p148 (ci 0) tI] (.block 12 (.loop v23_7 c23_7b)))
def v23_8 : List Pos := [p1, p2, p8, p9, p10, p96, p97, p106, p107, p121, p122]
def c23_8b : XC := (.sO [.bn p123 .lss q122 q121 .b] (.seq (.cond q123 .skip (.exit 10)) (.seq (.block 11 (.seq (.oX [.mv p124 q122 tI, .mv p11 q124 tI]) (.ops true (XL.of [.fa p125 2 q1, .ld p126 q125 .v, .fa p127 1 q1, .ld p128 q127 .v, .mv p129 q8 tI, .P p130 (.iaddr (.sl 1) q128 q129) .v, .ld p131 q130 .v, .mv p132 q9 tI, .P p133 (.iaddr (.sl 1) q131 q132) .v, .ld p134 q133 tI, .bn p135 .sub q134 (ci 4096) tI, .mv p136 q11 tI, .bn p137 .add q135 q136 tI, .fa p138 2 q10, .ld p139 q138 .v, .mv p140 q11 tI, .P p141 (.iaddr (.sl 1) q139 q140) .v, .ld p142 q141 tC, .P p143 (.iaddr (.sl 1) q126 q137) .v, .st q143 q142])))) (.s (.oX [.bn p144 .add q122 (ci 1) tI, .mv p122 q144 tI])))))
def v23_4 : List Pos := [p1, p2, p8, p96, p97, p106, p107]
def c23_4b : XC := (.sO [.bn p108 .lss q107 q106 .b] (.seq (.cond q108 .skip (.exit 8)) (.sj v23_5 (.block 9 (.sO [.mv p109 q107 tI, .mv p9 q109 tI] (.sO [.fa p110 0 q1, .ld p111 q110 .v, .mv p112 q8 tI, .P p113 (.iaddr (.sl 2) q111 q112) .v, .fa p114 1 q113, .ld p115 q114 .v, .mv p116 q9 tI, .P p117 (.iaddr (.sl 4) q115 q116) .v, .L p118 (.cells 4 q117) .v, .al p10 (.new [(.str []), (.bool false), .nils, .nils]), .ss 4 q10 q118] (.sj v23_6 (.sO [.fa p119 2 q10, .ld p120 q119 .v, .P p121 (.lenl q120) tI, .mv p122 (ci 0) tI] (.block 10 (.loop v23_8 c23_8b))) c23_6)))) c23_5)))
def v23_2 : List Pos := [p1, p2, p96, p97]
def c23_2b : XC := (.sO [.bn p98 .lss q97 q96 .b] (.seq (.cond q98 .skip (.exit 6)) (.sj v23_3 (.block 7 (.sO [.mv p99 q97 tI, .mv p8 q99 tI] (.sO [.fa p100 0 q1, .ld p101 q100 .v, .mv p102 q8 tI, .P p103 (.iaddr (.sl 2) q101 q102) .v, .fa p104 1 q103, .ld p105 q104 .v, .P p106 (.lenl q105) tI, .mv p107 (ci 0) tI] (.block 8 (.loop v23_4 c23_4b))))) c23_3)))
def v23_0 : List Pos := [p1, p2, p3]
def c23_0 : XC := (.seq (.seq (.oX [.fa p82 7 q1, .ld p83 q82 tI, .bn p84 .geq q83 (ci 0) .b]) (.cond q84 (.seq (.oX [.L p85 (.cells 8 q1) .v, .ss 8 q2 q85]) .ret) .skip)) (.seq (.ops true (XL.of [.L p86 (.cells 8 q1) .v, .mv p87 q3 tI, .o ⟨(some p88), (.call (.fn 53) [q87, (ci 16)]), none, [⟨none, .cells 8 q1, p86⟩]⟩ tI, .cl p89 54 [q86, q88] .v, .ss 8 q1 q89])) (.seq (.seq (.oX [.fa p90 7 q1, .ld p91 q90 tI, .bn p92 .geq q91 (ci 0) .b]) (.cond q92 (.seq (.oX [.L p93 (.cells 8 q1) .v, .ss 8 q2 q93]) .ret) .skip)) (.sj v23_1 (.sO [.fa p94 0 q1, .ld p95 q94 .v, .P p96 (.lenl q95) tI, .mv p97 (ci 0) tI] (.block 6 (.loop v23_2 c23_2b))) c23_1))))
def v23_10 : List Pos := [p1, p2, p3, p17, p18]
def c23_10 : XC := (.s (.oX [.bn p81 .add q18 (ci 1) tI, .mv p18 q81 tI]))
def v23_12 : List Pos := [p1, p2, p3, p6, p17, p18]
def c23_12 : XC := (.s (.oX [.fa p75 1 q1, .ld p76 q75 .v, .mv p77 q6 .v, .al p78 (.bsl [.nils] 1 [⟨0, 1, q77⟩]), .o ⟨(some p79), (.e (.app 1 24 q76 q78)), none, []⟩ .v, .fa p80 1 q1, .st q80 q79]))
def v23_13 : List Pos := [p1, p2, p3, p4, p6, p17, p18, p51, p52]
def c23_13b : XC := (.sO [.bn p53 .lss q52 q51 .b] (.seq (.cond q53 .skip (.exit 4)) (.seq (.block 5 (.seq (.oX [.mv p54 q52 tI, .mv p7 q54 tI]) (.seq (.oX [.mv p55 q3 tI, .cl p56 53 [q55, (ci 8)] tI, .mv p3 q56 tI]) (.seq (.oX [.mv p57 q6 .v, .mv p58 q3 tI, .al p59 (.bsl [(kI 0)] 1 [⟨0, 1, q58⟩]), .o ⟨(some p60), (.e (.app 1 8 q57 q59)), none, []⟩ .v, .mv p6 q60 .v]) (.oX [.mv p61 q3 tI, .fa p62 0 q1, .ld p63 q62 .v, .mv p64 q4 tI, .P p65 (.iaddr (.sl 2) q63 q64) .v, .fa p66 1 q65, .ld p67 q66 .v, .mv p68 q7 tI, .P p69 (.iaddr (.sl 4) q67 q68) .v, .fa p70 2 q69, .ld p71 q70 .v, .P p72 (.lenl q71) tI, .bn p73 .add q61 q72 tI, .mv p3 q73 tI]))))) (.s (.oX [.bn p74 .add q52 (ci 1) tI, .mv p52 q74 tI])))))
def v23_11 : List Pos := [p1, p2, p3, p4, p17, p18]
def c23_11 : XC := (.sO [.mv p6 (.c .nils) .v] (.sj v23_12 (.sO [.fa p45 0 q1, .ld p46 q45 .v, .mv p47 q4 tI, .P p48 (.iaddr (.sl 2) q46 q47) .v, .fa p49 1 q48, .ld p50 q49 .v, .P p51 (.lenl q50) tI, .mv p52 (ci 0) tI] (.block 4 (.loop v23_13 c23_13b))) c23_12))
def v23_15 : List Pos := [p1, p2, p3, p4, p17, p18, p27, p28]
def c23_15 : XC := (.s (.oX [.bn p44 .add q28 (ci 1) tI, .mv p28 q44 tI]))
def v23_14 : List Pos := [p1, p2, p3, p4, p17, p18, p27, p28]
def c23_14b : XC := (.sO [.bn p29 .lss q28 q27 .b] (.seq (.cond q29 .skip (.exit 2)) (.sj v23_15 (.block 3 (.sO [.mv p30 q28 tI, .mv p5 q30 tI] (.sO [.fa p31 0 q1, .ld p32 q31 .v, .mv p33 q4 tI, .P p34 (.iaddr (.sl 2) q32 q33) .v, .fa p35 0 q34, .ld p36 q35 .v, .mv p37 q5 tI, .P p38 (.iaddr (.sl 6) q36 q37) .v, .L p39 (.cells 6 q38) .v, .cl p40 52 [q39] .b, .P p41 (.un .not q40) .b] (.cond q41 (.s (.oX [.L p42 (.cells 8 q1) .v, .cl p43 25 [q42, (ci 2)] .v, .ss 8 q1 q43])) (.s .skip))))) c23_15)))
def v23_9 : List Pos := [p1, p2, p3, p17, p18]
def c23_9b : XC := (.sO [.bn p19 .lss q18 q17 .b] (.seq (.cond q19 .skip (.exit 0)) (.sj v23_10 (.block 1 (.sO [.mv p20 q18 tI, .mv p4 q20 tI] (.sj v23_11 (.sO [.fa p21 0 q1, .ld p22 q21 .v, .mv p23 q4 tI, .P p24 (.iaddr (.sl 2) q22 q23) .v, .fa p25 0 q24, .ld p26 q25 .v, .P p27 (.lenl q26) tI, .mv p28 (ci 0) tI] (.block 2 (.loop v23_14 c23_14b))) c23_11))) c23_10)))
def c23_e : XC := (.sO [.al p1 (.box q0), .al p2 (.new [.nils, .nils, .nils, .nils, .nils, (kI 0), (kI 0), (kI 0)])] (.sO [.mv p3 (ci 4096) tI] (.sj v23_0 (.sO [.fa p15 0 q1, .ld p16 q15 .v, .P p17 (.lenl q16) tI, .mv p18 (ci 0) tI] (.block 0 (.loop v23_9 c23_9b))) c23_0)))
def x23 : XFn := ⟨[.v], false, [(.cells 8 p2)], c23_e⟩
def e23_1 (k t1 t2 h) := kN k [(p1, t1), (p2, t2)] h
def S23_1 (D : CallD) (m : Nat) (t1 t2 : AV) (h : HP) : Res2 :=
 cellsC 8 t1 h fun t202 =>
 stsC 8 t2 t202 h fun h24 =>
 cellsC 8 t2 h24 fun t2a =>
 some (.ret t2a h24, .no)
def e23_3 (k t1 t2 t96 t97 h) := kN k [(p1, t1), (p2, t2), (p96, (vI t96)), (p97, (vI t97))] h
def S23_3 (D : CallD) (m : Nat) (g2 : AV → AV → Int → Int → HP → Res2) (t1 t2 : AV) (t96 t97 : Int) (h : HP) : Res2 :=
 let t201 := wrQ .i64 (addQ t97 (Int.ofNat 1))
 g2 t1 t2 t96 t201 h
def e23_5 (k t1 t2 t8 t96 t97 t106 t107 h) := kN k [(p1, t1), (p2, t2), (p8, (vI t8)), (p96, (vI t96)), (p97, (vI t97)), (p106, (vI t106)), (p107, (vI t107))] h
def S23_5 (D : CallD) (m : Nat) (g4 : AV → AV → Int → Int → Int → Int → Int → HP → Res2) (g2 : AV → AV → Int → Int → HP → Res2) (t1 t2 : AV) (t8 t96 t97 t106 t107 : Int) (h : HP) : Res2 :=
 let t200 := wrQ .i64 (addQ t107 (Int.ofNat 1))
 g4 t1 t2 t8 t96 t97 t106 t200 h
def e23_7 (k t1 t2 t8 t9 t10 t96 t97 t106 t107 t147 t148 h) := kN k [(p1, t1), (p2, t2), (p8, (vI t8)), (p9, (vI t9)), (p10, t10), (p96, (vI t96)), (p97, (vI t97)), (p106, (vI t106)), (p107, (vI t107)), (p147, (vI t147)), (p148, (vI t148))] h
def S23_7b (D : CallD) (m : Nat) (g7 : AV → AV → Int → Int → AV → Int → Int → Int → Int → Int → Int → HP → Res2) (g4 : AV → AV → Int → Int → Int → Int → Int → HP → Res2) (g2 : AV → AV → Int → Int → HP → Res2) (t1 t2 : AV) (t8 t9 : Int) (t10 : AV) (t96 t97 t106 t107 t147 t148 : Int) (h : HP) : Res2 :=
 let t149 := ltQ t148 t147
 br t149 (
 faC 3 t10 fun t151 =>
 cellC t151 h fun t152 =>
 iasC 3 t152 (vI t148) fun t154 =>
 cellsC 3 t154 h fun t155 =>
 let t13 := AV.ptr (HP.nxQ h) 0
 let h27 := HP.newQ h (.cells true [(kI 0), (.str []), (kI 0)])
 stsC 3 t13 t155 h27 fun h28 =>
 cellsC 8 t1 h28 fun t156 =>
 let t158 := (AV.ptr (HP.nxQ h) (Nat.add 0 1))
 ldS t158 h28 fun t159 =>
 cal D 55 [t156, (vI t8), (vS t159)] h28 fun t160 h29 =>
 asI .i64 t160 fun t160a =>
 let t162 := eqQ t160a (Int.ofNat 0)
 obB (brV t162 (
 some (vB true)) (
 let t164 := (AV.ptr (HP.nxQ h) (Nat.add 0 0))
 ldIV t164 h29 fun t165 =>
 let t166 := ltQ t165 (Int.ofNat 0)
 some (vB t166))) fun t167 =>
 obB (brV t167 (
 some (vB true)) (
 let t169 := (AV.ptr (HP.nxQ h) (Nat.add 0 0))
 ldIV t169 h29 fun t170 =>
 faCV 2 t10 fun t171 =>
 cellCV t171 h29 fun t172 =>
 lenCV t172 fun vt173 => asIV .i64 vt173 fun t173 =>
 let t174 := wrQ .i64 (t173 - (Int.ofNat 4))
 let t175 := ltQ t174 t170
 some (vB t175))) fun t176 =>
 br t176 (
 cellsC 8 t1 h29 fun t177 =>
 cal D 25 [t177, (vI (Int.ofNat 2))] h29 fun t178 h30 =>
 stsC 8 t2 t178 h30 fun h31 =>
 cellsC 8 t2 h31 fun t2a =>
 some (.ret t2a h31, .no)) (
 cellsC 8 t1 h29 fun t179 =>
 faC 1 t1 fun t180 =>
 cellC t180 h29 fun t181 =>
 iasC 1 t181 (vI t8) fun t183 =>
 cellC t183 h29 fun t184 =>
 iasC 1 t184 (vI t9) fun t186 =>
 ldI t186 h29 fun t187 =>
 let t188 := (AV.ptr (HP.nxQ h) (Nat.add 0 0))
 ldI t188 h29 fun t189 =>
 let t190 := wrQ .i64 (addQ t187 t189)
 let t193 := (AV.ptr (HP.nxQ h) (Nat.add 0 2))
 ldI t193 h29 fun t194 =>
 cal D 28 [(vI t160a)] h29 fun t192 h32 =>
 br (again [⟨none, .cells 8 q1, p179⟩, ⟨none, .cell q180, p181⟩, ⟨none, .cell q183, p184⟩, ⟨none, .cell q186, p187⟩, ⟨none, .cell q188, p189⟩, ⟨none, .cell q193, p194⟩] (mkT [(p194, (vI t194)), (p193, t193), (p189, (vI t189)), (p188, t188), (p187, (vI t187)), (p186, t186), (p184, t184), (p183, t183), (p181, t181), (p180, t180), (p179, t179), (p1, t1)]) h32) (
 asI .u32 t192 fun t192a =>
 cal D 28 [(vI t194)] h32 fun t195 h33 =>
 br (again [⟨none, .cells 8 q1, p179⟩, ⟨none, .cell q180, p181⟩, ⟨none, .cell q183, p184⟩, ⟨none, .cell q186, p187⟩, ⟨none, .cell q188, p189⟩] (mkT [(p189, (vI t189)), (p188, t188), (p187, (vI t187)), (p186, t186), (p184, t184), (p183, t183), (p181, t181), (p180, t180), (p179, t179), (p1, t1)]) h33) (
 asI .u32 t195 fun t195a =>
 let t196 := wrQ .u32 (addQ t192a t195a)
 let t197 := wrapF .u64 t196
 cal D 56 [t179, (vI t190), (vI (Int.ofNat 4)), (AV.int .u64 t197)] h33 fun t198 h34 =>
 stsC 8 t1 t198 h34 fun h35 =>
 let t199 := wrQ .i64 (addQ t148 (Int.ofNat 1))
 g7 t1 t2 t8 t9 t10 t96 t97 t106 t107 t147 t199 h35) none) none)) (
 S23_5 D m g4 g2 t1 t2 t8 t96 t97 t106 t107 h)
def S23_7 (D : CallD) (m : Nat) (g4 : AV → AV → Int → Int → Int → Int → Int → HP → Res2) (g2 : AV → AV → Int → Int → HP → Res2) : AV → AV → Int → Int → AV → Int → Int → Int → Int → Int → Int → HP → Res2 := nrec (fun _ _ _ _ _ _ _ _ _ _ _ _ => none) (fun _ g => S23_7b D m g g4 g2) m
def e23_6 (k t1 t2 t8 t9 t10 t96 t97 t106 t107 h) := kN k [(p1, t1), (p2, t2), (p8, (vI t8)), (p9, (vI t9)), (p10, t10), (p96, (vI t96)), (p97, (vI t97)), (p106, (vI t106)), (p107, (vI t107))] h
def S23_6 (D : CallD) (m : Nat) (g4 : AV → AV → Int → Int → Int → Int → Int → HP → Res2) (g2 : AV → AV → Int → Int → HP → Res2) (t1 t2 : AV) (t8 t9 : Int) (t10 : AV) (t96 t97 t106 t107 : Int) (h : HP) : Res2 :=
 faC 3 t10 fun t145 =>
 cellC t145 h fun t146 =>
 lenC t146 fun vt147 => asI .i64 vt147 fun t147 =>
 S23_7 D m g4 g2 t1 t2 t8 t9 t10 t96 t97 t106 t107 t147 (Int.ofNat 0) h
def e23_8 (k t1 t2 t8 t9 t10 t96 t97 t106 t107 t121 t122 h) := kN k [(p1, t1), (p2, t2), (p8, (vI t8)), (p9, (vI t9)), (p10, t10), (p96, (vI t96)), (p97, (vI t97)), (p106, (vI t106)), (p107, (vI t107)), (p121, (vI t121)), (p122, (vI t122))] h
def S23_8b (D : CallD) (m : Nat) (g8 : AV → AV → Int → Int → AV → Int → Int → Int → Int → Int → Int → HP → Res2) (g4 : AV → AV → Int → Int → Int → Int → Int → HP → Res2) (g2 : AV → AV → Int → Int → HP → Res2) (t1 t2 : AV) (t8 t9 : Int) (t10 : AV) (t96 t97 t106 t107 t121 t122 : Int) (h : HP) : Res2 :=
 let t123 := ltQ t122 t121
 br t123 (
 faC 2 t1 fun t125 =>
 cellC t125 h fun t126 =>
 faC 1 t1 fun t127 =>
 cellC t127 h fun t128 =>
 iasC 1 t128 (vI t8) fun t130 =>
 cellC t130 h fun t131 =>
 iasC 1 t131 (vI t9) fun t133 =>
 ldI t133 h fun t134 =>
 let t135 := wrQ .i64 (t134 - (Int.ofNat 4096))
 let t137 := wrQ .i64 (addQ t135 t122)
 faC 2 t10 fun t138 =>
 cellC t138 h fun t139 =>
 iasC 1 t139 (vI t122) fun t141 =>
 ldC t141 h fun t142 =>
 iasC 1 t126 (vI t137) fun t143 =>
 stoC t143 (vC t142) h fun h36 =>
 let t144 := wrQ .i64 (addQ t122 (Int.ofNat 1))
 g8 t1 t2 t8 t9 t10 t96 t97 t106 t107 t121 t144 h36) (
 S23_6 D m g4 g2 t1 t2 t8 t9 t10 t96 t97 t106 t107 h)
def S23_8 (D : CallD) (m : Nat) (g4 : AV → AV → Int → Int → Int → Int → Int → HP → Res2) (g2 : AV → AV → Int → Int → HP → Res2) : AV → AV → Int → Int → AV → Int → Int → Int → Int → Int → Int → HP → Res2 := nrec (fun _ _ _ _ _ _ _ _ _ _ _ _ => none) (fun _ g => S23_8b D m g g4 g2) m
def e23_4 (k t1 t2 t8 t96 t97 t106 t107 h) := kN k [(p1, t1), (p2, t2), (p8, (vI t8)), (p96, (vI t96)), (p97, (vI t97)), (p106, (vI t106)), (p107, (vI t107))] h
def S23_4b (D : CallD) (m : Nat) (g4 : AV → AV → Int → Int → Int → Int → Int → HP → Res2) (g2 : AV → AV → Int → Int → HP → Res2) (t1 t2 : AV) (t8 t96 t97 t106 t107 : Int) (h : HP) : Res2 :=
 let t108 := ltQ t107 t106
 br t108 (
 faC 0 t1 fun t110 =>
 cellC t110 h fun t111 =>
 iasC 2 t111 (vI t8) fun t113 =>
 faC 1 t113 fun t114 =>
 cellC t114 h fun t115 =>
 iasC 4 t115 (vI t107) fun t117 =>
 cellsC 4 t117 h fun t118 =>
 let t10 := AV.ptr (HP.nxQ h) 0
 let h25 := HP.newQ h (.cells true [(.str []), (.bool false), .nils, .nils])
 stsC 4 t10 t118 h25 fun h26 =>
 let t119 := (AV.ptr (HP.nxQ h) (Nat.add 0 2))
 cellC t119 h26 fun t120 =>
 lenC t120 fun vt121 => asI .i64 vt121 fun t121 =>
 S23_8 D m g4 g2 t1 t2 t8 t107 t10 t96 t97 t106 t107 t121 (Int.ofNat 0) h26) (
 S23_3 D m g2 t1 t2 t96 t97 h)
def S23_4 (D : CallD) (m : Nat) (g2 : AV → AV → Int → Int → HP → Res2) : AV → AV → Int → Int → Int → Int → Int → HP → Res2 := nrec (fun _ _ _ _ _ _ _ _ => none) (fun _ g => S23_4b D m g g2) m
def e23_2 (k t1 t2 t96 t97 h) := kN k [(p1, t1), (p2, t2), (p96, (vI t96)), (p97, (vI t97))] h
def S23_2b (D : CallD) (m : Nat) (g2 : AV → AV → Int → Int → HP → Res2) (t1 t2 : AV) (t96 t97 : Int) (h : HP) : Res2 :=
 let t98 := ltQ t97 t96
 br t98 (
 faC 0 t1 fun t100 =>
 cellC t100 h fun t101 =>
 iasC 2 t101 (vI t97) fun t103 =>
 faC 1 t103 fun t104 =>
 cellC t104 h fun t105 =>
 lenC t105 fun vt106 => asI .i64 vt106 fun t106 =>
 S23_4 D m g2 t1 t2 t97 t96 t97 t106 (Int.ofNat 0) h) (
 S23_1 D m t1 t2 h)
def S23_2 (D : CallD) (m : Nat) : AV → AV → Int → Int → HP → Res2 := nrec (fun _ _ _ _ _ => none) (fun _ g => S23_2b D m g) m
def e23_0 (k t1 t2 t3 h) := kN k [(p1, t1), (p2, t2), (p3, (vI t3))] h
def S23_0 (D : CallD) (m : Nat) (t1 t2 : AV) (t3 : Int) (h : HP) : Res2 :=
 faC 7 t1 fun t82 =>
 ldI t82 h fun t83 =>
 let t84 := leQ (Int.ofNat 0) t83
 br t84 (
 cellsC 8 t1 h fun t85 =>
 stsC 8 t2 t85 h fun h19 =>
 cellsC 8 t2 h19 fun t2a =>
 some (.ret t2a h19, .no)) (
 cellsC 8 t1 h fun t86 =>
 cal D 53 [(vI t3), (vI (Int.ofNat 16))] h fun t88 h20 =>
 br (again [⟨none, .cells 8 q1, p86⟩] (mkT [(p86, t86), (p1, t1)]) h20) (
 asI .i64 t88 fun t88a =>
 cal D 54 [t86, (vI t88a)] h20 fun t89 h21 =>
 stsC 8 t1 t89 h21 fun h22 =>
 faC 7 t1 fun t90 =>
 ldI t90 h22 fun t91 =>
 let t92 := leQ (Int.ofNat 0) t91
 br t92 (
 cellsC 8 t1 h22 fun t93 =>
 stsC 8 t2 t93 h22 fun h23 =>
 cellsC 8 t2 h23 fun t2a =>
 some (.ret t2a h23, .no)) (
 faC 0 t1 fun t94 =>
 cellC t94 h22 fun t95 =>
 lenC t95 fun vt96 => asI .i64 vt96 fun t96 =>
 S23_2 D m t1 t2 t96 (Int.ofNat 0) h22)) none)
def e23_10 (k t1 t2 t3 t17 t18 h) := kN k [(p1, t1), (p2, t2), (p3, (vI t3)), (p17, (vI t17)), (p18, (vI t18))] h
def S23_10 (D : CallD) (m : Nat) (g9 : AV → AV → Int → Int → Int → HP → Res2) (t1 t2 : AV) (t3 t17 t18 : Int) (h : HP) : Res2 :=
 let t81 := wrQ .i64 (addQ t18 (Int.ofNat 1))
 g9 t1 t2 t3 t17 t81 h
def e23_12 (k t1 t2 t3 t6 t17 t18 h) := kN k [(p1, t1), (p2, t2), (p3, (vI t3)), (p6, t6), (p17, (vI t17)), (p18, (vI t18))] h
def S23_12 (D : CallD) (m : Nat) (g9 : AV → AV → Int → Int → Int → HP → Res2) (t1 t2 : AV) (t3 : Int) (t6 : AV) (t17 t18 : Int) (h : HP) : Res2 :=
 faC 1 t1 fun t75 =>
 cellC t75 h fun t76 =>
 obQ (evA (.bsl [.nils] 1 [⟨0, 1, (.c t6)⟩]) .leaf) fun r37 =>
 let t78 := vkV r37.2 (HP.nxQ h)
 let h38 := HP.newQ h r37.1
 eff (.app 1 24 (.c t76) (.c t78)) h38 fun t79 h39 =>
 faC 1 t1 fun t80 =>
 stoC t80 t79 h39 fun h40 =>
 S23_10 D m g9 t1 t2 t3 t17 t18 h40
def e23_13 (k t1 t2 t3 t4 t6 t17 t18 t51 t52 h) := kN k [(p1, t1), (p2, t2), (p3, (vI t3)), (p4, (vI t4)), (p6, t6), (p17, (vI t17)), (p18, (vI t18)), (p51, (vI t51)), (p52, (vI t52))] h
def S23_13b (D : CallD) (m : Nat) (g13 : AV → AV → Int → Int → AV → Int → Int → Int → Int → HP → Res2) (g9 : AV → AV → Int → Int → Int → HP → Res2) (t1 t2 : AV) (t3 t4 : Int) (t6 : AV) (t17 t18 t51 t52 : Int) (h : HP) : Res2 :=
 let t53 := ltQ t52 t51
 br t53 (
 cal D 53 [(vI t3), (vI (Int.ofNat 8))] h fun t56 h41 =>
 asI .i64 t56 fun t56a =>
 let t59 := AV.slice (HP.nxQ h41) 0 1 (.exact 1)
 let h42 := HP.newQ h41 (.cells true [(vI t56a)])
 eff (.app 1 8 (.c t6) (.c t59)) h42 fun t60 h43 =>
 faC 0 t1 fun t62 =>
 cellC t62 h43 fun t63 =>
 iasC 2 t63 (vI t4) fun t65 =>
 faC 1 t65 fun t66 =>
 cellC t66 h43 fun t67 =>
 iasC 4 t67 (vI t52) fun t69 =>
 faC 2 t69 fun t70 =>
 cellC t70 h43 fun t71 =>
 lenC t71 fun vt72 => asI .i64 vt72 fun t72 =>
 let t73 := wrQ .i64 (addQ t56a t72)
 let t74 := wrQ .i64 (addQ t52 (Int.ofNat 1))
 g13 t1 t2 t73 t4 t60 t17 t18 t51 t74 h43) (
 S23_12 D m g9 t1 t2 t3 t6 t17 t18 h)
def S23_13 (D : CallD) (m : Nat) (g9 : AV → AV → Int → Int → Int → HP → Res2) : AV → AV → Int → Int → AV → Int → Int → Int → Int → HP → Res2 := nrec (fun _ _ _ _ _ _ _ _ _ _ => none) (fun _ g => S23_13b D m g g9) m
def e23_11 (k t1 t2 t3 t4 t17 t18 h) := kN k [(p1, t1), (p2, t2), (p3, (vI t3)), (p4, (vI t4)), (p17, (vI t17)), (p18, (vI t18))] h
def S23_11 (D : CallD) (m : Nat) (g9 : AV → AV → Int → Int → Int → HP → Res2) (t1 t2 : AV) (t3 t4 t17 t18 : Int) (h : HP) : Res2 :=
 faC 0 t1 fun t45 =>
 cellC t45 h fun t46 =>
 iasC 2 t46 (vI t4) fun t48 =>
 faC 1 t48 fun t49 =>
 cellC t49 h fun t50 =>
 lenC t50 fun vt51 => asI .i64 vt51 fun t51 =>
 S23_13 D m g9 t1 t2 t3 t4 (.nils : AV) t17 t18 t51 (Int.ofNat 0) h
def e23_15 (k t1 t2 t3 t4 t17 t18 t27 t28 h) := kN k [(p1, t1), (p2, t2), (p3, (vI t3)), (p4, (vI t4)), (p17, (vI t17)), (p18, (vI t18)), (p27, (vI t27)), (p28, (vI t28))] h
def S23_15 (D : CallD) (m : Nat) (g14 : AV → AV → Int → Int → Int → Int → Int → Int → HP → Res2) (g9 : AV → AV → Int → Int → Int → HP → Res2) (t1 t2 : AV) (t3 t4 t17 t18 t27 t28 : Int) (h : HP) : Res2 :=
 let t44 := wrQ .i64 (addQ t28 (Int.ofNat 1))
 g14 t1 t2 t3 t4 t17 t18 t27 t44 h
def e23_14 (k t1 t2 t3 t4 t17 t18 t27 t28 h) := kN k [(p1, t1), (p2, t2), (p3, (vI t3)), (p4, (vI t4)), (p17, (vI t17)), (p18, (vI t18)), (p27, (vI t27)), (p28, (vI t28))] h
def S23_14b (D : CallD) (m : Nat) (g14 : AV → AV → Int → Int → Int → Int → Int → Int → HP → Res2) (g9 : AV → AV → Int → Int → Int → HP → Res2) (t1 t2 : AV) (t3 t4 t17 t18 t27 t28 : Int) (h : HP) : Res2 :=
 let t29 := ltQ t28 t27
 br t29 (
 faC 0 t1 fun t31 =>
 cellC t31 h fun t32 =>
 iasC 2 t32 (vI t4) fun t34 =>
 faC 0 t34 fun t35 =>
 cellC t35 h fun t36 =>
 iasC 6 t36 (vI t28) fun t38 =>
 cellsC 6 t38 h fun t39 =>
 cal D 52 [t39] h fun t40 h44 =>
 asB t40 fun t40a =>
 let t41 := !t40a
 br t41 (
 cellsC 8 t1 h44 fun t42 =>
 cal D 25 [t42, (vI (Int.ofNat 2))] h44 fun t43 h45 =>
 stsC 8 t1 t43 h45 fun h46 =>
 S23_15 D m g14 g9 t1 t2 t3 t4 t17 t18 t27 t28 h46) (
 S23_15 D m g14 g9 t1 t2 t3 t4 t17 t18 t27 t28 h44)) (
 S23_11 D m g9 t1 t2 t3 t4 t17 t18 h)
def S23_14 (D : CallD) (m : Nat) (g9 : AV → AV → Int → Int → Int → HP → Res2) : AV → AV → Int → Int → Int → Int → Int → Int → HP → Res2 := nrec (fun _ _ _ _ _ _ _ _ _ => none) (fun _ g => S23_14b D m g g9) m
def e23_9 (k t1 t2 t3 t17 t18 h) := kN k [(p1, t1), (p2, t2), (p3, (vI t3)), (p17, (vI t17)), (p18, (vI t18))] h
def S23_9b (D : CallD) (m : Nat) (g9 : AV → AV → Int → Int → Int → HP → Res2) (t1 t2 : AV) (t3 t17 t18 : Int) (h : HP) : Res2 :=
 let t19 := ltQ t18 t17
 br t19 (
 faC 0 t1 fun t21 =>
 cellC t21 h fun t22 =>
 iasC 2 t22 (vI t18) fun t24 =>
 faC 0 t24 fun t25 =>
 cellC t25 h fun t26 =>
 lenC t26 fun vt27 => asI .i64 vt27 fun t27 =>
 S23_14 D m g9 t1 t2 t3 t18 t17 t18 t27 (Int.ofNat 0) h) (
 S23_0 D m t1 t2 t3 h)
def S23_9 (D : CallD) (m : Nat) : AV → AV → Int → Int → Int → HP → Res2 := nrec (fun _ _ _ _ _ _ => none) (fun _ g => S23_9b D m g) m
def e23_16 (k t0 h) := kN k [(p0, t0)] h
def S23_16 (D : CallD) (m : Nat) (t0 : AV) (h : HP) : Res2 :=
 let t1 := AV.ptr (HP.nxQ h) 0
 let h17 := HP.newQ h (.cells true (AV.cells t0))
 let t2 := AV.ptr (HP.nxQ h17) 0
 let h18 := HP.newQ h17 (.cells true [.nils, .nils, .nils, .nils, .nils, (kI 0), (kI 0), (kI 0)])
 let t15 := (AV.ptr (HP.nxQ h) (Nat.add 0 0))
 cellC t15 h18 fun t16 =>
 lenC t16 fun vt17 => asI .i64 vt17 fun t17 =>
 S23_9 D m t1 t2 (Int.ofNat 4096) t17 (Int.ofNat 0) h18
def S23 : SFn := fun D m args h u => nou u <| popV args fun t0 args => endA args (S23_16 D m t0 h)
theorem T23_1 (hE : FX x23 D m E) : S23_1 D m = e23_1 (E c23_1 []) := by unfold S23_1; rw [hE c23_1]; kernel_rfl
theorem T23_3 (hE : FX x23 D m E) (G2) : S23_3 D m (e23_2 G2) = e23_3 (E c23_3 [.lp v23_2 G2, .blk 6, .sj v23_1 c23_1]) := by unfold S23_3; rw [hE c23_3]; kernel_rfl
theorem T23_5 (hE : FX x23 D m E) (G4) (G2) : S23_5 D m (e23_4 G4) (e23_2 G2) = e23_5 (E c23_5 [.lp v23_4 G4, .blk 8, .blk 7, .sj v23_3 c23_3, .lp v23_2 G2, .blk 6, .sj v23_1 c23_1]) := by unfold S23_5; rw [hE c23_5]; kernel_rfl
theorem T23_7b (hE : FX x23 D m E) (G7) (G4) (G2) : S23_7b D m (e23_7 G7) (e23_4 G4) (e23_2 G2) = e23_7 (E c23_7b [.lp v23_7 G7, .blk 12, .blk 9, .sj v23_5 c23_5, .lp v23_4 G4, .blk 8, .blk 7, .sj v23_3 c23_3, .lp v23_2 G2, .blk 6, .sj v23_1 c23_1]) := by unfold S23_7b; rw [T23_5 hE G4 G2, hE c23_7b]; kernel_rfl
theorem T23_7 (hE : FX x23 D m E) (G4) (G2) : S23_7 D m (e23_4 G4) (e23_2 G2) = e23_7 (nrec (fun _ => none) (fun _ G7 st => E c23_7b [.lp v23_7 G7, .blk 12, .blk 9, .sj v23_5 c23_5, .lp v23_4 G4, .blk 8, .blk 7, .sj v23_3 c23_3, .lp v23_2 G2, .blk 6, .sj v23_1 c23_1] st) m) :=
  nrec_emb e23_7 (fun _ _ _ _ _ _ _ _ _ _ _ _ => none) (fun g => S23_7b D m g (e23_4 G4) (e23_2 G2)) (fun G7 st => E c23_7b [.lp v23_7 G7, .blk 12, .blk 9, .sj v23_5 c23_5, .lp v23_4 G4, .blk 8, .blk 7, .sj v23_3 c23_3, .lp v23_2 G2, .blk 6, .sj v23_1 c23_1] st) rfl (fun g => T23_7b hE g G4 G2) m
theorem T23_6 (hE : FX x23 D m E) (G4) (G2) : S23_6 D m (e23_4 G4) (e23_2 G2) = e23_6 (E c23_6 [.blk 9, .sj v23_5 c23_5, .lp v23_4 G4, .blk 8, .blk 7, .sj v23_3 c23_3, .lp v23_2 G2, .blk 6, .sj v23_1 c23_1]) := by unfold S23_6; rw [T23_7 hE G4 G2, hE c23_6]; kernel_rfl
theorem T23_8b (hE : FX x23 D m E) (G8) (G4) (G2) : S23_8b D m (e23_8 G8) (e23_4 G4) (e23_2 G2) = e23_8 (E c23_8b [.lp v23_8 G8, .blk 10, .sj v23_6 c23_6, .blk 9, .sj v23_5 c23_5, .lp v23_4 G4, .blk 8, .blk 7, .sj v23_3 c23_3, .lp v23_2 G2, .blk 6, .sj v23_1 c23_1]) := by unfold S23_8b; rw [T23_6 hE G4 G2, hE c23_8b]; kernel_rfl
theorem T23_8 (hE : FX x23 D m E) (G4) (G2) : S23_8 D m (e23_4 G4) (e23_2 G2) = e23_8 (nrec (fun _ => none) (fun _ G8 st => E c23_8b [.lp v23_8 G8, .blk 10, .sj v23_6 c23_6, .blk 9, .sj v23_5 c23_5, .lp v23_4 G4, .blk 8, .blk 7, .sj v23_3 c23_3, .lp v23_2 G2, .blk 6, .sj v23_1 c23_1] st) m) :=
  nrec_emb e23_8 (fun _ _ _ _ _ _ _ _ _ _ _ _ => none) (fun g => S23_8b D m g (e23_4 G4) (e23_2 G2)) (fun G8 st => E c23_8b [.lp v23_8 G8, .blk 10, .sj v23_6 c23_6, .blk 9, .sj v23_5 c23_5, .lp v23_4 G4, .blk 8, .blk 7, .sj v23_3 c23_3, .lp v23_2 G2, .blk 6, .sj v23_1 c23_1] st) rfl (fun g => T23_8b hE g G4 G2) m
theorem T23_4b (hE : FX x23 D m E) (G4) (G2) : S23_4b D m (e23_4 G4) (e23_2 G2) = e23_4 (E c23_4b [.lp v23_4 G4, .blk 8, .blk 7, .sj v23_3 c23_3, .lp v23_2 G2, .blk 6, .sj v23_1 c23_1]) := by unfold S23_4b; rw [T23_8 hE G4 G2, T23_3 hE G2, hE c23_4b]; kernel_rfl
theorem T23_4 (hE : FX x23 D m E) (G2) : S23_4 D m (e23_2 G2) = e23_4 (nrec (fun _ => none) (fun _ G4 st => E c23_4b [.lp v23_4 G4, .blk 8, .blk 7, .sj v23_3 c23_3, .lp v23_2 G2, .blk 6, .sj v23_1 c23_1] st) m) :=
  nrec_emb e23_4 (fun _ _ _ _ _ _ _ _ => none) (fun g => S23_4b D m g (e23_2 G2)) (fun G4 st => E c23_4b [.lp v23_4 G4, .blk 8, .blk 7, .sj v23_3 c23_3, .lp v23_2 G2, .blk 6, .sj v23_1 c23_1] st) rfl (fun g => T23_4b hE g G2) m
theorem T23_2b (hE : FX x23 D m E) (G2) : S23_2b D m (e23_2 G2) = e23_2 (E c23_2b [.lp v23_2 G2, .blk 6, .sj v23_1 c23_1]) := by unfold S23_2b; rw [T23_4 hE G2, T23_1 hE, hE c23_2b]; kernel_rfl
theorem T23_2 (hE : FX x23 D m E) : S23_2 D m = e23_2 (nrec (fun _ => none) (fun _ G2 st => E c23_2b [.lp v23_2 G2, .blk 6, .sj v23_1 c23_1] st) m) :=
  nrec_emb e23_2 (fun _ _ _ _ _ => none) (fun g => S23_2b D m g) (fun G2 st => E c23_2b [.lp v23_2 G2, .blk 6, .sj v23_1 c23_1] st) rfl (fun g => T23_2b hE g) m
theorem T23_0 (hE : FX x23 D m E) : S23_0 D m = e23_0 (E c23_0 []) := by unfold S23_0; rw [T23_2 hE, hE c23_0]; kernel_rfl
theorem T23_10 (hE : FX x23 D m E) (G9) : S23_10 D m (e23_9 G9) = e23_10 (E c23_10 [.lp v23_9 G9, .blk 0, .sj v23_0 c23_0]) := by unfold S23_10; rw [hE c23_10]; kernel_rfl
theorem T23_12 (hE : FX x23 D m E) (G9) : S23_12 D m (e23_9 G9) = e23_12 (E c23_12 [.blk 1, .sj v23_10 c23_10, .lp v23_9 G9, .blk 0, .sj v23_0 c23_0]) := by unfold S23_12; rw [T23_10 hE G9, hE c23_12]; kernel_rfl
theorem T23_13b (hE : FX x23 D m E) (G13) (G9) : S23_13b D m (e23_13 G13) (e23_9 G9) = e23_13 (E c23_13b [.lp v23_13 G13, .blk 4, .sj v23_12 c23_12, .blk 1, .sj v23_10 c23_10, .lp v23_9 G9, .blk 0, .sj v23_0 c23_0]) := by unfold S23_13b; rw [T23_12 hE G9, hE c23_13b]; kernel_rfl
theorem T23_13 (hE : FX x23 D m E) (G9) : S23_13 D m (e23_9 G9) = e23_13 (nrec (fun _ => none) (fun _ G13 st => E c23_13b [.lp v23_13 G13, .blk 4, .sj v23_12 c23_12, .blk 1, .sj v23_10 c23_10, .lp v23_9 G9, .blk 0, .sj v23_0 c23_0] st) m) :=
  nrec_emb e23_13 (fun _ _ _ _ _ _ _ _ _ _ => none) (fun g => S23_13b D m g (e23_9 G9)) (fun G13 st => E c23_13b [.lp v23_13 G13, .blk 4, .sj v23_12 c23_12, .blk 1, .sj v23_10 c23_10, .lp v23_9 G9, .blk 0, .sj v23_0 c23_0] st) rfl (fun g => T23_13b hE g G9) m
theorem T23_11 (hE : FX x23 D m E) (G9) : S23_11 D m (e23_9 G9) = e23_11 (E c23_11 [.blk 1, .sj v23_10 c23_10, .lp v23_9 G9, .blk 0, .sj v23_0 c23_0]) := by unfold S23_11; rw [T23_13 hE G9, hE c23_11]; kernel_rfl
theorem T23_15 (hE : FX x23 D m E) (G14) (G9) : S23_15 D m (e23_14 G14) (e23_9 G9) = e23_15 (E c23_15 [.lp v23_14 G14, .blk 2, .sj v23_11 c23_11, .blk 1, .sj v23_10 c23_10, .lp v23_9 G9, .blk 0, .sj v23_0 c23_0]) := by unfold S23_15; rw [hE c23_15]; kernel_rfl
theorem T23_14b (hE : FX x23 D m E) (G14) (G9) : S23_14b D m (e23_14 G14) (e23_9 G9) = e23_14 (E c23_14b [.lp v23_14 G14, .blk 2, .sj v23_11 c23_11, .blk 1, .sj v23_10 c23_10, .lp v23_9 G9, .blk 0, .sj v23_0 c23_0]) := by unfold S23_14b; rw [T23_15 hE G14 G9, T23_11 hE G9, hE c23_14b]; kernel_rfl
theorem T23_14 (hE : FX x23 D m E) (G9) : S23_14 D m (e23_9 G9) = e23_14 (nrec (fun _ => none) (fun _ G14 st => E c23_14b [.lp v23_14 G14, .blk 2, .sj v23_11 c23_11, .blk 1, .sj v23_10 c23_10, .lp v23_9 G9, .blk 0, .sj v23_0 c23_0] st) m) :=
  nrec_emb e23_14 (fun _ _ _ _ _ _ _ _ _ => none) (fun g => S23_14b D m g (e23_9 G9)) (fun G14 st => E c23_14b [.lp v23_14 G14, .blk 2, .sj v23_11 c23_11, .blk 1, .sj v23_10 c23_10, .lp v23_9 G9, .blk 0, .sj v23_0 c23_0] st) rfl (fun g => T23_14b hE g G9) m
theorem T23_9b (hE : FX x23 D m E) (G9) : S23_9b D m (e23_9 G9) = e23_9 (E c23_9b [.lp v23_9 G9, .blk 0, .sj v23_0 c23_0]) := by unfold S23_9b; rw [T23_14 hE G9, T23_0 hE, hE c23_9b]; kernel_rfl
theorem T23_9 (hE : FX x23 D m E) : S23_9 D m = e23_9 (nrec (fun _ => none) (fun _ G9 st => E c23_9b [.lp v23_9 G9, .blk 0, .sj v23_0 c23_0] st) m) :=
  nrec_emb e23_9 (fun _ _ _ _ _ _ => none) (fun g => S23_9b D m g) (fun G9 st => E c23_9b [.lp v23_9 G9, .blk 0, .sj v23_0 c23_0] st) rfl (fun g => T23_9b hE g) m
theorem T23_16 (hE : FX x23 D m E) : S23_16 D m = e23_16 (E c23_e []) := by unfold S23_16; rw [T23_9 hE, hE c23_e]; kernel_rfl
theorem X23 : XTie S23 x23 := X_of fun D m E hE args h u => by unfold S23; rw [T23_16 hE]; kernel_rfl
/- 24 -/
def v24_0 : List Pos := [p6]
def c24_0 : XC := (.sO [.P p70 (.build [(.str []), (.bool false), .nils, .nils, .nils, .nils] []) .v, .ss 6 q6 q70, .mv p7 (.c (.int .i64 (.negSucc 0))) tI] (.s .ret))
def v24_2 : List Pos := [p1, p2, p3, p6, p8]
def c24_2 : XC := (.s (.oX [.mv p14 q8 tI, .bn p15 .add q14 (ci 1) tI, .mv p8 q15 tI]))
def v24_4 : List Pos := [p1, p2, p3, p6, p8, p18, p19]
def c24_4 : XC := (.s (.oX [.bn p69 .add q19 (ci 1) tI, .mv p19 q69 tI]))
def v24_5 : List Pos := [p1, p2, p3, p6, p8, p9, p18, p19, p35, p36]
def c24_5b : XC := (.sO [.bn p37 .lss q36 q35 .b] (.seq (.cond q37 .skip (.exit 4)) (.seq (.block 5 (.seq (.oX [.mv p38 q36 tI, .mv p10 q38 tI]) (.seq (.oX [.fa p39 0 q3, .ld p40 q39 .v, .mv p41 q9 tI, .P p42 (.iaddr (.sl 2) q40 q41) .v, .fa p43 0 q42, .ld p44 q43 .v, .mv p45 q10 tI, .P p46 (.iaddr (.sl 6) q44 q45) .v, .L p47 (.cells 6 q46) .v, .al p11 (.new [(.str []), (.bool false), .nils, .nils, .nils, .nils]), .ss 6 q11 q47]) (.seq (.oX [.fa p48 0 q11, .ld p49 q48 .s, .mv p50 q2 .s, .bn p51 .eql q49 q50 .b, .mv p52 q51 .b, .ge p52 (XL.of [.G p52 true p53 (.mov q9) tI, .G p52 true p54 (.mov q1) tI, .G p52 true p55 (.bin .eql q53 q54) .b, .G p52 true p56 (.mov q55) .b, .ge p56 (XL.of [.G p56 true p57 (.mov q8) tI, .G p56 true p58 (.bin .eql q57 (ci 0)) .b, .G p52 true p59 (.pick q56 q58 (cb false)) .b]) p59 .b, .G p52 true p60 (.mov q59) .b, .ge p60 (XL.of [.G p60 false p61 (.faddr 1 q11) .v, .o ⟨(some p62), (.l (.cell q61)), (some (p60, false)), []⟩ .b, .G p60 false p63 (.un .not q62) .b, .G p52 true p64 (.pick q60 (cb true) q63) .b]) p64 .b, .P p65 (.pick q52 q64 (cb false)) .b]) p65 .b]) (.cond q65 (.seq (.oX [.L p66 (.cells 6 q11) .v, .mv p67 q9 tI, .ss 6 q6 q66, .mv p7 q67 tI]) .ret) .skip))))) (.s (.oX [.bn p68 .add q36 (ci 1) tI, .mv p36 q68 tI])))))
def v24_3 : List Pos := [p1, p2, p3, p6, p8, p18, p19]
def c24_3b : XC := (.sO [.bn p20 .lss q19 q18 .b] (.seq (.cond q20 .skip (.exit 2)) (.sj v24_4 (.block 3 (.sO [.mv p21 q19 tI, .mv p9 q21 tI] (.seq (.seq (.oX [.mv p22 q8 tI, .bn p23 .eql q22 (ci 0) .b, .mv p24 q23 .b, .ge p24 (XL.of [.G p24 true p25 (.mov q9) tI, .G p24 true p26 (.mov q1) tI, .G p24 true p27 (.bin .neq q25 q26) .b, .P p28 (.pick q24 q27 (cb false)) .b]) p28 .b]) (.cond q28 (.exit 3) .skip)) (.sO [.fa p29 0 q3, .ld p30 q29 .v, .mv p31 q9 tI, .P p32 (.iaddr (.sl 2) q30 q31) .v, .fa p33 0 q32, .ld p34 q33 .v, .P p35 (.lenl q34) tI, .mv p36 (ci 0) tI] (.block 4 (.loop v24_5 c24_5b)))))) c24_4)))
def v24_1 : List Pos := [p1, p2, p3, p6, p8]
def c24_1b : XC := (.seq (.seq (.oX [.mv p12 q8 tI, .bn p13 .lss q12 (ci 2) .b]) (.cond q13 .skip (.exit 0))) (.sj v24_2 (.block 1 (.sO [.fa p16 0 q3, .ld p17 q16 .v, .P p18 (.lenl q17) tI, .mv p19 (ci 0) tI] (.block 2 (.loop v24_3 c24_3b)))) c24_2))
def c24_e : XC := (.sO [.al p3 (.box q0), .al p6 (.new [(.str []), (.bool false), .nils, .nils, .nils, .nils]), .mv p7 (ci 0) tI] (.sj v24_0 (.sO [.mv p8 (ci 0) tI] (.block 0 (.loop v24_1 c24_1b))) c24_0))
def x24 : XFn := ⟨[.v, tI, .s], false, [(.cells 6 p6), (.tmp p7)], c24_e⟩
def e24_0 (k t6 h) := kN k [(p6, t6)] h
def S24_0 (D : CallD) (m : Nat) (t6 : AV) (h : HP) : Res2 :=
 let t70 := (AV.agg [(vS ([] : LN)), (vB false), (.nils : AV), (.nils : AV), (.nils : AV), (.nils : AV)])
 stsC 6 t6 t70 h fun h9 =>
 cellsC 6 t6 h9 fun t6a =>
 some (.ret (.tup [t6a, (vI (Int.negSucc 0))]) h9, .no)
def e24_2 (k t1 t2 t3 t6 t8 h) := kN k [(p1, (vI t1)), (p2, (vS t2)), (p3, t3), (p6, t6), (p8, (vI t8))] h
def S24_2 (D : CallD) (m : Nat) (g1 : Int → LN → AV → AV → Int → HP → Res2) (t1 : Int) (t2 : LN) (t3 t6 : AV) (t8 : Int) (h : HP) : Res2 :=
 let t15 := wrQ .i64 (addQ t8 (Int.ofNat 1))
 g1 t1 t2 t3 t6 t15 h
def e24_4 (k t1 t2 t3 t6 t8 t18 t19 h) := kN k [(p1, (vI t1)), (p2, (vS t2)), (p3, t3), (p6, t6), (p8, (vI t8)), (p18, (vI t18)), (p19, (vI t19))] h
def S24_4 (D : CallD) (m : Nat) (g3 : Int → LN → AV → AV → Int → Int → Int → HP → Res2) (g1 : Int → LN → AV → AV → Int → HP → Res2) (t1 : Int) (t2 : LN) (t3 t6 : AV) (t8 t18 t19 : Int) (h : HP) : Res2 :=
 let t69 := wrQ .i64 (addQ t19 (Int.ofNat 1))
 g3 t1 t2 t3 t6 t8 t18 t69 h
def e24_5 (k t1 t2 t3 t6 t8 t9 t18 t19 t35 t36 h) := kN k [(p1, (vI t1)), (p2, (vS t2)), (p3, t3), (p6, t6), (p8, (vI t8)), (p9, (vI t9)), (p18, (vI t18)), (p19, (vI t19)), (p35, (vI t35)), (p36, (vI t36))] h
def S24_5b (D : CallD) (m : Nat) (g5 : Int → LN → AV → AV → Int → Int → Int → Int → Int → Int → HP → Res2) (g3 : Int → LN → AV → AV → Int → Int → Int → HP → Res2) (g1 : Int → LN → AV → AV → Int → HP → Res2) (t1 : Int) (t2 : LN) (t3 t6 : AV) (t8 t9 t18 t19 t35 t36 : Int) (h : HP) : Res2 :=
 let t37 := ltQ t36 t35
 br t37 (
 faC 0 t3 fun t39 =>
 cellC t39 h fun t40 =>
 iasC 2 t40 (vI t9) fun t42 =>
 faC 0 t42 fun t43 =>
 cellC t43 h fun t44 =>
 iasC 6 t44 (vI t36) fun t46 =>
 cellsC 6 t46 h fun t47 =>
 let t11 := AV.ptr (HP.nxQ h) 0
 let h10 := HP.newQ h (.cells true [(.str []), (.bool false), .nils, .nils, .nils, .nils])
 stsC 6 t11 t47 h10 fun h11 =>
 let t48 := (AV.ptr (HP.nxQ h) (Nat.add 0 0))
 ldS t48 h11 fun t49 =>
 let t51 := eqL t49 t2
 obB (brV t51 (
 let t55 := eqQ t9 t1
 obBV (brV t55 (
 let t58 := eqQ t8 (Int.ofNat 0)
 some (vB t58)) (
 some (vB false))) fun t59 =>
 obBV (brV t59 (
 some (vB true)) (
 let t61 := (AV.ptr (HP.nxQ h) (Nat.add 0 1))
 ldBV t61 h11 fun t62 =>
 let t63 := !t62
 some (vB t63))) fun t64 =>
 some (vB t64)) (
 some (vB false))) fun t65 =>
 br t65 (
 cellsC 6 t11 h11 fun t66 =>
 stsC 6 t6 t66 h11 fun h12 =>
 cellsC 6 t6 h12 fun t6a =>
 some (.ret (.tup [t6a, (vI t9)]) h12, .no)) (
 let t68 := wrQ .i64 (addQ t36 (Int.ofNat 1))
 g5 t1 t2 t3 t6 t8 t9 t18 t19 t35 t68 h11)) (
 S24_4 D m g3 g1 t1 t2 t3 t6 t8 t18 t19 h)
def S24_5 (D : CallD) (m : Nat) (g3 : Int → LN → AV → AV → Int → Int → Int → HP → Res2) (g1 : Int → LN → AV → AV → Int → HP → Res2) : Int → LN → AV → AV → Int → Int → Int → Int → Int → Int → HP → Res2 := nrec (fun _ _ _ _ _ _ _ _ _ _ _ => none) (fun _ g => S24_5b D m g g3 g1) m
def e24_3 (k t1 t2 t3 t6 t8 t18 t19 h) := kN k [(p1, (vI t1)), (p2, (vS t2)), (p3, t3), (p6, t6), (p8, (vI t8)), (p18, (vI t18)), (p19, (vI t19))] h
def S24_3b (D : CallD) (m : Nat) (g3 : Int → LN → AV → AV → Int → Int → Int → HP → Res2) (g1 : Int → LN → AV → AV → Int → HP → Res2) (t1 : Int) (t2 : LN) (t3 t6 : AV) (t8 t18 t19 : Int) (h : HP) : Res2 :=
 let t20 := ltQ t19 t18
 br t20 (
 let t23 := eqQ t8 (Int.ofNat 0)
 obB (brV t23 (
 let t27 := notQ (eqQ t19 t1)
 some (vB t27)) (
 some (vB false))) fun t28 =>
 br t28 (
 S24_4 D m g3 g1 t1 t2 t3 t6 t8 t18 t19 h) (
 faC 0 t3 fun t29 =>
 cellC t29 h fun t30 =>
 iasC 2 t30 (vI t19) fun t32 =>
 faC 0 t32 fun t33 =>
 cellC t33 h fun t34 =>
 lenC t34 fun vt35 => asI .i64 vt35 fun t35 =>
 S24_5 D m g3 g1 t1 t2 t3 t6 t8 t19 t18 t19 t35 (Int.ofNat 0) h)) (
 S24_2 D m g1 t1 t2 t3 t6 t8 h)
def S24_3 (D : CallD) (m : Nat) (g1 : Int → LN → AV → AV → Int → HP → Res2) : Int → LN → AV → AV → Int → Int → Int → HP → Res2 := nrec (fun _ _ _ _ _ _ _ _ => none) (fun _ g => S24_3b D m g g1) m
def e24_1 (k t1 t2 t3 t6 t8 h) := kN k [(p1, (vI t1)), (p2, (vS t2)), (p3, t3), (p6, t6), (p8, (vI t8))] h
def S24_1b (D : CallD) (m : Nat) (g1 : Int → LN → AV → AV → Int → HP → Res2) (t1 : Int) (t2 : LN) (t3 t6 : AV) (t8 : Int) (h : HP) : Res2 :=
 let t13 := ltQ t8 (Int.ofNat 2)
 br t13 (
 faC 0 t3 fun t16 =>
 cellC t16 h fun t17 =>
 lenC t17 fun vt18 => asI .i64 vt18 fun t18 =>
 S24_3 D m g1 t1 t2 t3 t6 t8 t18 (Int.ofNat 0) h) (
 S24_0 D m t6 h)
def S24_1 (D : CallD) (m : Nat) : Int → LN → AV → AV → Int → HP → Res2 := nrec (fun _ _ _ _ _ _ => none) (fun _ g => S24_1b D m g) m
def e24_6 (k t0 t1 t2 h) := kN k [(p0, t0), (p1, (vI t1)), (p2, (vS t2))] h
def S24_6 (D : CallD) (m : Nat) (t0 : AV) (t1 : Int) (t2 : LN) (h : HP) : Res2 :=
 let t3 := AV.ptr (HP.nxQ h) 0
 let h7 := HP.newQ h (.cells true (AV.cells t0))
 let t6 := AV.ptr (HP.nxQ h7) 0
 let h8 := HP.newQ h7 (.cells true [(.str []), (.bool false), .nils, .nils, .nils, .nils])
 S24_1 D m t1 t2 t3 t6 (Int.ofNat 0) h8
def S24 : SFn := fun D m args h u => nou u <| popV args fun t0 args => popI .i64 args fun t1 args => popS args fun t2 args => endA args (S24_6 D m t0 t1 t2 h)
theorem T24_0 (hE : FX x24 D m E) : S24_0 D m = e24_0 (E c24_0 []) := by unfold S24_0; rw [hE c24_0]; kernel_rfl
theorem T24_2 (hE : FX x24 D m E) (G1) : S24_2 D m (e24_1 G1) = e24_2 (E c24_2 [.lp v24_1 G1, .blk 0, .sj v24_0 c24_0]) := by unfold S24_2; rw [hE c24_2]; kernel_rfl
theorem T24_4 (hE : FX x24 D m E) (G3) (G1) : S24_4 D m (e24_3 G3) (e24_1 G1) = e24_4 (E c24_4 [.lp v24_3 G3, .blk 2, .blk 1, .sj v24_2 c24_2, .lp v24_1 G1, .blk 0, .sj v24_0 c24_0]) := by unfold S24_4; rw [hE c24_4]; kernel_rfl
theorem T24_5b (hE : FX x24 D m E) (G5) (G3) (G1) : S24_5b D m (e24_5 G5) (e24_3 G3) (e24_1 G1) = e24_5 (E c24_5b [.lp v24_5 G5, .blk 4, .blk 3, .sj v24_4 c24_4, .lp v24_3 G3, .blk 2, .blk 1, .sj v24_2 c24_2, .lp v24_1 G1, .blk 0, .sj v24_0 c24_0]) := by unfold S24_5b; rw [T24_4 hE G3 G1, hE c24_5b]; kernel_rfl
theorem T24_5 (hE : FX x24 D m E) (G3) (G1) : S24_5 D m (e24_3 G3) (e24_1 G1) = e24_5 (nrec (fun _ => none) (fun _ G5 st => E c24_5b [.lp v24_5 G5, .blk 4, .blk 3, .sj v24_4 c24_4, .lp v24_3 G3, .blk 2, .blk 1, .sj v24_2 c24_2, .lp v24_1 G1, .blk 0, .sj v24_0 c24_0] st) m) :=
  nrec_emb e24_5 (fun _ _ _ _ _ _ _ _ _ _ _ => none) (fun g => S24_5b D m g (e24_3 G3) (e24_1 G1)) (fun G5 st => E c24_5b [.lp v24_5 G5, .blk 4, .blk 3, .sj v24_4 c24_4, .lp v24_3 G3, .blk 2, .blk 1, .sj v24_2 c24_2, .lp v24_1 G1, .blk 0, .sj v24_0 c24_0] st) rfl (fun g => T24_5b hE g G3 G1) m
theorem T24_3b (hE : FX x24 D m E) (G3) (G1) : S24_3b D m (e24_3 G3) (e24_1 G1) = e24_3 (E c24_3b [.lp v24_3 G3, .blk 2, .blk 1, .sj v24_2 c24_2, .lp v24_1 G1, .blk 0, .sj v24_0 c24_0]) := by unfold S24_3b; rw [T24_4 hE G3 G1, T24_5 hE G3 G1, T24_2 hE G1, hE c24_3b]; kernel_rfl
theorem T24_3 (hE : FX x24 D m E) (G1) : S24_3 D m (e24_1 G1) = e24_3 (nrec (fun _ => none) (fun _ G3 st => E c24_3b [.lp v24_3 G3, .blk 2, .blk 1, .sj v24_2 c24_2, .lp v24_1 G1, .blk 0, .sj v24_0 c24_0] st) m) :=
  nrec_emb e24_3 (fun _ _ _ _ _ _ _ _ => none) (fun g => S24_3b D m g (e24_1 G1)) (fun G3 st => E c24_3b [.lp v24_3 G3, .blk 2, .blk 1, .sj v24_2 c24_2, .lp v24_1 G1, .blk 0, .sj v24_0 c24_0] st) rfl (fun g => T24_3b hE g G1) m
theorem T24_1b (hE : FX x24 D m E) (G1) : S24_1b D m (e24_1 G1) = e24_1 (E c24_1b [.lp v24_1 G1, .blk 0, .sj v24_0 c24_0]) := by unfold S24_1b; rw [T24_3 hE G1, T24_0 hE, hE c24_1b]; kernel_rfl
theorem T24_1 (hE : FX x24 D m E) : S24_1 D m = e24_1 (nrec (fun _ => none) (fun _ G1 st => E c24_1b [.lp v24_1 G1, .blk 0, .sj v24_0 c24_0] st) m) :=
  nrec_emb e24_1 (fun _ _ _ _ _ _ => none) (fun g => S24_1b D m g) (fun G1 st => E c24_1b [.lp v24_1 G1, .blk 0, .sj v24_0 c24_0] st) rfl (fun g => T24_1b hE g) m
theorem T24_6 (hE : FX x24 D m E) : S24_6 D m = e24_6 (E c24_e []) := by unfold S24_6; rw [T24_1 hE, hE c24_e]; kernel_rfl
theorem X24 : XTie S24 x24 := X_of fun D m E hE args h u => by unfold S24; rw [T24_6 hE]; kernel_rfl
/- 26 -/
def v26_2 : List Pos := [p7, p14]
def c26_2 : XC := (.sO [.L p242 (.cells 8 q7) .v, .ss 8 q14 q242, .mv p15 (.c (.int .u32 (.ofNat 0))) tW, .mv p16 (.c (.int .u64 (.ofNat 0))) (.i .u64)] (.s .ret))
def v26_4 : List Pos := [p2, p3, p6, p7, p8, p14, p17, p19, p21]
def c26_4 : XC := (.s (.oX [.fa p189 6 q7, .ld p190 q189 tI, .bn p191 .add q190 (ci 1) tI, .fa p192 6 q7, .st q192 q191]))
def v26_5 : List Pos := [p2, p3, p6, p7, p8, p14, p17, p19, p21, p22, p232]
def c26_5 : XC := (.cond q232 (.s (.oX [.L p237 (.cells 8 q7) .v, .L p238 (.cells 9 q22) .v, .L p239 (.cells 2 q17) .v, .mv p240 q6 tI, .cl p241 58 [q237, q238, q239, q240] .v, .ss 8 q7 q241])) (.sO [.L p112 (.cells 9 q22) .v, .L p113 (.cells 2 q17) .v, .cl p114 59 [q112, q113] .v] (.s (.oX [.fa p115 6 q7, .ld p116 q115 tI, .bn p117 .add q116 (ci 1) tI, .fa p118 6 q7, .st q118 q117]))))
def v26_3 : List Pos := [p2, p3, p6, p7, p8, p14, p17, p19, p21]
def c26_3b : XC := (.seq (.seq (.oX [.fa p93 7 q7, .ld p94 q93 tI, .bn p95 .lss q94 (ci 0) .b]) (.cond q95 .skip (.exit 4))) (.block 5 (.seq (.seq (.oX [.fa p96 6 q7, .ld p97 q96 tI, .fa p98 5 q7, .ld p99 q98 tI, .bn p100 .geq q97 q99 .b]) (.cond q100 (.seq (.oX [.L p101 (.cells 8 q7) .v, .cl p102 25 [q101, (ci 0)] .v, .ss 8 q14 q102, .mv p15 (.c (.int .u32 (.ofNat 0))) tW, .mv p16 (.c (.int .u64 (.ofNat 0))) (.i .u64)]) .ret) .skip)) (.sO [.fa p103 5 q8, .ld p104 q103 .v, .mv p105 q21 tI, .P p106 (.iaddr (.sl 9) q104 q105) .v, .L p107 (.cells 9 q106) .v, .al p22 (.new [(kI 0), (kI 0), (kI 0), (kI 0), (.int .u32 (.ofNat 0)), (.int .u64 (.ofNat 0)), (.str []), .nils, (kI 0)]), .ss 9 q22 q107] (.sO [.mv p108 q21 tI, .bn p109 .add q108 (ci 1) tI, .mv p21 q109 tI] (.sO [.fa p110 0 q22, .ld p111 q110 tI] (.block 6 (.sO [.bn p120 .eql q111 (ci 17) .b, .mv p119 q120 .b] (.cond q119 (.seq (.seq (.oX [.fa p121 2 q22, .ld p122 q121 tI, .bn p123 .geq q122 (ci 0) .b, .mv p124 q123 .b, .ge p124 (XL.of [.G p124 true p125 (.mov q3) tI, .G p124 true p126 (.bin .neq q125 (ci 0)) .b, .P p127 (.pick q124 q126 (cb false)) .b]) p127 .b, .mv p128 q127 .b, .ge p128 (XL.of [.G p128 true p129 (.faddr 3 q8) .v, .o ⟨(some p130), (.l (.cell q129)), (some (p128, true)), []⟩ .v, .G p128 true p131 (.faddr 2 q22) .v, .o ⟨(some p132), (.l (.cell q131)), (some (p128, true)), []⟩ tI, .G p128 true p133 (.iaddr (.sl 1) q130 q132) .v, .o ⟨(some p134), (.l (.cell q133)), (some (p128, true)), []⟩ tI, .G p128 true p135 (.mov q3) tI, .G p128 true p136 (.bin .neq q134 q135) .b, .P p137 (.pick q128 q136 (cb false)) .b]) p137 .b]) (.cond q137 (.seq (.oX [.L p138 (.cells 8 q7) .v, .cl p139 25 [q138, (ci 2)] .v, .ss 8 q14 q139, .mv p15 (.c (.int .u32 (.ofNat 0))) tW, .mv p16 (.c (.int .u64 (.ofNat 0))) (.i .u64)]) .ret) .skip)) (.sO [.fa p140 6 q7, .ld p141 q140 tI, .bn p142 .add q141 (ci 1) tI, .fa p143 6 q7, .st q143 q142] (.seq (.seq (.oX [.fa p144 2 q22, .ld p145 q144 tI, .bn p146 .lss q145 (ci 0) .b]) (.cond q146 (.seq (.oX [.L p147 (.cells 8 q7) .v, .ss 8 q14 q147, .mv p15 (.c (.int .u32 (.ofNat 0))) tW, .mv p16 (.c (.int .u64 (.ofNat 0))) (.i .u64)]) .ret) .skip)) (.seq (.ops true (XL.of [.L p148 (.cells 8 q7) .v, .fa p149 0 q17, .ld p150 q149 .v, .fa p151 2 q22, .ld p152 q151 tI, .P p153 (.iaddr (.sl 1) q150 q152) .v, .ld p154 q153 tW, .fa p155 1 q17, .ld p156 q155 .v, .fa p157 2 q22, .ld p158 q157 tI, .P p159 (.iaddr (.sl 1) q156 q158) .v, .ld p160 q159 (.i .u64), .o ⟨none, (.e (.stores 8 q14 q148)), none, [⟨none, .cell q149, p150⟩, ⟨none, .cell q151, p152⟩, ⟨none, .cell q153, p154⟩, ⟨none, .cell q155, p156⟩, ⟨none, .cell q157, p158⟩, ⟨none, .cell q159, p160⟩]⟩ .v, .mv p15 q154 tW, .mv p16 q160 (.i .u64)])) (.s .ret))))) (.sO [.bn p162 .eql q111 (ci 16) .b, .mv p161 q162 .b] (.cond q161 (.s (.oX [.L p163 (.cells 8 q7) .v, .L p164 (.cells 6 q8) .v, .mv p165 q2 tI, .L p166 (.cells 9 q22) .v, .L p167 (.cells 2 q17) .v, .mv p168 q6 tI, .cl p169 57 [q163, q164, q165, q166, q167, q168] .v, .ss 8 q7 q169])) (.sO [.bn p171 .eql q111 (ci 18) .b, .mv p170 q171 .b] (.cond q170 (.sO [.fa p172 8 q22, .ld p173 q172 tI, .mv p21 q173 tI] (.s (.oX [.fa p174 6 q7, .ld p175 q174 tI, .bn p176 .add q175 (ci 1) tI, .fa p177 6 q7, .st q177 q176]))) (.sO [.bn p179 .eql q111 (ci 19) .b, .mv p178 q179 .b] (.cond q178 (.sj v26_4 (.sO [.fa p180 0 q17, .ld p181 q180 .v, .fa p182 2 q22, .ld p183 q182 tI, .P p184 (.iaddr (.sl 1) q181 q183) .v, .ld p185 q184 tW, .bn p186 .neq q185 (.c (.int .u32 (.ofNat 0))) .b] (.cond q186 (.s (.oX [.fa p187 8 q22, .ld p188 q187 tI, .mv p21 q188 tI])) (.s .skip))) c26_4) (.sO [.bn p194 .eql q111 (ci 10) .b, .mv p193 q194 .b] (.cond q193 (.sO [.L p195 (.cells 8 q7) .v, .mv p196 q2 tI, .fa p197 6 q22, .ld p198 q197 .s, .cl p199 55 [q195, q196, q198] tI, .mv p23 q199 tI] (.seq (.seq (.oX [.mv p200 q23 tI, .bn p201 .eql q200 (ci 0) .b]) (.cond q201 (.seq (.oX [.L p202 (.cells 8 q7) .v, .cl p203 25 [q202, (ci 2)] .v, .ss 8 q14 q203, .mv p15 (.c (.int .u32 (.ofNat 0))) tW, .mv p16 (.c (.int .u64 (.ofNat 0))) (.i .u64)]) .ret) .skip)) (.sO [.fa p204 0 q17, .ld p205 q204 .v, .fa p206 1 q22, .ld p207 q206 tI, .mv p208 q23 tI, .P p209 (.conv (.ii .u32) q208) tW, .P p210 (.iaddr (.sl 1) q205 q207) .v, .st q210 q209] (.s (.oX [.fa p211 6 q7, .ld p212 q211 tI, .bn p213 .add q212 (ci 1) tI, .fa p214 6 q7, .st q214 q213]))))) (.sO [.bn p216 .eql q111 (ci 11) .b, .mv p215 q216 .b] (.cond q215 (.seq (.ops true (XL.of [.fa p217 0 q17, .ld p218 q217 .v, .fa p219 1 q22, .ld p220 q219 tI, .mv p221 q19 .v, .fa p222 4 q22, .ld p223 q222 tW, .P p224 (.iaddr (.sl 1) q221 q223) .v, .ld p225 q224 tI, .P p226 (.conv (.ii .u32) q225) tW, .P p227 (.iaddr (.sl 1) q218 q220) .v, .st q227 q226])) (.s (.oX [.fa p228 6 q7, .ld p229 q228 tI, .bn p230 .add q229 (ci 1) tI, .fa p231 6 q7, .st q231 q230]))) (.sj v26_5 (.sO [.bn p233 .eql q111 (ci 12) .b, .mv p232 q233 .b] (.cond q232 (.s .skip) (.sO [.bn p234 .eql q111 (ci 13) .b, .mv p232 q234 .b] (.cond q232 (.s .skip) (.sO [.bn p235 .eql q111 (ci 14) .b, .mv p232 q235 .b] (.cond q232 (.s .skip) (.s (.oX [.bn p236 .eql q111 (ci 15) .b, .mv p232 q236 .b])))))))) c26_5))))))))))))))))))))
def v26_1 : List Pos := [p2, p3, p6, p7, p8, p14, p17, p19]
def c26_1 : XC := (.sO [.L p90 (.cells 8 q7) .v, .mv p91 q6 tI, .cl p92 54 [q90, q91] .v, .ss 8 q7 q92] (.sO [.mv p21 (ci 0) tI] (.sj v26_2 (.block 4 (.loop v26_3 c26_3b)) c26_2)))
def v26_6 : List Pos := [p2, p3, p6, p7, p8, p14, p17, p19, p74, p75]
def c26_6b : XC := (.sO [.bn p76 .lss q75 q74 .b] (.seq (.cond q76 .skip (.exit 2)) (.seq (.block 3 (.seq (.oX [.mv p77 q75 tI, .mv p20 q77 tI]) (.seq (.oX [.mv p78 q19 .v, .mv p79 q6 tI, .al p80 (.bsl [(kI 0)] 1 [⟨0, 1, q79⟩]), .o ⟨(some p81), (.e (.app 1 8 q78 q80)), none, []⟩ .v, .mv p19 q81 .v]) (.oX [.mv p82 q6 tI, .fa p83 4 q8, .ld p84 q83 .v, .mv p85 q20 tI, .P p86 (.iaddr (.sl 1) q84 q85) .v, .ld p87 q86 tI, .bn p88 .add q82 q87 tI, .mv p6 q88 tI])))) (.s (.oX [.bn p89 .add q75 (ci 1) tI, .mv p75 q89 tI])))))
def v26_0 : List Pos := [p2, p3, p6, p7, p8, p14, p17]
def c26_0 : XC := (.sO [.mv p19 (.c .nils) .v] (.sj v26_1 (.sO [.fa p72 4 q8, .ld p73 q72 .v, .P p74 (.lenl q73) tI, .mv p75 (ci 0) tI] (.block 2 (.loop v26_6 c26_6b))) c26_1))
def v26_7 : List Pos := [p2, p3, p5, p6, p7, p8, p11, p14, p17, p35, p36]
def c26_7b : XC := (.sO [.bn p37 .lss q36 q35 .b] (.seq (.cond q37 .skip (.exit 0)) (.seq (.block 1 (.seq (.oX [.mv p38 q36 tI, .mv p18 q38 tI]) (.seq (.ops true (XL.of [.fa p39 0 q17, .ld p40 q39 .v, .fa p41 2 q8, .ld p42 q41 .v, .mv p43 q18 tI, .P p44 (.iaddr (.sl 1) q42 q43) .v, .ld p45 q44 tI, .fa p46 0 q11, .ld p47 q46 .v, .mv p48 q5 .v, .mv p49 q18 tI, .P p50 (.iaddr (.sl 1) q48 q49) .v, .ld p51 q50 tI, .P p52 (.iaddr (.sl 1) q47 q51) .v, .ld p53 q52 tW, .P p54 (.iaddr (.sl 1) q40 q45) .v, .st q54 q53])) (.ops true (XL.of [.fa p55 1 q17, .ld p56 q55 .v, .fa p57 2 q8, .ld p58 q57 .v, .mv p59 q18 tI, .P p60 (.iaddr (.sl 1) q58 q59) .v, .ld p61 q60 tI, .fa p62 1 q11, .ld p63 q62 .v, .mv p64 q5 .v, .mv p65 q18 tI, .P p66 (.iaddr (.sl 1) q64 q65) .v, .ld p67 q66 tI, .P p68 (.iaddr (.sl 1) q63 q67) .v, .ld p69 q68 (.i .u64), .P p70 (.iaddr (.sl 1) q56 q61) .v, .st q70 q69]))))) (.s (.oX [.bn p71 .add q36 (ci 1) tI, .mv p36 q71 tI])))))
def c26_e : XC := (.sO [.al p7 (.box q0), .al p8 (.box q1), .al p11 (.box q4), .al p14 (.new [.nils, .nils, .nils, .nils, .nils, (kI 0), (kI 0), (kI 0)]), .mv p15 (.c (.int .u32 (.ofNat 0))) tW, .mv p16 (.c (.int .u64 (.ofNat 0))) (.i .u64)] (.seq (.ops true (XL.of [.fa p24 3 q8, .ld p25 q24 .v, .P p26 (.lenl q25) tI, .al p27 (.mksl [(.int .u32 (.ofNat 0))] 4 q26 q26), .fa p28 3 q8, .ld p29 q28 .v, .P p30 (.lenl q29) tI, .al p31 (.mksl [(.int .u64 (.ofNat 0))] 8 q30 q30), .P p32 (.build [.nils, .nils] [⟨0, 1, q27⟩, ⟨1, 1, q31⟩]) .v, .al p17 (.new [.nils, .nils]), .ss 2 q17 q32])) (.sj v26_0 (.sO [.fa p33 2 q8, .ld p34 q33 .v, .P p35 (.lenl q34) tI, .mv p36 (ci 0) tI] (.block 0 (.loop v26_7 c26_7b))) c26_0)))
def x26 : XFn := ⟨[.v, .v, tI, tI, .v, .v, tI], false, [(.cells 8 p14), (.tmp p15), (.tmp p16)], c26_e⟩
def e26_2 (k t7 t14 h) := kN k [(p7, t7), (p14, t14)] h
def S26_2 (D : CallD) (m : Nat) (t7 t14 : AV) (h : HP) : Res2 :=
 cellsC 8 t7 h fun t242 =>
 stsC 8 t14 t242 h fun h21 =>
 cellsC 8 t14 h21 fun t14a =>
 some (.ret (.tup [t14a, (vW (Int.ofNat 0)), (AV.int .u64 (Int.ofNat 0))]) h21, .no)
def e26_4 (k t2 t3 t6 t7 t8 t14 t17 t19 t21 h) := kN k [(p2, (vI t2)), (p3, (vI t3)), (p6, (vI t6)), (p7, t7), (p8, t8), (p14, t14), (p17, t17), (p19, t19), (p21, (vI t21))] h
def S26_4 (D : CallD) (m : Nat) (g3 : Int → Int → Int → AV → AV → AV → AV → AV → Int → HP → Res2) (t2 t3 t6 : Int) (t7 t8 t14 t17 t19 : AV) (t21 : Int) (h : HP) : Res2 :=
 faC 6 t7 fun t189 =>
 ldI t189 h fun t190 =>
 let t191 := wrQ .i64 (addQ t190 (Int.ofNat 1))
 faC 6 t7 fun t192 =>
 stoC t192 (vI t191) h fun h34 =>
 g3 t2 t3 t6 t7 t8 t14 t17 t19 t21 h34
def e26_5 (k t2 t3 t6 t7 t8 t14 t17 t19 t21 t22 t232 h) := kN k [(p2, (vI t2)), (p3, (vI t3)), (p6, (vI t6)), (p7, t7), (p8, t8), (p14, t14), (p17, t17), (p19, t19), (p21, (vI t21)), (p22, t22), (p232, (vB t232))] h
def S26_5 (D : CallD) (m : Nat) (g3 : Int → Int → Int → AV → AV → AV → AV → AV → Int → HP → Res2) (t2 t3 t6 : Int) (t7 t8 t14 t17 t19 : AV) (t21 : Int) (t22 : AV) (t232 : Bool) (h : HP) : Res2 :=
 br t232 (
 cellsC 8 t7 h fun t237 =>
 cellsC 9 t22 h fun t238 =>
 cellsC 2 t17 h fun t239 =>
 cal D 58 [t237, t238, t239, (vI t6)] h fun t241 h42 =>
 stsC 8 t7 t241 h42 fun h43 =>
 g3 t2 t3 t6 t7 t8 t14 t17 t19 t21 h43) (
 cellsC 9 t22 h fun t112 =>
 cellsC 2 t17 h fun t113 =>
 cal D 59 [t112, t113] h fun t114 h44 =>
 faC 6 t7 fun t115 =>
 ldI t115 h44 fun t116 =>
 let t117 := wrQ .i64 (addQ t116 (Int.ofNat 1))
 faC 6 t7 fun t118 =>
 stoC t118 (vI t117) h44 fun h45 =>
 g3 t2 t3 t6 t7 t8 t14 t17 t19 t21 h45)
def e26_3 (k t2 t3 t6 t7 t8 t14 t17 t19 t21 h) := kN k [(p2, (vI t2)), (p3, (vI t3)), (p6, (vI t6)), (p7, t7), (p8, t8), (p14, t14), (p17, t17), (p19, t19), (p21, (vI t21))] h
def S26_3b (D : CallD) (m : Nat) (g3 : Int → Int → Int → AV → AV → AV → AV → AV → Int → HP → Res2) (t2 t3 t6 : Int) (t7 t8 t14 t17 t19 : AV) (t21 : Int) (h : HP) : Res2 :=
 faC 7 t7 fun t93 =>
 ldI t93 h fun t94 =>
 let t95 := ltQ t94 (Int.ofNat 0)
 br t95 (
 faC 6 t7 fun t96 =>
 ldI t96 h fun t97 =>
 faC 5 t7 fun t98 =>
 ldI t98 h fun t99 =>
 let t100 := leQ t99 t97
 br t100 (
 cellsC 8 t7 h fun t101 =>
 cal D 25 [t101, (vI (Int.ofNat 0))] h fun t102 h22 =>
 stsC 8 t14 t102 h22 fun h23 =>
 cellsC 8 t14 h23 fun t14a =>
 some (.ret (.tup [t14a, (vW (Int.ofNat 0)), (AV.int .u64 (Int.ofNat 0))]) h23, .no)) (
 faC 5 t8 fun t103 =>
 cellC t103 h fun t104 =>
 iasC 9 t104 (vI t21) fun t106 =>
 cellsC 9 t106 h fun t107 =>
 let t22 := AV.ptr (HP.nxQ h) 0
 let h24 := HP.newQ h (.cells true [(kI 0), (kI 0), (kI 0), (kI 0), (.int .u32 (.ofNat 0)), (.int .u64 (.ofNat 0)), (.str []), .nils, (kI 0)])
 stsC 9 t22 t107 h24 fun h25 =>
 let t109 := wrQ .i64 (addQ t21 (Int.ofNat 1))
 let t110 := (AV.ptr (HP.nxQ h) (Nat.add 0 0))
 ldI t110 h25 fun t111 =>
 let t120 := eqQ t111 (Int.ofNat 17)
 br t120 (
 let t121 := (AV.ptr (HP.nxQ h) (Nat.add 0 2))
 ldI t121 h25 fun t122 =>
 let t123 := leQ (Int.ofNat 0) t122
 obB (brV t123 (
 let t126 := notQ (eqQ t3 (Int.ofNat 0))
 some (vB t126)) (
 some (vB false))) fun t127 =>
 obB (brV t127 (
 faCV 3 t8 fun t129 =>
 cellCV t129 h25 fun t130 =>
 let t131 := (AV.ptr (HP.nxQ h) (Nat.add 0 2))
 ldIV t131 h25 fun t132 =>
 iasCV 1 t130 (vI t132) fun t133 =>
 ldIV t133 h25 fun t134 =>
 let t136 := notQ (eqQ t134 t3)
 some (vB t136)) (
 some (vB false))) fun t137 =>
 br t137 (
 cellsC 8 t7 h25 fun t138 =>
 cal D 25 [t138, (vI (Int.ofNat 2))] h25 fun t139 h26 =>
 stsC 8 t14 t139 h26 fun h27 =>
 cellsC 8 t14 h27 fun t14a =>
 some (.ret (.tup [t14a, (vW (Int.ofNat 0)), (AV.int .u64 (Int.ofNat 0))]) h27, .no)) (
 faC 6 t7 fun t140 =>
 ldI t140 h25 fun t141 =>
 let t142 := wrQ .i64 (addQ t141 (Int.ofNat 1))
 faC 6 t7 fun t143 =>
 stoC t143 (vI t142) h25 fun h28 =>
 let t144 := (AV.ptr (HP.nxQ h) (Nat.add 0 2))
 ldI t144 h28 fun t145 =>
 let t146 := ltQ t145 (Int.ofNat 0)
 br t146 (
 cellsC 8 t7 h28 fun t147 =>
 stsC 8 t14 t147 h28 fun h29 =>
 cellsC 8 t14 h29 fun t14a =>
 some (.ret (.tup [t14a, (vW (Int.ofNat 0)), (AV.int .u64 (Int.ofNat 0))]) h29, .no)) (
 cellsC 8 t7 h28 fun t148 =>
 faC 0 t17 fun t149 =>
 cellC t149 h28 fun t150 =>
 let t151 := (AV.ptr (HP.nxQ h) (Nat.add 0 2))
 ldI t151 h28 fun t152 =>
 iasC 1 t150 (vI t152) fun t153 =>
 ldW t153 h28 fun t154 =>
 faC 1 t17 fun t155 =>
 cellC t155 h28 fun t156 =>
 let t157 := (AV.ptr (HP.nxQ h) (Nat.add 0 2))
 ldI t157 h28 fun t158 =>
 iasC 1 t156 (vI t158) fun t159 =>
 cellC t159 h28 fun vt160 => asI .u64 vt160 fun t160 =>
 stsC 8 t14 t148 h28 fun h30 =>
 br (againE (.stores 8 q14 q148) [⟨none, .cell q149, p150⟩, ⟨none, .cell q151, p152⟩, ⟨none, .cell q153, p154⟩, ⟨none, .cell q155, p156⟩, ⟨none, .cell q157, p158⟩, ⟨none, .cell q159, p160⟩] (mkT [(p14, t14), (p160, (AV.int .u64 t160)), (p159, t159), (p158, (vI t158)), (p157, t157), (p156, t156), (p155, t155), (p154, (vW t154)), (p153, t153), (p152, (vI t152)), (p151, t151), (p150, t150), (p149, t149)]) h30) (
 cellsC 8 t14 h30 fun t14a =>
 some (.ret (.tup [t14a, (vW t154), (AV.int .u64 t160)]) h30, .no)) none))) (
 let t162 := eqQ t111 (Int.ofNat 16)
 br t162 (
 cellsC 8 t7 h25 fun t163 =>
 cellsC 6 t8 h25 fun t164 =>
 cellsC 9 t22 h25 fun t166 =>
 cellsC 2 t17 h25 fun t167 =>
 cal D 57 [t163, t164, (vI t2), t166, t167, (vI t6)] h25 fun t169 h31 =>
 stsC 8 t7 t169 h31 fun h32 =>
 g3 t2 t3 t6 t7 t8 t14 t17 t19 t109 h32) (
 let t171 := eqQ t111 (Int.ofNat 18)
 br t171 (
 let t172 := (AV.ptr (HP.nxQ h) (Nat.add 0 8))
 ldI t172 h25 fun t173 =>
 faC 6 t7 fun t174 =>
 ldI t174 h25 fun t175 =>
 let t176 := wrQ .i64 (addQ t175 (Int.ofNat 1))
 faC 6 t7 fun t177 =>
 stoC t177 (vI t176) h25 fun h33 =>
 g3 t2 t3 t6 t7 t8 t14 t17 t19 t173 h33) (
 let t179 := eqQ t111 (Int.ofNat 19)
 br t179 (
 faC 0 t17 fun t180 =>
 cellC t180 h25 fun t181 =>
 let t182 := (AV.ptr (HP.nxQ h) (Nat.add 0 2))
 ldI t182 h25 fun t183 =>
 iasC 1 t181 (vI t183) fun t184 =>
 ldW t184 h25 fun t185 =>
 let t186 := notQ (eqQ t185 (Int.ofNat 0))
 br t186 (
 let t187 := (AV.ptr (HP.nxQ h) (Nat.add 0 8))
 ldI t187 h25 fun t188 =>
 S26_4 D m g3 t2 t3 t6 t7 t8 t14 t17 t19 t188 h25) (
 S26_4 D m g3 t2 t3 t6 t7 t8 t14 t17 t19 t109 h25)) (
 let t194 := eqQ t111 (Int.ofNat 10)
 br t194 (
 cellsC 8 t7 h25 fun t195 =>
 let t197 := (AV.ptr (HP.nxQ h) (Nat.add 0 6))
 ldS t197 h25 fun t198 =>
 cal D 55 [t195, (vI t2), (vS t198)] h25 fun t199 h35 =>
 asI .i64 t199 fun t199a =>
 let t201 := eqQ t199a (Int.ofNat 0)
 br t201 (
 cellsC 8 t7 h35 fun t202 =>
 cal D 25 [t202, (vI (Int.ofNat 2))] h35 fun t203 h36 =>
 stsC 8 t14 t203 h36 fun h37 =>
 cellsC 8 t14 h37 fun t14a =>
 some (.ret (.tup [t14a, (vW (Int.ofNat 0)), (AV.int .u64 (Int.ofNat 0))]) h37, .no)) (
 faC 0 t17 fun t204 =>
 cellC t204 h35 fun t205 =>
 let t206 := (AV.ptr (HP.nxQ h) (Nat.add 0 1))
 ldI t206 h35 fun t207 =>
 let t209 := wrapF .u32 t199a
 iasC 1 t205 (vI t207) fun t210 =>
 stoC t210 (vW t209) h35 fun h38 =>
 faC 6 t7 fun t211 =>
 ldI t211 h38 fun t212 =>
 let t213 := wrQ .i64 (addQ t212 (Int.ofNat 1))
 faC 6 t7 fun t214 =>
 stoC t214 (vI t213) h38 fun h39 =>
 g3 t2 t3 t6 t7 t8 t14 t17 t19 t109 h39)) (
 let t216 := eqQ t111 (Int.ofNat 11)
 br t216 (
 faC 0 t17 fun t217 =>
 cellC t217 h25 fun t218 =>
 let t219 := (AV.ptr (HP.nxQ h) (Nat.add 0 1))
 ldI t219 h25 fun t220 =>
 let t222 := (AV.ptr (HP.nxQ h) (Nat.add 0 4))
 ldW t222 h25 fun t223 =>
 iasC 1 t19 (vW t223) fun t224 =>
 ldI t224 h25 fun t225 =>
 let t226 := wrapF .u32 t225
 iasC 1 t218 (vI t220) fun t227 =>
 stoC t227 (vW t226) h25 fun h40 =>
 faC 6 t7 fun t228 =>
 ldI t228 h40 fun t229 =>
 let t230 := wrQ .i64 (addQ t229 (Int.ofNat 1))
 faC 6 t7 fun t231 =>
 stoC t231 (vI t230) h40 fun h41 =>
 g3 t2 t3 t6 t7 t8 t14 t17 t19 t109 h41) (
 let t233 := eqQ t111 (Int.ofNat 12)
 br t233 (
 S26_5 D m g3 t2 t3 t6 t7 t8 t14 t17 t19 t109 t22 t233 h25) (
 let t234 := eqQ t111 (Int.ofNat 13)
 br t234 (
 S26_5 D m g3 t2 t3 t6 t7 t8 t14 t17 t19 t109 t22 t234 h25) (
 let t235 := eqQ t111 (Int.ofNat 14)
 br t235 (
 S26_5 D m g3 t2 t3 t6 t7 t8 t14 t17 t19 t109 t22 t235 h25) (
 let t236 := eqQ t111 (Int.ofNat 15)
 S26_5 D m g3 t2 t3 t6 t7 t8 t14 t17 t19 t109 t22 t236 h25))))))))))) (
 S26_2 D m t7 t14 h)
def S26_3 (D : CallD) (m : Nat) : Int → Int → Int → AV → AV → AV → AV → AV → Int → HP → Res2 := nrec (fun _ _ _ _ _ _ _ _ _ _ => none) (fun _ g => S26_3b D m g) m
def e26_1 (k t2 t3 t6 t7 t8 t14 t17 t19 h) := kN k [(p2, (vI t2)), (p3, (vI t3)), (p6, (vI t6)), (p7, t7), (p8, t8), (p14, t14), (p17, t17), (p19, t19)] h
def S26_1 (D : CallD) (m : Nat) (t2 t3 t6 : Int) (t7 t8 t14 t17 t19 : AV) (h : HP) : Res2 :=
 cellsC 8 t7 h fun t90 =>
 cal D 54 [t90, (vI t6)] h fun t92 h19 =>
 stsC 8 t7 t92 h19 fun h20 =>
 S26_3 D m t2 t3 t6 t7 t8 t14 t17 t19 (Int.ofNat 0) h20
def e26_6 (k t2 t3 t6 t7 t8 t14 t17 t19 t74 t75 h) := kN k [(p2, (vI t2)), (p3, (vI t3)), (p6, (vI t6)), (p7, t7), (p8, t8), (p14, t14), (p17, t17), (p19, t19), (p74, (vI t74)), (p75, (vI t75))] h
def S26_6b (D : CallD) (m : Nat) (g6 : Int → Int → Int → AV → AV → AV → AV → AV → Int → Int → HP → Res2) (t2 t3 t6 : Int) (t7 t8 t14 t17 t19 : AV) (t74 t75 : Int) (h : HP) : Res2 :=
 let t76 := ltQ t75 t74
 br t76 (
 let t80 := AV.slice (HP.nxQ h) 0 1 (.exact 1)
 let h46 := HP.newQ h (.cells true [(vI t6)])
 eff (.app 1 8 (.c t19) (.c t80)) h46 fun t81 h47 =>
 faC 4 t8 fun t83 =>
 cellC t83 h47 fun t84 =>
 iasC 1 t84 (vI t75) fun t86 =>
 ldI t86 h47 fun t87 =>
 let t88 := wrQ .i64 (addQ t6 t87)
 let t89 := wrQ .i64 (addQ t75 (Int.ofNat 1))
 g6 t2 t3 t88 t7 t8 t14 t17 t81 t74 t89 h47) (
 S26_1 D m t2 t3 t6 t7 t8 t14 t17 t19 h)
def S26_6 (D : CallD) (m : Nat) : Int → Int → Int → AV → AV → AV → AV → AV → Int → Int → HP → Res2 := nrec (fun _ _ _ _ _ _ _ _ _ _ _ => none) (fun _ g => S26_6b D m g) m
def e26_0 (k t2 t3 t6 t7 t8 t14 t17 h) := kN k [(p2, (vI t2)), (p3, (vI t3)), (p6, (vI t6)), (p7, t7), (p8, t8), (p14, t14), (p17, t17)] h
def S26_0 (D : CallD) (m : Nat) (t2 t3 t6 : Int) (t7 t8 t14 t17 : AV) (h : HP) : Res2 :=
 faC 4 t8 fun t72 =>
 cellC t72 h fun t73 =>
 lenC t73 fun vt74 => asI .i64 vt74 fun t74 =>
 S26_6 D m t2 t3 t6 t7 t8 t14 t17 (.nils : AV) t74 (Int.ofNat 0) h
def e26_7 (k t2 t3 t5 t6 t7 t8 t11 t14 t17 t35 t36 h) := kN k [(p2, (vI t2)), (p3, (vI t3)), (p5, t5), (p6, (vI t6)), (p7, t7), (p8, t8), (p11, t11), (p14, t14), (p17, t17), (p35, (vI t35)), (p36, (vI t36))] h
def S26_7b (D : CallD) (m : Nat) (g7 : Int → Int → AV → Int → AV → AV → AV → AV → AV → Int → Int → HP → Res2) (t2 t3 : Int) (t5 : AV) (t6 : Int) (t7 t8 t11 t14 t17 : AV) (t35 t36 : Int) (h : HP) : Res2 :=
 let t37 := ltQ t36 t35
 br t37 (
 faC 0 t17 fun t39 =>
 cellC t39 h fun t40 =>
 faC 2 t8 fun t41 =>
 cellC t41 h fun t42 =>
 iasC 1 t42 (vI t36) fun t44 =>
 ldI t44 h fun t45 =>
 faC 0 t11 fun t46 =>
 cellC t46 h fun t47 =>
 iasC 1 t5 (vI t36) fun t50 =>
 ldI t50 h fun t51 =>
 iasC 1 t47 (vI t51) fun t52 =>
 ldW t52 h fun t53 =>
 iasC 1 t40 (vI t45) fun t54 =>
 stoC t54 (vW t53) h fun h48 =>
 faC 1 t17 fun t55 =>
 cellC t55 h48 fun t56 =>
 faC 2 t8 fun t57 =>
 cellC t57 h48 fun t58 =>
 iasC 1 t58 (vI t36) fun t60 =>
 ldI t60 h48 fun t61 =>
 faC 1 t11 fun t62 =>
 cellC t62 h48 fun t63 =>
 iasC 1 t5 (vI t36) fun t66 =>
 ldI t66 h48 fun t67 =>
 iasC 1 t63 (vI t67) fun t68 =>
 cellC t68 h48 fun vt69 => asI .u64 vt69 fun t69 =>
 iasC 1 t56 (vI t61) fun t70 =>
 stoC t70 (AV.int .u64 t69) h48 fun h49 =>
 let t71 := wrQ .i64 (addQ t36 (Int.ofNat 1))
 g7 t2 t3 t5 t6 t7 t8 t11 t14 t17 t35 t71 h49) (
 S26_0 D m t2 t3 t6 t7 t8 t14 t17 h)
def S26_7 (D : CallD) (m : Nat) : Int → Int → AV → Int → AV → AV → AV → AV → AV → Int → Int → HP → Res2 := nrec (fun _ _ _ _ _ _ _ _ _ _ _ _ => none) (fun _ g => S26_7b D m g) m
def e26_8 (k t0 t1 t2 t3 t4 t5 t6 h) := kN k [(p0, t0), (p1, t1), (p2, (vI t2)), (p3, (vI t3)), (p4, t4), (p5, t5), (p6, (vI t6))] h
def S26_8 (D : CallD) (m : Nat) (t0 t1 : AV) (t2 t3 : Int) (t4 t5 : AV) (t6 : Int) (h : HP) : Res2 :=
 let t7 := AV.ptr (HP.nxQ h) 0
 let h9 := HP.newQ h (.cells true (AV.cells t0))
 let t8 := AV.ptr (HP.nxQ h9) 0
 let h10 := HP.newQ h9 (.cells true (AV.cells t1))
 let t11 := AV.ptr (HP.nxQ h10) 0
 let h11 := HP.newQ h10 (.cells true (AV.cells t4))
 let t14 := AV.ptr (HP.nxQ h11) 0
 let h12 := HP.newQ h11 (.cells true [.nils, .nils, .nils, .nils, .nils, (kI 0), (kI 0), (kI 0)])
 let t24 := (AV.ptr (HP.nxQ h9) (Nat.add 0 3))
 cellC t24 h12 fun t25 =>
 lenC t25 fun vt26 => asI .i64 vt26 fun t26 =>
 obQ (evA (.mksl [(.int .u32 (.ofNat 0))] 4 (.c (vI t26)) (.c (vI t26))) .leaf) fun r13 =>
 let t27 := vkV r13.2 (HP.nxQ h12)
 let h14 := HP.newQ h12 r13.1
 let t28 := (AV.ptr (HP.nxQ h9) (Nat.add 0 3))
 cellC t28 h14 fun t29 =>
 lenC t29 fun vt30 => asI .i64 vt30 fun t30 =>
 obQ (evA (.mksl [(.int .u64 (.ofNat 0))] 8 (.c (vI t30)) (.c (vI t30))) .leaf) fun r15 =>
 let t31 := vkV r15.2 (HP.nxQ h14)
 let h16 := HP.newQ h14 r15.1
 obQ (evP (.build [.nils, .nils] [⟨0, 1, (.c t27)⟩, ⟨1, 1, (.c t31)⟩]) .leaf) fun t32 =>
 let t17 := AV.ptr (HP.nxQ h16) 0
 let h17 := HP.newQ h16 (.cells true [.nils, .nils])
 stsC 2 t17 t32 h17 fun h18 =>
 let t33 := (AV.ptr (HP.nxQ h9) (Nat.add 0 2))
 cellC t33 h18 fun t34 =>
 lenC t34 fun vt35 => asI .i64 vt35 fun t35 =>
 S26_7 D m t2 t3 t5 t6 t7 t8 t11 t14 t17 t35 (Int.ofNat 0) h18
def S26 : SFn := fun D m args h u => nou u <| popV args fun t0 args => popV args fun t1 args => popI .i64 args fun t2 args => popI .i64 args fun t3 args => popV args fun t4 args => popV args fun t5 args => popI .i64 args fun t6 args => endA args (S26_8 D m t0 t1 t2 t3 t4 t5 t6 h)
theorem T26_2 (hE : FX x26 D m E) : S26_2 D m = e26_2 (E c26_2 []) := by unfold S26_2; rw [hE c26_2]; kernel_rfl
theorem T26_4 (hE : FX x26 D m E) (G3) : S26_4 D m (e26_3 G3) = e26_4 (E c26_4 [.blk 6, .blk 5, .lp v26_3 G3, .blk 4, .sj v26_2 c26_2]) := by unfold S26_4; rw [hE c26_4]; kernel_rfl
theorem T26_5 (hE : FX x26 D m E) (G3) : S26_5 D m (e26_3 G3) = e26_5 (E c26_5 [.blk 6, .blk 5, .lp v26_3 G3, .blk 4, .sj v26_2 c26_2]) := by unfold S26_5; rw [hE c26_5]; kernel_rfl
theorem T26_3b (hE : FX x26 D m E) (G3) : S26_3b D m (e26_3 G3) = e26_3 (E c26_3b [.lp v26_3 G3, .blk 4, .sj v26_2 c26_2]) := by unfold S26_3b; rw [T26_4 hE G3, T26_5 hE G3, T26_2 hE, hE c26_3b]; kernel_rfl
theorem T26_3 (hE : FX x26 D m E) : S26_3 D m = e26_3 (nrec (fun _ => none) (fun _ G3 st => E c26_3b [.lp v26_3 G3, .blk 4, .sj v26_2 c26_2] st) m) :=
  nrec_emb e26_3 (fun _ _ _ _ _ _ _ _ _ _ => none) (fun g => S26_3b D m g) (fun G3 st => E c26_3b [.lp v26_3 G3, .blk 4, .sj v26_2 c26_2] st) rfl (fun g => T26_3b hE g) m
theorem T26_1 (hE : FX x26 D m E) : S26_1 D m = e26_1 (E c26_1 []) := by unfold S26_1; rw [T26_3 hE, hE c26_1]; kernel_rfl
theorem T26_6b (hE : FX x26 D m E) (G6) : S26_6b D m (e26_6 G6) = e26_6 (E c26_6b [.lp v26_6 G6, .blk 2, .sj v26_1 c26_1]) := by unfold S26_6b; rw [T26_1 hE, hE c26_6b]; kernel_rfl
theorem T26_6 (hE : FX x26 D m E) : S26_6 D m = e26_6 (nrec (fun _ => none) (fun _ G6 st => E c26_6b [.lp v26_6 G6, .blk 2, .sj v26_1 c26_1] st) m) :=
  nrec_emb e26_6 (fun _ _ _ _ _ _ _ _ _ _ _ => none) (fun g => S26_6b D m g) (fun G6 st => E c26_6b [.lp v26_6 G6, .blk 2, .sj v26_1 c26_1] st) rfl (fun g => T26_6b hE g) m
theorem T26_0 (hE : FX x26 D m E) : S26_0 D m = e26_0 (E c26_0 []) := by unfold S26_0; rw [T26_6 hE, hE c26_0]; kernel_rfl
theorem T26_7b (hE : FX x26 D m E) (G7) : S26_7b D m (e26_7 G7) = e26_7 (E c26_7b [.lp v26_7 G7, .blk 0, .sj v26_0 c26_0]) := by unfold S26_7b; rw [T26_0 hE, hE c26_7b]; kernel_rfl
theorem T26_7 (hE : FX x26 D m E) : S26_7 D m = e26_7 (nrec (fun _ => none) (fun _ G7 st => E c26_7b [.lp v26_7 G7, .blk 0, .sj v26_0 c26_0] st) m) :=
  nrec_emb e26_7 (fun _ _ _ _ _ _ _ _ _ _ _ _ => none) (fun g => S26_7b D m g) (fun G7 st => E c26_7b [.lp v26_7 G7, .blk 0, .sj v26_0 c26_0] st) rfl (fun g => T26_7b hE g) m
theorem T26_8 (hE : FX x26 D m E) : S26_8 D m = e26_8 (E c26_e []) := by unfold S26_8; rw [T26_7 hE, hE c26_e]; kernel_rfl
theorem X26 : XTie S26 x26 := X_of fun D m E hE args h u => by unfold S26; rw [T26_8 hE]; kernel_rfl
/- 27 -/
def c27_e : XC := (.sO [.mv p2 (ci 0) tI] (.sO [.mv p4 q0 tW, .P p5 (.conv (.ii .i64) q4) tI, .mv p3 q5 tI] (.seq (.seq (.oX [.mv p6 q3 tI, .bn p7 .geq q6 (ci 2147483648) .b]) (.cond q7 (.seq (.oX [.mv p8 q3 tI, .bn p9 .sub q8 (ci 4294967296) tI, .mv p2 q9 tI]) .ret) .skip)) (.sO [.mv p10 q3 tI, .mv p2 q10 tI] (.s .ret)))))
def x27 : XFn := ⟨[tW], false, [(.tmp p2)], c27_e⟩
def e27_0 (k t0 h) := kN k [(p0, (vW t0))] h
def S27_0 (D : CallD) (m : Nat) (t0 : Int) (h : HP) : Res2 :=
 let t5 := wrapF .i64 t0
 let t7 := leQ (Int.ofNat 2147483648) t5
 br t7 (
 let t9 := wrQ .i64 (t5 - (Int.ofNat 4294967296))
 some (.ret (vI t9) h, .no)) (
 some (.ret (vI t5) h, .no))
def S27 : SFn := fun D m args h u => nou u <| popI .u32 args fun t0 args => endA args (S27_0 D m t0 h)
theorem T27_0 (hE : FX x27 D m E) : S27_0 D m = e27_0 (E c27_e []) := by unfold S27_0; rw [hE c27_e]; kernel_rfl
theorem X27 : XTie S27 x27 := X_of fun D m E hE args h u => by unfold S27; rw [T27_0 hE]; kernel_rfl
/- 28 -/
def v28_0 : List Pos := [p3]
def c28_0 : XC := (.sO [.mv p10 q3 tI, .P p11 (.conv (.ii .u32) q10) tW, .mv p2 q11 tW] (.s .ret))
def c28_e : XC := (.sO [.mv p2 (.c (.int .u32 (.ofNat 0))) tW] (.sO [.mv p4 q0 tI, .bn p5 .rem q4 (ci 4294967296) tI, .mv p3 q5 tI] (.sj v28_0 (.sO [.mv p6 q3 tI, .bn p7 .lss q6 (ci 0) .b] (.cond q7 (.s (.oX [.mv p8 q3 tI, .bn p9 .add q8 (ci 4294967296) tI, .mv p3 q9 tI])) (.s .skip))) c28_0)))
def x28 : XFn := ⟨[tI], false, [(.tmp p2)], c28_e⟩
def e28_0 (k t3 h) := kN k [(p3, (vI t3))] h
def S28_0 (D : CallD) (m : Nat) (t3 : Int) (h : HP) : Res2 :=
 let t11 := wrapF .u32 t3
 some (.ret (vW t11) h, .no)
def e28_1 (k t0 h) := kN k [(p0, (vI t0))] h
def S28_1 (D : CallD) (m : Nat) (t0 : Int) (h : HP) : Res2 :=
 let t5 := Int.tmod t0 (Int.ofNat 4294967296)
 let t7 := ltQ t5 (Int.ofNat 0)
 br t7 (
 let t9 := wrQ .i64 (addQ t5 (Int.ofNat 4294967296))
 S28_0 D m t9 h) (
 S28_0 D m t5 h)
def S28 : SFn := fun D m args h u => nou u <| popI .i64 args fun t0 args => endA args (S28_1 D m t0 h)
theorem T28_0 (hE : FX x28 D m E) : S28_0 D m = e28_0 (E c28_0 []) := by unfold S28_0; rw [hE c28_0]; kernel_rfl
theorem T28_1 (hE : FX x28 D m E) : S28_1 D m = e28_1 (E c28_e []) := by unfold S28_1; rw [T28_0 hE, hE c28_e]; kernel_rfl
theorem X28 : XTie S28 x28 := X_of fun D m E hE args h u => by unfold S28; rw [T28_1 hE]; kernel_rfl
/- 29 -/
def v29_0 : List Pos := [p3]
def c29_0 : XC := (.sO [.mv p12 q3 tI, .mv p2 q12 tI] (.s .ret))
def v29_1 : List Pos := [p0, p3, p4]
def c29_1b : XC := (.seq (.seq (.oX [.mv p5 q4 tI, .mv p6 q0 tI, .bn p7 .lss q5 q6 .b]) (.cond q7 .skip (.exit 0))) (.seq (.block 1 (.oX [.mv p10 q3 tI, .bn p11 .mul q10 (ci 2) tI, .mv p3 q11 tI])) (.s (.oX [.mv p8 q4 tI, .bn p9 .add q8 (ci 1) tI, .mv p4 q9 tI]))))
def c29_e : XC := (.sO [.mv p2 (ci 0) tI] (.sO [.mv p3 (ci 1) tI] (.sj v29_0 (.sO [.mv p4 (ci 0) tI] (.block 0 (.loop v29_1 c29_1b))) c29_0)))
def x29 : XFn := ⟨[tI], false, [(.tmp p2)], c29_e⟩
def e29_0 (k t3 h) := kN k [(p3, (vI t3))] h
def S29_0 (D : CallD) (m : Nat) (t3 : Int) (h : HP) : Res2 :=
 some (.ret (vI t3) h, .no)
def e29_1 (k t0 t3 t4 h) := kN k [(p0, (vI t0)), (p3, (vI t3)), (p4, (vI t4))] h
def S29_1b (D : CallD) (m : Nat) (g1 : Int → Int → Int → HP → Res2) (t0 t3 t4 : Int) (h : HP) : Res2 :=
 let t7 := ltQ t4 t0
 br t7 (
 let t11 := wrQ .i64 (t3 * (Int.ofNat 2))
 let t9 := wrQ .i64 (addQ t4 (Int.ofNat 1))
 g1 t0 t11 t9 h) (
 S29_0 D m t3 h)
def S29_1 (D : CallD) (m : Nat) : Int → Int → Int → HP → Res2 := nrec (fun _ _ _ _ => none) (fun _ g => S29_1b D m g) m
def e29_2 (k t0 h) := kN k [(p0, (vI t0))] h
def S29_2 (D : CallD) (m : Nat) (t0 : Int) (h : HP) : Res2 :=
 S29_1 D m t0 (Int.ofNat 1) (Int.ofNat 0) h
def S29 : SFn := fun D m args h u => nou u <| popI .i64 args fun t0 args => endA args (S29_2 D m t0 h)
theorem T29_0 (hE : FX x29 D m E) : S29_0 D m = e29_0 (E c29_0 []) := by unfold S29_0; rw [hE c29_0]; kernel_rfl
theorem T29_1b (hE : FX x29 D m E) (G1) : S29_1b D m (e29_1 G1) = e29_1 (E c29_1b [.lp v29_1 G1, .blk 0, .sj v29_0 c29_0]) := by unfold S29_1b; rw [T29_0 hE, hE c29_1b]; kernel_rfl
theorem T29_1 (hE : FX x29 D m E) : S29_1 D m = e29_1 (nrec (fun _ => none) (fun _ G1 st => E c29_1b [.lp v29_1 G1, .blk 0, .sj v29_0 c29_0] st) m) :=
  nrec_emb e29_1 (fun _ _ _ _ => none) (fun g => S29_1b D m g) (fun G1 st => E c29_1b [.lp v29_1 G1, .blk 0, .sj v29_0 c29_0] st) rfl (fun g => T29_1b hE g) m
theorem T29_2 (hE : FX x29 D m E) : S29_2 D m = e29_2 (E c29_e []) := by unfold S29_2; rw [T29_1 hE, hE c29_e]; kernel_rfl
theorem X29 : XTie S29 x29 := X_of fun D m E hE args h u => by unfold S29; rw [T29_2 hE]; kernel_rfl
/- 30 -/
def v30_0 : List Pos := [p7]
def c30_0 : XC := (.sO [.mv p56 q7 tW, .mv p6 q56 tW] (.s .ret))
def v30_2 : List Pos := [p0, p1, p2, p7, p8]
def c30_2 : XC := (.s (.oX [.mv p14 q8 tI, .bn p15 .add q14 (ci 1) tI, .mv p8 q15 tI]))
def v30_3 : List Pos := [p0, p1, p2, p7, p8, p11]
def c30_3 : XC := (.s (.oX [.mv p51 q7 tW, .mv p52 q11 tW, .mv p53 q8 tI, .bn p54 .shl q52 q53 tW, .bn p55 .add q51 q54 tW, .mv p7 q55 tW]))
def v30_1 : List Pos := [p0, p1, p2, p7, p8]
def c30_1b : XC := (.seq (.seq (.oX [.mv p12 q8 tI, .bn p13 .lss q12 (ci 32) .b]) (.cond q13 .skip (.exit 0))) (.sj v30_2 (.block 1 (.seq (.ops true (XL.of [.mv p16 q1 tW, .mv p17 q8 tI, .bn p18 .shr q16 q17 tW, .bn p19 .rem q18 (.c (.int .u32 (.ofNat 2))) tW, .mv p20 q2 tW, .mv p21 q8 tI, .bn p22 .shr q20 q21 tW, .bn p23 .rem q22 (.c (.int .u32 (.ofNat 2))) tW, .mv p9 q19 tW, .mv p10 q23 tW])) (.sO [.mv p11 (.c (.int .u32 (.ofNat 0))) tW] (.sj v30_3 (.sO [.mv p24 q0 tI, .bn p25 .eql q24 (ci 1) .b, .mv p26 q25 .b, .ge p26 (XL.of [.G p26 true p27 (.mov q9) tW, .G p26 true p28 (.mov q10) tW, .G p26 true p29 (.bin .neq q27 q28) .b, .P p30 (.pick q26 q29 (cb false)) .b]) p30 .b, .mv p31 q30 .b, .ge p31 (XL.of [.G p31 false p32 (.mov q0) tI, .G p31 false p33 (.bin .eql q32 (ci 2)) .b, .G p31 false p34 (.mov q33) .b, .ge p34 (XL.of [.G p34 true p35 (.mov q9) tW, .G p34 true p36 (.mov q10) tW, .G p34 true p37 (.bin .add q35 q36) tW, .G p34 true p38 (.bin .gtr q37 (.c (.int .u32 (.ofNat 0)))) .b, .G p31 false p39 (.pick q34 q38 (cb false)) .b]) p39 .b, .P p40 (.pick q31 (cb true) q39) .b]) p40 .b, .mv p41 q40 .b, .ge p41 (XL.of [.G p41 false p42 (.mov q0) tI, .G p41 false p43 (.bin .eql q42 (ci 3)) .b, .G p41 false p44 (.mov q43) .b, .ge p44 (XL.of [.G p44 true p45 (.mov q9) tW, .G p44 true p46 (.mov q10) tW, .G p44 true p47 (.bin .add q45 q46) tW, .G p44 true p48 (.bin .eql q47 (.c (.int .u32 (.ofNat 2)))) .b, .G p41 false p49 (.pick q44 q48 (cb false)) .b]) p49 .b, .P p50 (.pick q41 (cb true) q49) .b]) p50 .b] (.cond q50 (.s (.oX [.mv p11 (.c (.int .u32 (.ofNat 1))) tW])) (.s .skip))) c30_3)))) c30_2))
def c30_e : XC := (.sO [.mv p6 (.c (.int .u32 (.ofNat 0))) tW] (.sO [.mv p7 (.c (.int .u32 (.ofNat 0))) tW] (.sj v30_0 (.sO [.mv p8 (ci 0) tI] (.block 0 (.loop v30_1 c30_1b))) c30_0)))
def x30 : XFn := ⟨[tI, tW, tW], false, [(.tmp p6)], c30_e⟩
def e30_0 (k t7 h) := kN k [(p7, (vW t7))] h
def S30_0 (D : CallD) (m : Nat) (t7 : Int) (h : HP) : Res2 :=
 some (.ret (vW t7) h, .no)
def e30_2 (k t0 t1 t2 t7 t8 h) := kN k [(p0, (vI t0)), (p1, (vW t1)), (p2, (vW t2)), (p7, (vW t7)), (p8, (vI t8))] h
def S30_2 (D : CallD) (m : Nat) (g1 : Int → Int → Int → Int → Int → HP → Res2) (t0 t1 t2 t7 t8 : Int) (h : HP) : Res2 :=
 let t15 := wrQ .i64 (addQ t8 (Int.ofNat 1))
 g1 t0 t1 t2 t7 t15 h
def e30_3 (k t0 t1 t2 t7 t8 t11 h) := kN k [(p0, (vI t0)), (p1, (vW t1)), (p2, (vW t2)), (p7, (vW t7)), (p8, (vI t8)), (p11, (vW t11))] h
def S30_3 (D : CallD) (m : Nat) (g1 : Int → Int → Int → Int → Int → HP → Res2) (t0 t1 t2 t7 t8 t11 : Int) (h : HP) : Res2 :=
 obI .u32 (shiftF .shl .u32 t11 t8) fun t54 =>
 let t55 := wrQ .u32 (addQ t7 t54)
 S30_2 D m g1 t0 t1 t2 t55 t8 h
def e30_1 (k t0 t1 t2 t7 t8 h) := kN k [(p0, (vI t0)), (p1, (vW t1)), (p2, (vW t2)), (p7, (vW t7)), (p8, (vI t8))] h
def S30_1b (D : CallD) (m : Nat) (g1 : Int → Int → Int → Int → Int → HP → Res2) (t0 t1 t2 t7 t8 : Int) (h : HP) : Res2 :=
 let t13 := ltQ t8 (Int.ofNat 32)
 br t13 (
 obI .u32 (shiftF .shr .u32 t1 t8) fun t18 =>
 let t19 := Int.tmod t18 (Int.ofNat 2)
 obI .u32 (shiftF .shr .u32 t2 t8) fun t22 =>
 let t23 := Int.tmod t22 (Int.ofNat 2)
 let t25 := eqQ t0 (Int.ofNat 1)
 obB (brV t25 (
 let t29 := notQ (eqQ t19 t23)
 some (vB t29)) (
 some (vB false))) fun t30 =>
 obB (brV t30 (
 some (vB true)) (
 let t33 := eqQ t0 (Int.ofNat 2)
 obBV (brV t33 (
 let t37 := wrQ .u32 (addQ t19 t23)
 let t38 := ltQ (Int.ofNat 0) t37
 some (vB t38)) (
 some (vB false))) fun t39 =>
 some (vB t39))) fun t40 =>
 obB (brV t40 (
 some (vB true)) (
 let t43 := eqQ t0 (Int.ofNat 3)
 obBV (brV t43 (
 let t47 := wrQ .u32 (addQ t19 t23)
 let t48 := eqQ t47 (Int.ofNat 2)
 some (vB t48)) (
 some (vB false))) fun t49 =>
 some (vB t49))) fun t50 =>
 br t50 (
 S30_3 D m g1 t0 t1 t2 t7 t8 (Int.ofNat 1) h) (
 S30_3 D m g1 t0 t1 t2 t7 t8 (Int.ofNat 0) h)) (
 S30_0 D m t7 h)
def S30_1 (D : CallD) (m : Nat) : Int → Int → Int → Int → Int → HP → Res2 := nrec (fun _ _ _ _ _ _ => none) (fun _ g => S30_1b D m g) m
def e30_4 (k t0 t1 t2 h) := kN k [(p0, (vI t0)), (p1, (vW t1)), (p2, (vW t2))] h
def S30_4 (D : CallD) (m : Nat) (t0 t1 t2 : Int) (h : HP) : Res2 :=
 S30_1 D m t0 t1 t2 (Int.ofNat 0) (Int.ofNat 0) h
def S30 : SFn := fun D m args h u => nou u <| popI .i64 args fun t0 args => popI .u32 args fun t1 args => popI .u32 args fun t2 args => endA args (S30_4 D m t0 t1 t2 h)
theorem T30_0 (hE : FX x30 D m E) : S30_0 D m = e30_0 (E c30_0 []) := by unfold S30_0; rw [hE c30_0]; kernel_rfl
theorem T30_2 (hE : FX x30 D m E) (G1) : S30_2 D m (e30_1 G1) = e30_2 (E c30_2 [.lp v30_1 G1, .blk 0, .sj v30_0 c30_0]) := by unfold S30_2; rw [hE c30_2]; kernel_rfl
theorem T30_3 (hE : FX x30 D m E) (G1) : S30_3 D m (e30_1 G1) = e30_3 (E c30_3 [.blk 1, .sj v30_2 c30_2, .lp v30_1 G1, .blk 0, .sj v30_0 c30_0]) := by unfold S30_3; rw [T30_2 hE G1, hE c30_3]; kernel_rfl
theorem T30_1b (hE : FX x30 D m E) (G1) : S30_1b D m (e30_1 G1) = e30_1 (E c30_1b [.lp v30_1 G1, .blk 0, .sj v30_0 c30_0]) := by unfold S30_1b; rw [T30_3 hE G1, T30_0 hE, hE c30_1b]; kernel_rfl
theorem T30_1 (hE : FX x30 D m E) : S30_1 D m = e30_1 (nrec (fun _ => none) (fun _ G1 st => E c30_1b [.lp v30_1 G1, .blk 0, .sj v30_0 c30_0] st) m) :=
  nrec_emb e30_1 (fun _ _ _ _ _ _ => none) (fun g => S30_1b D m g) (fun G1 st => E c30_1b [.lp v30_1 G1, .blk 0, .sj v30_0 c30_0] st) rfl (fun g => T30_1b hE g) m
theorem T30_4 (hE : FX x30 D m E) : S30_4 D m = e30_4 (E c30_e []) := by unfold S30_4; rw [T30_1 hE, hE c30_e]; kernel_rfl
theorem X30 : XTie S30 x30 := X_of fun D m E hE args h u => by unfold S30; rw [T30_4 hE]; kernel_rfl
/- 31 -/
def v31_0 : List Pos := [p5]
def c31_0 : XC := (.sO [.mv p15 q5 tI, .mv p4 q15 tI] (.s .ret))
def c31_e : XC := (.sO [.mv p4 (ci 0) tI] (.sO [.mv p6 q0 tI, .mv p7 q1 tI, .bn p8 .quo q6 q7 tI, .mv p5 q8 tI] (.sj v31_0 (.sO [.mv p9 q0 tI, .mv p10 q1 tI, .bn p11 .rem q9 q10 tI, .bn p12 .lss q11 (ci 0) .b] (.cond q12 (.s (.oX [.mv p13 q5 tI, .bn p14 .sub q13 (ci 1) tI, .mv p5 q14 tI])) (.s .skip))) c31_0)))
def x31 : XFn := ⟨[tI, tI], false, [(.tmp p4)], c31_e⟩
def e31_0 (k t5 h) := kN k [(p5, (vI t5))] h
def S31_0 (D : CallD) (m : Nat) (t5 : Int) (h : HP) : Res2 :=
 some (.ret (vI t5) h, .no)
def e31_1 (k t0 t1 h) := kN k [(p0, (vI t0)), (p1, (vI t1))] h
def S31_1 (D : CallD) (m : Nat) (t0 t1 : Int) (h : HP) : Res2 :=
 obI .i64 (intBin .quo .i64 t0 t1) fun t8 =>
 obI .i64 (intBin .rem .i64 t0 t1) fun t11 =>
 let t12 := ltQ t11 (Int.ofNat 0)
 br t12 (
 let t14 := wrQ .i64 (t8 - (Int.ofNat 1))
 S31_0 D m t14 h) (
 S31_0 D m t8 h)
def S31 : SFn := fun D m args h u => nou u <| popI .i64 args fun t0 args => popI .i64 args fun t1 args => endA args (S31_1 D m t0 t1 h)
theorem T31_0 (hE : FX x31 D m E) : S31_0 D m = e31_0 (E c31_0 []) := by unfold S31_0; rw [hE c31_0]; kernel_rfl
theorem T31_1 (hE : FX x31 D m E) : S31_1 D m = e31_1 (E c31_e []) := by unfold S31_1; rw [T31_0 hE, hE c31_e]; kernel_rfl
theorem X31 : XTie S31 x31 := X_of fun D m E hE args h u => by unfold S31; rw [T31_1 hE]; kernel_rfl
/- 32 -/
def c32_e : XC := (.sO [.mv p4 (.c (.int .u32 (.ofNat 0))) tW] (.sO [.mv p10 q0 tW, .bn p11 .quo q10 (.c (.int .u32 (.ofNat 65536))) tW, .P p12 (.conv (.ii .i64) q11) tI, .mv p13 q0 tW, .bn p14 .rem q13 (.c (.int .u32 (.ofNat 65536))) tW, .P p15 (.conv (.ii .i64) q14) tI, .mv p16 q1 tW, .bn p17 .quo q16 (.c (.int .u32 (.ofNat 65536))) tW, .P p18 (.conv (.ii .i64) q17) tI, .mv p19 q1 tW, .bn p20 .rem q19 (.c (.int .u32 (.ofNat 65536))) tW, .P p21 (.conv (.ii .i64) q20) tI, .mv p5 q12 tI, .mv p6 q15 tI, .mv p7 q18 tI, .mv p8 q21 tI] (.sO [.mv p22 q5 tI, .mv p23 q8 tI, .bn p24 .mul q22 q23 tI, .mv p25 q6 tI, .mv p26 q7 tI, .bn p27 .mul q25 q26 tI, .bn p28 .add q24 q27 tI, .mv p29 q6 tI, .mv p30 q8 tI, .bn p31 .mul q29 q30 tI, .bn p32 .quo q31 (ci 65536) tI, .bn p33 .add q28 q32 tI, .mv p9 q33 tI] (.sO [.mv p34 q5 tI, .mv p35 q7 tI, .bn p36 .mul q34 q35 tI, .mv p37 q9 tI, .bn p38 .quo q37 (ci 65536) tI, .bn p39 .add q36 q38 tI, .P p40 (.conv (.ii .u32) q39) tW, .mv p4 q40 tW] (.s .ret)))))
def x32 : XFn := ⟨[tW, tW], false, [(.tmp p4)], c32_e⟩
def e32_0 (k t0 t1 h) := kN k [(p0, (vW t0)), (p1, (vW t1))] h
def S32_0 (D : CallD) (m : Nat) (t0 t1 : Int) (h : HP) : Res2 :=
 let t11 := wrapF .u32 (Int.tdiv t0 (Int.ofNat 65536))
 let t12 := wrapF .i64 t11
 let t14 := Int.tmod t0 (Int.ofNat 65536)
 let t15 := wrapF .i64 t14
 let t17 := wrapF .u32 (Int.tdiv t1 (Int.ofNat 65536))
 let t18 := wrapF .i64 t17
 let t20 := Int.tmod t1 (Int.ofNat 65536)
 let t21 := wrapF .i64 t20
 let t24 := wrQ .i64 (t12 * t21)
 let t27 := wrQ .i64 (t15 * t18)
 let t28 := wrQ .i64 (addQ t24 t27)
 let t31 := wrQ .i64 (t15 * t21)
 let t32 := wrapF .i64 (Int.tdiv t31 (Int.ofNat 65536))
 let t33 := wrQ .i64 (addQ t28 t32)
 let t36 := wrQ .i64 (t12 * t18)
 let t38 := wrapF .i64 (Int.tdiv t33 (Int.ofNat 65536))
 let t39 := wrQ .i64 (addQ t36 t38)
 let t40 := wrapF .u32 t39
 some (.ret (vW t40) h, .no)
def S32 : SFn := fun D m args h u => nou u <| popI .u32 args fun t0 args => popI .u32 args fun t1 args => endA args (S32_0 D m t0 t1 h)
theorem T32_0 (hE : FX x32 D m E) : S32_0 D m = e32_0 (E c32_e []) := by unfold S32_0; rw [hE c32_e]; kernel_rfl
theorem X32 : XTie S32 x32 := X_of fun D m E hE args h u => by unfold S32; rw [T32_0 hE]; kernel_rfl
/- 33 -/
def v33_1 : List Pos := []
def c33_1 : XC := (.sO [.mv p6 (.c (.int .u32 (.ofNat 0))) tW, .mv p7 (cb false) .b] (.s .ret))
def v33_3 : List Pos := [p1, p8, p9, p34]
def c33_3 : XC := (.cond q34 (.seq (.seq (.oX [.mv p37 q9 tI, .bn p38 .eql q37 (ci 0) .b]) (.cond q38 (.seq (.oX [.mv p39 q1 tW, .mv p6 q39 tW, .mv p7 (cb true) .b]) .ret) .skip)) (.sO [.mv p40 q8 tI, .mv p41 q9 tI, .bn p42 .rem q40 q41 tI, .cl p43 28 [q42] tW, .mv p6 q43 tW, .mv p7 (cb true) .b] (.s .ret))) (.s .skip))
def v33_2 : List Pos := [p1, p8, p9, p24, p25]
def c33_2 : XC := (.cond q25 (.seq (.seq (.oX [.mv p28 q9 tI, .bn p29 .eql q28 (ci 0) .b]) (.cond q29 (.seq (.oX [.mv p6 (.c (.int .u32 (.ofNat 4294967295))) tW, .mv p7 (cb true) .b]) .ret) .skip)) (.sO [.mv p30 q8 tI, .mv p31 q9 tI, .bn p32 .quo q30 q31 tI, .cl p33 28 [q32] tW, .mv p6 q33 tW, .mv p7 (cb true) .b] (.s .ret))) (.sj v33_3 (.sO [.bn p35 .eql q24 (ci 16) .b, .mv p34 q35 .b] (.cond q34 (.s .skip) (.s (.oX [.bn p36 .eql q24 (ci 17) .b, .mv p34 q36 .b])))) c33_3))
def v33_0 : List Pos := [p0, p1, p8, p9]
def c33_0 : XC := (.sj v33_1 (.sO [.mv p24 q0 tI] (.block 0 (.sj v33_2 (.sO [.bn p26 .eql q24 (ci 14) .b, .mv p25 q26 .b] (.cond q25 (.s .skip) (.s (.oX [.bn p27 .eql q24 (ci 15) .b, .mv p25 q27 .b])))) c33_2))) c33_1)
def c33_e : XC := (.sO [.mv p6 (.c (.int .u32 (.ofNat 0))) tW, .mv p7 (cb false) .b] (.sO [.mv p10 q1 tW, .cl p11 27 [q10] tI, .mv p12 q2 tW, .cl p13 27 [q12] tI, .mv p8 q11 tI, .mv p9 q13 tI] (.sj v33_0 (.sO [.mv p14 q0 tI, .bn p15 .eql q14 (ci 15) .b, .mv p16 q15 .b, .ge p16 (XL.of [.G p16 false p17 (.mov q0) tI, .G p16 false p18 (.bin .eql q17 (ci 17)) .b, .P p19 (.pick q16 (cb true) q18) .b]) p19 .b] (.cond q19 (.sO [.mv p20 q1 tW, .P p21 (.conv (.ii .i64) q20) tI, .mv p8 q21 tI] (.s (.oX [.mv p22 q2 tW, .P p23 (.conv (.ii .i64) q22) tI, .mv p9 q23 tI]))) (.s .skip))) c33_0)))
def x33 : XFn := ⟨[tI, tW, tW], false, [(.tmp p6), (.tmp p7)], c33_e⟩
def e33_1 (k h) := kN k [] h
def S33_1 (D : CallD) (m : Nat) (h : HP) : Res2 :=
 some (.ret (.tup [(vW (Int.ofNat 0)), (vB false)]) h, .no)
def e33_3 (k t1 t8 t9 t34 h) := kN k [(p1, (vW t1)), (p8, (vI t8)), (p9, (vI t9)), (p34, (vB t34))] h
def S33_3 (D : CallD) (m : Nat) (t1 t8 t9 : Int) (t34 : Bool) (h : HP) : Res2 :=
 br t34 (
 let t38 := eqQ t9 (Int.ofNat 0)
 br t38 (
 some (.ret (.tup [(vW t1), (vB true)]) h, .no)) (
 obI .i64 (intBin .rem .i64 t8 t9) fun t42 =>
 cal D 28 [(vI t42)] h fun t43 h8 =>
 asI .u32 t43 fun t43a =>
 some (.ret (.tup [(vW t43a), (vB true)]) h8, .no))) (
 S33_1 D m h)
def e33_2 (k t1 t8 t9 t24 t25 h) := kN k [(p1, (vW t1)), (p8, (vI t8)), (p9, (vI t9)), (p24, (vI t24)), (p25, (vB t25))] h
def S33_2 (D : CallD) (m : Nat) (t1 t8 t9 t24 : Int) (t25 : Bool) (h : HP) : Res2 :=
 br t25 (
 let t29 := eqQ t9 (Int.ofNat 0)
 br t29 (
 some (.ret (.tup [(vW (Int.ofNat 4294967295)), (vB true)]) h, .no)) (
 obI .i64 (intBin .quo .i64 t8 t9) fun t32 =>
 cal D 28 [(vI t32)] h fun t33 h7 =>
 asI .u32 t33 fun t33a =>
 some (.ret (.tup [(vW t33a), (vB true)]) h7, .no))) (
 let t35 := eqQ t24 (Int.ofNat 16)
 br t35 (
 S33_3 D m t1 t8 t9 t35 h) (
 let t36 := eqQ t24 (Int.ofNat 17)
 S33_3 D m t1 t8 t9 t36 h))
def e33_0 (k t0 t1 t8 t9 h) := kN k [(p0, (vI t0)), (p1, (vW t1)), (p8, (vI t8)), (p9, (vI t9))] h
def S33_0 (D : CallD) (m : Nat) (t0 t1 t8 t9 : Int) (h : HP) : Res2 :=
 let t26 := eqQ t0 (Int.ofNat 14)
 br t26 (
 S33_2 D m t1 t8 t9 t0 t26 h) (
 let t27 := eqQ t0 (Int.ofNat 15)
 S33_2 D m t1 t8 t9 t0 t27 h)
def e33_4 (k t0 t1 t2 h) := kN k [(p0, (vI t0)), (p1, (vW t1)), (p2, (vW t2))] h
def S33_4 (D : CallD) (m : Nat) (t0 t1 t2 : Int) (h : HP) : Res2 :=
 cal D 27 [(vW t1)] h fun t11 h5 =>
 asI .i64 t11 fun t11a =>
 cal D 27 [(vW t2)] h5 fun t13 h6 =>
 asI .i64 t13 fun t13a =>
 let t15 := eqQ t0 (Int.ofNat 15)
 obB (brV t15 (
 some (vB true)) (
 let t18 := eqQ t0 (Int.ofNat 17)
 some (vB t18))) fun t19 =>
 br t19 (
 let t21 := wrapF .i64 t1
 let t23 := wrapF .i64 t2
 S33_0 D m t0 t1 t21 t23 h6) (
 S33_0 D m t0 t1 t11a t13a h6)
def S33 : SFn := fun D m args h u => nou u <| popI .i64 args fun t0 args => popI .u32 args fun t1 args => popI .u32 args fun t2 args => endA args (S33_4 D m t0 t1 t2 h)
theorem T33_1 (hE : FX x33 D m E) : S33_1 D m = e33_1 (E c33_1 []) := by unfold S33_1; rw [hE c33_1]; kernel_rfl
theorem T33_3 (hE : FX x33 D m E) : S33_3 D m = e33_3 (E c33_3 [.blk 0, .sj v33_1 c33_1]) := by unfold S33_3; rw [T33_1 hE, hE c33_3]; kernel_rfl
theorem T33_2 (hE : FX x33 D m E) : S33_2 D m = e33_2 (E c33_2 [.blk 0, .sj v33_1 c33_1]) := by unfold S33_2; rw [T33_3 hE, hE c33_2]; kernel_rfl
theorem T33_0 (hE : FX x33 D m E) : S33_0 D m = e33_0 (E c33_0 []) := by unfold S33_0; rw [T33_2 hE, hE c33_0]; kernel_rfl
theorem T33_4 (hE : FX x33 D m E) : S33_4 D m = e33_4 (E c33_e []) := by unfold S33_4; rw [T33_0 hE, hE c33_e]; kernel_rfl
theorem X33 : XTie S33 x33 := X_of fun D m E hE args h u => by unfold S33; rw [T33_4 hE]; kernel_rfl
/- 48 -/
def v48_0 : List Pos := [p2, p8, p9]
def c48_0 : XC := (.seq (.seq (.oX [.fa p46 3 q8, .ld p47 q46 tI, .bn p48 .neq q47 (ci 0) .b]) (.cond q48 (.seq (.ops true (XL.of [.P p49 (.build [.nils] []) .v, .fa p50 4 q8, .ld p51 q50 tI, .fa p52 3 q8, .ld p53 q52 tI, .o ⟨none, (.e (.stores 1 q2 q49)), none, [⟨none, .cell q50, p51⟩, ⟨none, .cell q52, p53⟩]⟩ .v, .mv p3 q51 tI, .mv p4 q53 tI])) .ret) .skip)) (.sO [.L p54 (.cells 1 q9) .v, .ss 1 q2 q54, .mv p3 (ci 0) tI, .mv p4 (ci 0) tI] (.s .ret)))
def v48_2 : List Pos := [p2, p8, p9]
def c48_2 : XC := (.block 1 (.sO [.P p34 (.build [(.bool false), (.bool false), (.bool false), (.str []), (kI 0), (kI 0), .nils, (.bool false), .nils, (kI 0), .nils, .nils, (.str []), (kI 0), (kI 0), (kI 0), (kI 0)] []) .v, .al p10 (.new [(.bool false), (.bool false), (.bool false), (.str []), (kI 0), (kI 0), .nils, (.bool false), .nils, (kI 0), .nils, .nils, (.str []), (kI 0), (kI 0), (kI 0), (kI 0)]), .ss 17 q10 q34] (.sO [.L p36 (.cells 5 q8) .v, .cl p37 83 [q36] .v, .mv p35 q37 .v, .P p38 (.ext q35 0) .v, .P p39 (.ext q35 1) .v, .ss 5 q8 q38, .ss 17 q10 q39] (.s (.oX [.fa p40 0 q9, .ld p41 q40 .v, .L p42 (.cells 17 q10) .v, .al p43 (.bsl [(.bool false), (.bool false), (.bool false), (.str []), (kI 0), (kI 0), .nils, (.bool false), .nils, (kI 0), .nils, .nils, (.str []), (kI 0), (kI 0), (kI 0), (kI 0)] 1 [⟨0, 17, q42⟩]), .o ⟨(some p44), (.e (.app 17 200 q41 q43)), none, []⟩ .v, .fa p45 0 q9, .st q45 q44])))))
def c48_4 : XC := (.cond q33 (.s .skip) (.s (.exit 0)))
def l48_3 : XL := (XL.of [])
def v48_1 : List Pos := [p2, p8, p9]
def c48_1b : XC := (.sj v48_2 (.opq false (XL.pre [.fa p25 3 q8, .ld p26 q25 tI, .bn p27 .eql q26 (ci 0) .b, .mv p28 q27 .b, .sp p28, .o ⟨(some p29), (.l (.cells 5 q8)), (some (p28, true)), []⟩ .v, .o ⟨(some p30), (.call (.fn 82) [q29]), (some (p28, true)), []⟩ .v, .G p28 true p31 (.field 0 1 false q30) tI, .G p28 true p32 (.bin .neq q31 (ci 0)) .b, .P p33 (.pick q28 q32 (cb false)) .b, .jn p28 [p2, p8, p9, p33]] l48_3) c48_4) c48_2)
def c48_e : XC := (.sO [.al p2 (.new [.nils]), .mv p3 (ci 0) tI, .mv p4 (ci 0) tI] (.sO [.mv p12 q0 .s, .cl p13 81 [q12] .v, .mv p11 q13 .v, .P p14 (.ext q11 0) .v, .P p15 (.ext q11 1) tI, .P p16 (.ext q11 2) tI, .mv p5 q14 .v, .mv p6 q15 tI, .mv p7 q16 tI] (.seq (.seq (.oX [.mv p17 q7 tI, .bn p18 .neq q17 (ci 0) .b]) (.cond q18 (.seq (.oX [.P p19 (.build [.nils] []) .v, .mv p20 q6 tI, .mv p21 q7 tI, .ss 1 q2 q19, .mv p3 q20 tI, .mv p4 q21 tI]) .ret) .skip)) (.sO [.mv p22 q5 .v, .P p23 (.build [.nils, (kI 0), (kI 0), (kI 0), (kI 0)] [⟨0, 1, q22⟩]) .v, .al p8 (.new [.nils, (kI 0), (kI 0), (kI 0), (kI 0)]), .ss 5 q8 q23] (.sO [.P p24 (.build [.nils] []) .v, .al p9 (.new [.nils]), .ss 1 q9 q24] (.sj v48_0 (.block 0 (.loop v48_1 c48_1b)) c48_0))))))
def x48 : XFn := ⟨[.s], false, [(.cells 1 p2), (.tmp p3), (.tmp p4)], c48_e⟩
def e48_0 (k t2 t8 t9 h) := kN k [(p2, t2), (p8, t8), (p9, t9)] h
def S48_0 (D : CallD) (m : Nat) (t2 t8 t9 : AV) (h : HP) : Res2 :=
 faC 3 t8 fun t46 =>
 ldI t46 h fun t47 =>
 let t48 := notQ (eqQ t47 (Int.ofNat 0))
 br t48 (
 let t49 := (AV.agg [(.nils : AV)])
 faC 4 t8 fun t50 =>
 ldI t50 h fun t51 =>
 faC 3 t8 fun t52 =>
 ldI t52 h fun t53 =>
 stsC 1 t2 t49 h fun h13 =>
 br (againE (.stores 1 q2 q49) [⟨none, .cell q50, p51⟩, ⟨none, .cell q52, p53⟩] (mkT [(p2, t2), (p53, (vI t53)), (p52, t52), (p51, (vI t51)), (p50, t50)]) h13) (
 cellsC 1 t2 h13 fun t2a =>
 some (.ret (.tup [t2a, (vI t51), (vI t53)]) h13, .no)) none) (
 cellsC 1 t9 h fun t54 =>
 stsC 1 t2 t54 h fun h14 =>
 cellsC 1 t2 h14 fun t2a =>
 some (.ret (.tup [t2a, (vI (Int.ofNat 0)), (vI (Int.ofNat 0))]) h14, .no))
def e48_2 (k t2 t8 t9 h) := kN k [(p2, t2), (p8, t8), (p9, t9)] h
def S48_2 (D : CallD) (m : Nat) (g1 : AV → AV → AV → HP → Res2) (t2 t8 t9 : AV) (h : HP) : Res2 :=
 let t34 := (AV.agg [(vB false), (vB false), (vB false), (vS ([] : LN)), (vI (Int.ofNat 0)), (vI (Int.ofNat 0)), (.nils : AV), (vB false), (.nils : AV), (vI (Int.ofNat 0)), (.nils : AV), (.nils : AV), (vS ([] : LN)), (vI (Int.ofNat 0)), (vI (Int.ofNat 0)), (vI (Int.ofNat 0)), (vI (Int.ofNat 0))])
 let t10 := AV.ptr (HP.nxQ h) 0
 let h15 := HP.newQ h (.cells true [(.bool false), (.bool false), (.bool false), (.str []), (kI 0), (kI 0), .nils, (.bool false), .nils, (kI 0), .nils, .nils, (.str []), (kI 0), (kI 0), (kI 0), (kI 0)])
 stsC 17 t10 t34 h15 fun h16 =>
 cellsC 5 t8 h16 fun t36 =>
 cal D 83 [t36] h16 fun t37 h17 =>
 extC t37 0 fun t38 =>
 extC t37 1 fun t39 =>
 stsC 5 t8 t38 h17 fun h18 =>
 stsC 17 t10 t39 h18 fun h19 =>
 faC 0 t9 fun t40 =>
 cellC t40 h19 fun t41 =>
 cellsC 17 t10 h19 fun t42 =>
 obQ (evA (.bsl [(.bool false), (.bool false), (.bool false), (.str []), (kI 0), (kI 0), .nils, (.bool false), .nils, (kI 0), .nils, .nils, (.str []), (kI 0), (kI 0), (kI 0), (kI 0)] 1 [⟨0, 17, (.c t42)⟩]) .leaf) fun r20 =>
 let t43 := vkV r20.2 (HP.nxQ h19)
 let h21 := HP.newQ h19 r20.1
 eff (.app 17 200 (.c t41) (.c t43)) h21 fun t44 h22 =>
 faC 0 t9 fun t45 =>
 stoC t45 t44 h22 fun h23 =>
 g1 t2 t8 t9 h23
def e48_3 (k t2 t8 t9 t33 h) := kN k [(p2, t2), (p8, t8), (p9, t9), (p33, (vB t33))] h
def S48_3 (D : CallD) (m : Nat) (g1 : AV → AV → AV → HP → Res2) (t2 t8 t9 : AV) (t33 : Bool) (h : HP) : Res2 :=
 br t33 (
 S48_2 D m g1 t2 t8 t9 h) (
 S48_0 D m t2 t8 t9 h)
def e48_1 (k t2 t8 t9 h) := kN k [(p2, t2), (p8, t8), (p9, t9)] h
def S48_1b (D : CallD) (m : Nat) (g1 : AV → AV → AV → HP → Res2) (t2 t8 t9 : AV) (h : HP) : Res2 :=
 faC 3 t8 fun t25 =>
 ldI t25 h fun t26 =>
 let t27 := eqQ t26 (Int.ofNat 0)
 br t27 (
 cellsC 5 t8 h fun t29 =>
 cal D 82 [t29] h fun t30 h24 =>
 fldC 0 1 false t30 fun vt31 => asI .i64 vt31 fun t31 =>
 let t32 := notQ (eqQ t31 (Int.ofNat 0))
 S48_3 D m g1 t2 t8 t9 t32 h24) (
 S48_3 D m g1 t2 t8 t9 false h)
def S48_1 (D : CallD) (m : Nat) : AV → AV → AV → HP → Res2 := nrec (fun _ _ _ _ => none) (fun _ g => S48_1b D m g) m
def e48_5 (k t0 h) := kN k [(p0, (vS t0))] h
def S48_5 (D : CallD) (m : Nat) (t0 : LN) (h : HP) : Res2 :=
 let t2 := AV.ptr (HP.nxQ h) 0
 let h6 := HP.newQ h (.cells true [.nils])
 cal D 81 [(vS t0)] h6 fun t13 h7 =>
 extC t13 0 fun t14 =>
 extC t13 1 fun vt15 => asI .i64 vt15 fun t15 =>
 extC t13 2 fun vt16 => asI .i64 vt16 fun t16 =>
 let t18 := notQ (eqQ t16 (Int.ofNat 0))
 br t18 (
 let t19 := (AV.agg [(.nils : AV)])
 stsC 1 t2 t19 h7 fun h8 =>
 cellsC 1 t2 h8 fun t2a =>
 some (.ret (.tup [t2a, (vI t15), (vI t16)]) h8, .no)) (
 obQ (evP (.build [.nils, (kI 0), (kI 0), (kI 0), (kI 0)] [⟨0, 1, (.c t14)⟩]) .leaf) fun t23 =>
 let t8 := AV.ptr (HP.nxQ h7) 0
 let h9 := HP.newQ h7 (.cells true [.nils, (kI 0), (kI 0), (kI 0), (kI 0)])
 stsC 5 t8 t23 h9 fun h10 =>
 let t24 := (AV.agg [(.nils : AV)])
 let t9 := AV.ptr (HP.nxQ h10) 0
 let h11 := HP.newQ h10 (.cells true [.nils])
 stsC 1 t9 t24 h11 fun h12 =>
 S48_1 D m t2 t8 t9 h12)
def S48 : SFn := fun D m args h u => nou u <| popS args fun t0 args => endA args (S48_5 D m t0 h)
theorem T48_0 (hE : FX x48 D m E) : S48_0 D m = e48_0 (E c48_0 []) := by unfold S48_0; rw [hE c48_0]; kernel_rfl
theorem T48_2 (hE : FX x48 D m E) (G1) : S48_2 D m (e48_1 G1) = e48_2 (E c48_2 [.lp v48_1 G1, .blk 0, .sj v48_0 c48_0]) := by unfold S48_2; rw [hE c48_2]; kernel_rfl
theorem T48_3 (hE : FX x48 D m E) (G1) : S48_3 D m (e48_1 G1) = e48_3 (E (.opq false l48_3 c48_4) [.sj v48_2 c48_2, .lp v48_1 G1, .blk 0, .sj v48_0 c48_0]) := by unfold S48_3; rw [T48_2 hE G1, T48_0 hE, hE (.opq false l48_3 c48_4)]; kernel_rfl
theorem T48_1b (hE : FX x48 D m E) (G1) : S48_1b D m (e48_1 G1) = e48_1 (E c48_1b [.lp v48_1 G1, .blk 0, .sj v48_0 c48_0]) := by unfold S48_1b; rw [T48_3 hE G1, hE c48_1b]; kernel_rfl
theorem T48_1 (hE : FX x48 D m E) : S48_1 D m = e48_1 (nrec (fun _ => none) (fun _ G1 st => E c48_1b [.lp v48_1 G1, .blk 0, .sj v48_0 c48_0] st) m) :=
  nrec_emb e48_1 (fun _ _ _ _ => none) (fun g => S48_1b D m g) (fun G1 st => E c48_1b [.lp v48_1 G1, .blk 0, .sj v48_0 c48_0] st) rfl (fun g => T48_1b hE g) m
theorem T48_5 (hE : FX x48 D m E) : S48_5 D m = e48_5 (E c48_e []) := by unfold S48_5; rw [T48_1 hE, hE c48_e]; kernel_rfl
theorem X48 : XTie S48 x48 := X_of fun D m E hE args h u => by unfold S48; rw [T48_5 hE]; kernel_rfl
/- 49 -/
def v49_1 : List Pos := [p2, p5, p6]
def c49_1 : XC := (.seq (.seq (.oX [.fa p109 5 q5, .ld p110 q109 tI, .bn p111 .neq q110 (ci 0) .b]) (.cond q111 (.seq (.ops true (XL.of [.P p112 (.build [.nils] []) .v, .fa p113 6 q5, .ld p114 q113 tI, .fa p115 5 q5, .ld p116 q115 tI, .o ⟨none, (.e (.stores 1 q2 q112)), none, [⟨none, .cell q113, p114⟩, ⟨none, .cell q115, p116⟩]⟩ .v, .mv p3 q114 tI, .mv p4 q116 tI])) .ret) .skip)) (.sO [.L p117 (.cells 1 q6) .v, .ss 1 q2 q117, .mv p3 (ci 0) tI, .mv p4 (ci 0) tI] (.s .ret)))
def v49_3 : List Pos := [p1, p2, p5, p6, p47, p48]
def c49_3 : XC := (.s (.oX [.bn p108 .add q48 (ci 1) tI, .mv p48 q108 tI]))
def v49_4 : List Pos := [p1, p2, p5, p6, p9, p10, p47, p48]
def c49_4 : XC := (.sO [.mv p98 q10 .b, .P p99 (.un .not q98) .b] (.cond q99 (.s (.ops true (XL.of [.L p100 (.cells 7 q5) .v, .fa p101 0 q1, .ld p102 q101 .v, .mv p103 q9 tI, .P p104 (.iaddr (.sl 17) q102 q103) .v, .fa p105 16 q104, .ld p106 q105 tI, .cl p107 86 [q100, (ci 13), q106] .v, .ss 7 q5 q107]))) (.s .skip)))
def v49_5 : List Pos := [p1, p2, p5, p6, p9, p10, p47, p48, p69, p70]
def c49_5b : XC := (.sO [.bn p71 .lss q70 q69 .b] (.seq (.cond q71 .skip (.exit 4)) (.seq (.block 5 (.seq (.oX [.mv p72 q70 tI, .mv p11 q72 tI]) (.ops true (XL.of [.mv p73 q10 .b, .mv p74 q73 .b, .ge p74 (XL.of [.G p74 false p75 (.faddr 0 q1) .v, .o ⟨(some p76), (.l (.cell q75)), (some (p74, false)), []⟩ .v, .G p74 false p77 (.mov q11) tI, .G p74 false p78 (.iaddr (.sl 17) q76 q77) .v, .G p74 false p79 (.faddr 3 q78) .v, .o ⟨(some p80), (.l (.cell q79)), (some (p74, false)), []⟩ .s, .G p74 false p81 (.faddr 0 q1) .v, .o ⟨(some p82), (.l (.cell q81)), (some (p74, false)), []⟩ .v, .G p74 false p83 (.mov q9) tI, .G p74 false p84 (.iaddr (.sl 17) q82 q83) .v, .G p74 false p85 (.faddr 3 q84) .v, .o ⟨(some p86), (.l (.cell q85)), (some (p74, false)), []⟩ .s, .G p74 false p87 (.bin .eql q80 q86) .b, .G p74 false p88 (.mov q87) .b, .ge p88 (XL.of [.G p88 true p89 (.faddr 0 q1) .v, .o ⟨(some p90), (.l (.cell q89)), (some (p88, true)), []⟩ .v, .G p88 true p91 (.mov q11) tI, .G p88 true p92 (.iaddr (.sl 17) q90 q91) .v, .G p88 true p93 (.faddr 7 q92) .v, .o ⟨(some p94), (.l (.cell q93)), (some (p88, true)), []⟩ .b, .G p74 false p95 (.pick q88 q94 (cb false)) .b]) p95 .b, .P p96 (.pick q74 (cb true) q95) .b]) p96 .b, .mv p10 q96 .b])))) (.s (.oX [.bn p97 .add q70 (ci 1) tI, .mv p70 q97 tI])))))
def v49_2 : List Pos := [p1, p2, p5, p6, p47, p48]
def c49_2b : XC := (.sO [.bn p49 .lss q48 q47 .b] (.seq (.cond q49 .skip (.exit 2)) (.sj v49_3 (.block 3 (.sO [.mv p50 q48 tI, .mv p9 q50 tI] (.sO [.fa p51 0 q1, .ld p52 q51 .v, .mv p53 q9 tI, .P p54 (.iaddr (.sl 17) q52 q53) .v, .fa p55 0 q54, .ld p56 q55 .b, .P p57 (.un .not q56) .b, .mv p58 q57 .b, .ge p58 (XL.of [.G p58 false p59 (.faddr 0 q1) .v, .o ⟨(some p60), (.l (.cell q59)), (some (p58, false)), []⟩ .v, .G p58 false p61 (.mov q9) tI, .G p58 false p62 (.iaddr (.sl 17) q60 q61) .v, .G p58 false p63 (.faddr 1 q62) .v, .o ⟨(some p64), (.l (.cell q63)), (some (p58, false)), []⟩ .b, .G p58 false p65 (.un .not q64) .b, .P p66 (.pick q58 (cb true) q65) .b]) p66 .b, .mv p10 q66 .b] (.sj v49_4 (.sO [.fa p67 0 q1, .ld p68 q67 .v, .P p69 (.lenl q68) tI, .mv p70 (ci 0) tI] (.block 4 (.loop v49_5 c49_5b))) c49_4)))) c49_3)))
def v49_0 : List Pos := [p1, p2, p5, p6]
def c49_0 : XC := (.sj v49_1 (.sO [.fa p45 0 q1, .ld p46 q45 .v, .P p47 (.lenl q46) tI, .mv p48 (ci 0) tI] (.block 2 (.loop v49_2 c49_2b))) c49_1)
def v49_7 : List Pos := [p1, p2, p5, p6, p16, p17]
def c49_7 : XC := (.s (.oX [.bn p44 .add q17 (ci 1) tI, .mv p17 q44 tI]))
def v49_8 : List Pos := [p1, p2, p5, p6, p8, p16, p17]
def c49_8 : XC := (.s (.oX [.fa p38 0 q6, .ld p39 q38 .v, .L p40 (.cells 17 q8) .v, .al p41 (.bsl [(.bool false), (.bool false), (.bool false), (.str []), (kI 0), (kI 0), .nils, (.bool false), .nils, (kI 0), .nils, .nils, (.str []), (kI 0), (kI 0), (kI 0), (kI 0)] 1 [⟨0, 17, q40⟩]), .o ⟨(some p42), (.e (.app 17 200 q39 q41)), none, []⟩ .v, .fa p43 0 q6, .st q43 q42]))
def v49_6 : List Pos := [p1, p2, p5, p6, p16, p17]
def c49_6b : XC := (.sO [.bn p18 .lss q17 q16 .b] (.seq (.cond q18 .skip (.exit 0)) (.sj v49_7 (.block 1 (.sO [.mv p19 q17 tI, .mv p7 q19 tI] (.sO [.P p20 (.build [(.bool false), (.bool false), (.bool false), (.str []), (kI 0), (kI 0), .nils, (.bool false), .nils, (kI 0), .nils, .nils, (.str []), (kI 0), (kI 0), (kI 0), (kI 0)] []) .v, .al p8 (.new [(.bool false), (.bool false), (.bool false), (.str []), (kI 0), (kI 0), .nils, (.bool false), .nils, (kI 0), .nils, .nils, (.str []), (kI 0), (kI 0), (kI 0), (kI 0)]), .ss 17 q8 q20] (.sj v49_8 (.sO [.fa p21 5 q5, .ld p22 q21 tI, .bn p23 .eql q22 (ci 0) .b] (.cond q23 (.s (.ops true (XL.of [.L p25 (.cells 7 q5) .v, .fa p26 0 q1, .ld p27 q26 .v, .mv p28 q7 tI, .P p29 (.iaddr (.sl 17) q27 q28) .v, .L p30 (.cells 17 q29) .v, .fa p31 0 q1, .ld p32 q31 .v, .mv p33 q7 tI, .P p34 (.slice (.sl 17) q32 none (some q33) none) .v, .cl p35 85 [q25, q30, q34] .v, .mv p24 q35 .v, .P p36 (.ext q24 0) .v, .P p37 (.ext q24 1) .v, .ss 7 q5 q36, .ss 17 q8 q37]))) (.s .skip))) c49_8)))) c49_7)))
def c49_e : XC := (.sO [.al p1 (.box q0), .al p2 (.new [.nils]), .mv p3 (ci 0) tI, .mv p4 (ci 0) tI] (.sO [.cl p12 84 [] .v, .al p5 (.new [.nils, (kI 0), (kI 0), (kI 0), (kI 0), (kI 0), (kI 0)]), .ss 7 q5 q12] (.sO [.P p13 (.build [.nils] []) .v, .al p6 (.new [.nils]), .ss 1 q6 q13] (.sj v49_0 (.sO [.fa p14 0 q1, .ld p15 q14 .v, .P p16 (.lenl q15) tI, .mv p17 (ci 0) tI] (.block 0 (.loop v49_6 c49_6b))) c49_0))))
def x49 : XFn := ⟨[.v], false, [(.cells 1 p2), (.tmp p3), (.tmp p4)], c49_e⟩
def e49_1 (k t2 t5 t6 h) := kN k [(p2, t2), (p5, t5), (p6, t6)] h
def S49_1 (D : CallD) (m : Nat) (t2 t5 t6 : AV) (h : HP) : Res2 :=
 faC 5 t5 fun t109 =>
 ldI t109 h fun t110 =>
 let t111 := notQ (eqQ t110 (Int.ofNat 0))
 br t111 (
 let t112 := (AV.agg [(.nils : AV)])
 faC 6 t5 fun t113 =>
 ldI t113 h fun t114 =>
 faC 5 t5 fun t115 =>
 ldI t115 h fun t116 =>
 stsC 1 t2 t112 h fun h17 =>
 br (againE (.stores 1 q2 q112) [⟨none, .cell q113, p114⟩, ⟨none, .cell q115, p116⟩] (mkT [(p2, t2), (p116, (vI t116)), (p115, t115), (p114, (vI t114)), (p113, t113)]) h17) (
 cellsC 1 t2 h17 fun t2a =>
 some (.ret (.tup [t2a, (vI t114), (vI t116)]) h17, .no)) none) (
 cellsC 1 t6 h fun t117 =>
 stsC 1 t2 t117 h fun h18 =>
 cellsC 1 t2 h18 fun t2a =>
 some (.ret (.tup [t2a, (vI (Int.ofNat 0)), (vI (Int.ofNat 0))]) h18, .no))
def e49_3 (k t1 t2 t5 t6 t47 t48 h) := kN k [(p1, t1), (p2, t2), (p5, t5), (p6, t6), (p47, (vI t47)), (p48, (vI t48))] h
def S49_3 (D : CallD) (m : Nat) (g2 : AV → AV → AV → AV → Int → Int → HP → Res2) (t1 t2 t5 t6 : AV) (t47 t48 : Int) (h : HP) : Res2 :=
 let t108 := wrQ .i64 (addQ t48 (Int.ofNat 1))
 g2 t1 t2 t5 t6 t47 t108 h
def e49_4 (k t1 t2 t5 t6 t9 t10 t47 t48 h) := kN k [(p1, t1), (p2, t2), (p5, t5), (p6, t6), (p9, (vI t9)), (p10, (vB t10)), (p47, (vI t47)), (p48, (vI t48))] h
def S49_4 (D : CallD) (m : Nat) (g2 : AV → AV → AV → AV → Int → Int → HP → Res2) (t1 t2 t5 t6 : AV) (t9 : Int) (t10 : Bool) (t47 t48 : Int) (h : HP) : Res2 :=
 let t99 := !t10
 br t99 (
 cellsC 7 t5 h fun t100 =>
 faC 0 t1 fun t101 =>
 cellC t101 h fun t102 =>
 iasC 17 t102 (vI t9) fun t104 =>
 faC 16 t104 fun t105 =>
 ldI t105 h fun t106 =>
 cal D 86 [t100, (vI (Int.ofNat 13)), (vI t106)] h fun t107 h19 =>
 stsC 7 t5 t107 h19 fun h20 =>
 S49_3 D m g2 t1 t2 t5 t6 t47 t48 h20) (
 S49_3 D m g2 t1 t2 t5 t6 t47 t48 h)
def e49_5 (k t1 t2 t5 t6 t9 t10 t47 t48 t69 t70 h) := kN k [(p1, t1), (p2, t2), (p5, t5), (p6, t6), (p9, (vI t9)), (p10, (vB t10)), (p47, (vI t47)), (p48, (vI t48)), (p69, (vI t69)), (p70, (vI t70))] h
def S49_5b (D : CallD) (m : Nat) (g5 : AV → AV → AV → AV → Int → Bool → Int → Int → Int → Int → HP → Res2) (g2 : AV → AV → AV → AV → Int → Int → HP → Res2) (t1 t2 t5 t6 : AV) (t9 : Int) (t10 : Bool) (t47 t48 t69 t70 : Int) (h : HP) : Res2 :=
 let t71 := ltQ t70 t69
 br t71 (
 obB (brV t10 (
 some (vB true)) (
 faCV 0 t1 fun t75 =>
 cellCV t75 h fun t76 =>
 iasCV 17 t76 (vI t70) fun t78 =>
 faCV 3 t78 fun t79 =>
 ldSV t79 h fun t80 =>
 faCV 0 t1 fun t81 =>
 cellCV t81 h fun t82 =>
 iasCV 17 t82 (vI t9) fun t84 =>
 faCV 3 t84 fun t85 =>
 ldSV t85 h fun t86 =>
 let t87 := eqL t80 t86
 obBV (brV t87 (
 faCV 0 t1 fun t89 =>
 cellCV t89 h fun t90 =>
 iasCV 17 t90 (vI t70) fun t92 =>
 faCV 7 t92 fun t93 =>
 ldBV t93 h fun t94 =>
 some (vB t94)) (
 some (vB false))) fun t95 =>
 some (vB t95))) fun t96 =>
 let t97 := wrQ .i64 (addQ t70 (Int.ofNat 1))
 g5 t1 t2 t5 t6 t9 t96 t47 t48 t69 t97 h) (
 S49_4 D m g2 t1 t2 t5 t6 t9 t10 t47 t48 h)
def S49_5 (D : CallD) (m : Nat) (g2 : AV → AV → AV → AV → Int → Int → HP → Res2) : AV → AV → AV → AV → Int → Bool → Int → Int → Int → Int → HP → Res2 := nrec (fun _ _ _ _ _ _ _ _ _ _ _ => none) (fun _ g => S49_5b D m g g2) m
def e49_2 (k t1 t2 t5 t6 t47 t48 h) := kN k [(p1, t1), (p2, t2), (p5, t5), (p6, t6), (p47, (vI t47)), (p48, (vI t48))] h
def S49_2b (D : CallD) (m : Nat) (g2 : AV → AV → AV → AV → Int → Int → HP → Res2) (t1 t2 t5 t6 : AV) (t47 t48 : Int) (h : HP) : Res2 :=
 let t49 := ltQ t48 t47
 br t49 (
 faC 0 t1 fun t51 =>
 cellC t51 h fun t52 =>
 iasC 17 t52 (vI t48) fun t54 =>
 faC 0 t54 fun t55 =>
 ldB t55 h fun t56 =>
 let t57 := !t56
 obB (brV t57 (
 some (vB true)) (
 faCV 0 t1 fun t59 =>
 cellCV t59 h fun t60 =>
 iasCV 17 t60 (vI t48) fun t62 =>
 faCV 1 t62 fun t63 =>
 ldBV t63 h fun t64 =>
 let t65 := !t64
 some (vB t65))) fun t66 =>
 faC 0 t1 fun t67 =>
 cellC t67 h fun t68 =>
 lenC t68 fun vt69 => asI .i64 vt69 fun t69 =>
 S49_5 D m g2 t1 t2 t5 t6 t48 t66 t47 t48 t69 (Int.ofNat 0) h) (
 S49_1 D m t2 t5 t6 h)
def S49_2 (D : CallD) (m : Nat) : AV → AV → AV → AV → Int → Int → HP → Res2 := nrec (fun _ _ _ _ _ _ _ => none) (fun _ g => S49_2b D m g) m
def e49_0 (k t1 t2 t5 t6 h) := kN k [(p1, t1), (p2, t2), (p5, t5), (p6, t6)] h
def S49_0 (D : CallD) (m : Nat) (t1 t2 t5 t6 : AV) (h : HP) : Res2 :=
 faC 0 t1 fun t45 =>
 cellC t45 h fun t46 =>
 lenC t46 fun vt47 => asI .i64 vt47 fun t47 =>
 S49_2 D m t1 t2 t5 t6 t47 (Int.ofNat 0) h
def e49_7 (k t1 t2 t5 t6 t16 t17 h) := kN k [(p1, t1), (p2, t2), (p5, t5), (p6, t6), (p16, (vI t16)), (p17, (vI t17))] h
def S49_7 (D : CallD) (m : Nat) (g6 : AV → AV → AV → AV → Int → Int → HP → Res2) (t1 t2 t5 t6 : AV) (t16 t17 : Int) (h : HP) : Res2 :=
 let t44 := wrQ .i64 (addQ t17 (Int.ofNat 1))
 g6 t1 t2 t5 t6 t16 t44 h
def e49_8 (k t1 t2 t5 t6 t8 t16 t17 h) := kN k [(p1, t1), (p2, t2), (p5, t5), (p6, t6), (p8, t8), (p16, (vI t16)), (p17, (vI t17))] h
def S49_8 (D : CallD) (m : Nat) (g6 : AV → AV → AV → AV → Int → Int → HP → Res2) (t1 t2 t5 t6 t8 : AV) (t16 t17 : Int) (h : HP) : Res2 :=
 faC 0 t6 fun t38 =>
 cellC t38 h fun t39 =>
 cellsC 17 t8 h fun t40 =>
 obQ (evA (.bsl [(.bool false), (.bool false), (.bool false), (.str []), (kI 0), (kI 0), .nils, (.bool false), .nils, (kI 0), .nils, .nils, (.str []), (kI 0), (kI 0), (kI 0), (kI 0)] 1 [⟨0, 17, (.c t40)⟩]) .leaf) fun r23 =>
 let t41 := vkV r23.2 (HP.nxQ h)
 let h24 := HP.newQ h r23.1
 eff (.app 17 200 (.c t39) (.c t41)) h24 fun t42 h25 =>
 faC 0 t6 fun t43 =>
 stoC t43 t42 h25 fun h26 =>
 S49_7 D m g6 t1 t2 t5 t6 t16 t17 h26
def e49_6 (k t1 t2 t5 t6 t16 t17 h) := kN k [(p1, t1), (p2, t2), (p5, t5), (p6, t6), (p16, (vI t16)), (p17, (vI t17))] h
def S49_6b (D : CallD) (m : Nat) (g6 : AV → AV → AV → AV → Int → Int → HP → Res2) (t1 t2 t5 t6 : AV) (t16 t17 : Int) (h : HP) : Res2 :=
 let t18 := ltQ t17 t16
 br t18 (
 let t20 := (AV.agg [(vB false), (vB false), (vB false), (vS ([] : LN)), (vI (Int.ofNat 0)), (vI (Int.ofNat 0)), (.nils : AV), (vB false), (.nils : AV), (vI (Int.ofNat 0)), (.nils : AV), (.nils : AV), (vS ([] : LN)), (vI (Int.ofNat 0)), (vI (Int.ofNat 0)), (vI (Int.ofNat 0)), (vI (Int.ofNat 0))])
 let t8 := AV.ptr (HP.nxQ h) 0
 let h21 := HP.newQ h (.cells true [(.bool false), (.bool false), (.bool false), (.str []), (kI 0), (kI 0), .nils, (.bool false), .nils, (kI 0), .nils, .nils, (.str []), (kI 0), (kI 0), (kI 0), (kI 0)])
 stsC 17 t8 t20 h21 fun h22 =>
 faC 5 t5 fun t21 =>
 ldI t21 h22 fun t22 =>
 let t23 := eqQ t22 (Int.ofNat 0)
 br t23 (
 cellsC 7 t5 h22 fun t25 =>
 faC 0 t1 fun t26 =>
 cellC t26 h22 fun t27 =>
 iasC 17 t27 (vI t17) fun t29 =>
 cellsC 17 t29 h22 fun t30 =>
 faC 0 t1 fun t31 =>
 cellC t31 h22 fun t32 =>
 obQ (evP (.slice (.sl 17) (.c t32) none (some (.c (vI t17))) none) .leaf) fun t34 =>
 cal D 85 [t25, t30, t34] h22 fun t35 h27 =>
 extC t35 0 fun t36 =>
 extC t35 1 fun t37 =>
 stsC 7 t5 t36 h27 fun h28 =>
 stsC 17 t8 t37 h28 fun h29 =>
 S49_8 D m g6 t1 t2 t5 t6 t8 t16 t17 h29) (
 S49_8 D m g6 t1 t2 t5 t6 t8 t16 t17 h22)) (
 S49_0 D m t1 t2 t5 t6 h)
def S49_6 (D : CallD) (m : Nat) : AV → AV → AV → AV → Int → Int → HP → Res2 := nrec (fun _ _ _ _ _ _ _ => none) (fun _ g => S49_6b D m g) m
def e49_9 (k t0 h) := kN k [(p0, t0)] h
def S49_9 (D : CallD) (m : Nat) (t0 : AV) (h : HP) : Res2 :=
 let t1 := AV.ptr (HP.nxQ h) 0
 let h10 := HP.newQ h (.cells true (AV.cells t0))
 let t2 := AV.ptr (HP.nxQ h10) 0
 let h11 := HP.newQ h10 (.cells true [.nils])
 cal D 84 [] h11 fun t12 h12 =>
 let t5 := AV.ptr (HP.nxQ h12) 0
 let h13 := HP.newQ h12 (.cells true [.nils, (kI 0), (kI 0), (kI 0), (kI 0), (kI 0), (kI 0)])
 stsC 7 t5 t12 h13 fun h14 =>
 let t13 := (AV.agg [(.nils : AV)])
 let t6 := AV.ptr (HP.nxQ h14) 0
 let h15 := HP.newQ h14 (.cells true [.nils])
 stsC 1 t6 t13 h15 fun h16 =>
 let t14 := (AV.ptr (HP.nxQ h) (Nat.add 0 0))
 cellC t14 h16 fun t15 =>
 lenC t15 fun vt16 => asI .i64 vt16 fun t16 =>
 S49_6 D m t1 t2 t5 t6 t16 (Int.ofNat 0) h16
def S49 : SFn := fun D m args h u => nou u <| popV args fun t0 args => endA args (S49_9 D m t0 h)
theorem T49_1 (hE : FX x49 D m E) : S49_1 D m = e49_1 (E c49_1 []) := by unfold S49_1; rw [hE c49_1]; kernel_rfl
theorem T49_3 (hE : FX x49 D m E) (G2) : S49_3 D m (e49_2 G2) = e49_3 (E c49_3 [.lp v49_2 G2, .blk 2, .sj v49_1 c49_1]) := by unfold S49_3; rw [hE c49_3]; kernel_rfl
theorem T49_4 (hE : FX x49 D m E) (G2) : S49_4 D m (e49_2 G2) = e49_4 (E c49_4 [.blk 3, .sj v49_3 c49_3, .lp v49_2 G2, .blk 2, .sj v49_1 c49_1]) := by unfold S49_4; rw [T49_3 hE G2, hE c49_4]; kernel_rfl
theorem T49_5b (hE : FX x49 D m E) (G5) (G2) : S49_5b D m (e49_5 G5) (e49_2 G2) = e49_5 (E c49_5b [.lp v49_5 G5, .blk 4, .sj v49_4 c49_4, .blk 3, .sj v49_3 c49_3, .lp v49_2 G2, .blk 2, .sj v49_1 c49_1]) := by unfold S49_5b; rw [T49_4 hE G2, hE c49_5b]; kernel_rfl
theorem T49_5 (hE : FX x49 D m E) (G2) : S49_5 D m (e49_2 G2) = e49_5 (nrec (fun _ => none) (fun _ G5 st => E c49_5b [.lp v49_5 G5, .blk 4, .sj v49_4 c49_4, .blk 3, .sj v49_3 c49_3, .lp v49_2 G2, .blk 2, .sj v49_1 c49_1] st) m) :=
  nrec_emb e49_5 (fun _ _ _ _ _ _ _ _ _ _ _ => none) (fun g => S49_5b D m g (e49_2 G2)) (fun G5 st => E c49_5b [.lp v49_5 G5, .blk 4, .sj v49_4 c49_4, .blk 3, .sj v49_3 c49_3, .lp v49_2 G2, .blk 2, .sj v49_1 c49_1] st) rfl (fun g => T49_5b hE g G2) m
theorem T49_2b (hE : FX x49 D m E) (G2) : S49_2b D m (e49_2 G2) = e49_2 (E c49_2b [.lp v49_2 G2, .blk 2, .sj v49_1 c49_1]) := by unfold S49_2b; rw [T49_5 hE G2, T49_1 hE, hE c49_2b]; kernel_rfl
theorem T49_2 (hE : FX x49 D m E) : S49_2 D m = e49_2 (nrec (fun _ => none) (fun _ G2 st => E c49_2b [.lp v49_2 G2, .blk 2, .sj v49_1 c49_1] st) m) :=
  nrec_emb e49_2 (fun _ _ _ _ _ _ _ => none) (fun g => S49_2b D m g) (fun G2 st => E c49_2b [.lp v49_2 G2, .blk 2, .sj v49_1 c49_1] st) rfl (fun g => T49_2b hE g) m
theorem T49_0 (hE : FX x49 D m E) : S49_0 D m = e49_0 (E c49_0 []) := by unfold S49_0; rw [T49_2 hE, hE c49_0]; kernel_rfl
theorem T49_7 (hE : FX x49 D m E) (G6) : S49_7 D m (e49_6 G6) = e49_7 (E c49_7 [.lp v49_6 G6, .blk 0, .sj v49_0 c49_0]) := by unfold S49_7; rw [hE c49_7]; kernel_rfl
theorem T49_8 (hE : FX x49 D m E) (G6) : S49_8 D m (e49_6 G6) = e49_8 (E c49_8 [.blk 1, .sj v49_7 c49_7, .lp v49_6 G6, .blk 0, .sj v49_0 c49_0]) := by unfold S49_8; rw [T49_7 hE G6, hE c49_8]; kernel_rfl
theorem T49_6b (hE : FX x49 D m E) (G6) : S49_6b D m (e49_6 G6) = e49_6 (E c49_6b [.lp v49_6 G6, .blk 0, .sj v49_0 c49_0]) := by unfold S49_6b; rw [T49_8 hE G6, T49_0 hE, hE c49_6b]; kernel_rfl
theorem T49_6 (hE : FX x49 D m E) : S49_6 D m = e49_6 (nrec (fun _ => none) (fun _ G6 st => E c49_6b [.lp v49_6 G6, .blk 0, .sj v49_0 c49_0] st) m) :=
  nrec_emb e49_6 (fun _ _ _ _ _ _ _ => none) (fun g => S49_6b D m g) (fun G6 st => E c49_6b [.lp v49_6 G6, .blk 0, .sj v49_0 c49_0] st) rfl (fun g => T49_6b hE g) m
theorem T49_9 (hE : FX x49 D m E) : S49_9 D m = e49_9 (E c49_e []) := by unfold S49_9; rw [T49_6 hE, hE c49_e]; kernel_rfl
theorem X49 : XTie S49 x49 := X_of fun D m E hE args h u => by unfold S49; rw [T49_9 hE]; kernel_rfl
/- 50 -/
def v50_0 : List Pos := [p5]
def c50_0 : XC := (.sO [.mv p121 q5 .v, .mv p2 q121 .v, .mv p3 (ci 0) tI, .mv p4 (ci 0) tI] (.s .ret))
def v50_2 : List Pos := [p1, p5, p19, p20, p21]
def c50_2 : XC := (.s (.oX [.bn p120 .add q21 (ci 1) tI, .mv p21 q120 tI]))
def v50_3 : List Pos := [p1, p5, p9, p19, p20, p21]
def c50_3 : XC := (.s (.oX [.mv p116 q5 .v, .L p117 (.cells 4 q9) .v, .al p118 (.bsl [(.str []), (.bool false), .nils, .nils] 1 [⟨0, 4, q117⟩]), .o ⟨(some p119), (.e (.app 4 72 q116 q118)), none, []⟩ .v, .mv p5 q119 .v]))
def v50_5 : List Pos := [p1, p5, p7, p8, p9, p19, p20, p21, p48, p49, p50]
def c50_5 : XC := (.s (.oX [.bn p115 .add q50 (ci 1) tI, .mv p50 q115 tI]))
def v50_7 : List Pos := [p1, p5, p7, p8, p9, p10, p15, p19, p20, p21, p48, p49, p50, p97, p98]
def c50_7b : XC := (.sO [.bn p99 .lss q98 q97 .b] (.seq (.cond q99 .skip (.exit 5)) (.seq (.block 6 (.seq (.oX [.mv p100 q98 tI, .mv p17 q100 tI]) (.ops true (XL.of [.fa p101 2 q9, .ld p102 q101 .v, .mv p103 q8 tI, .mv p104 q10 tI, .bn p105 .mul q103 q104 tI, .mv p106 q17 tI, .bn p107 .add q105 q106 tI, .mv p108 q15 (.i .u64), .mv p109 q17 tI, .bn p110 .mul (ci 8) q109 tI, .bn p111 .shr q108 q110 (.i .u64), .P p112 (.conv (.ii .u8) q111) tC, .P p113 (.iaddr (.sl 1) q102 q107) .v, .st q113 q112])))) (.s (.oX [.bn p114 .add q98 (ci 1) tI, .mv p98 q114 tI])))))
def v50_6 : List Pos := [p1, p5, p7, p8, p9, p10, p15, p19, p20, p21, p48, p49, p50]
def c50_6 : XC := (.sO [.mv p97 q8 tI, .mv p98 (ci 0) tI] (.block 5 (.loop v50_7 c50_7b)))
def v50_8 : List Pos := [p1, p5, p7, p8, p9, p10, p12, p15, p16, p19, p20, p21, p48, p49, p50]
def c50_8 : XC := (.s (.oX [.fa p82 3 q9, .ld p83 q82 .v, .mv p84 q8 tI, .mv p85 q10 tI, .bn p86 .mul q84 q85 tI, .fa p87 3 q12, .ld p88 q87 .s, .mv p89 q16 tI, .fa p90 4 q12, .ld p91 q90 tI, .bn p92 .mul q89 q91 tI, .P p93 (.build [(kI 0), (.str []), (kI 0)] [⟨0, 1, q86⟩, ⟨1, 1, q88⟩, ⟨2, 1, q92⟩]) .v, .al p94 (.bsl [(kI 0), (.str []), (kI 0)] 1 [⟨0, 3, q93⟩]), .o ⟨(some p95), (.e (.app 3 32 q83 q94)), none, []⟩ .v, .fa p96 3 q9, .st q96 q95]))
def v50_4 : List Pos := [p1, p5, p7, p8, p9, p19, p20, p21, p48, p49, p50]
def c50_4b : XC := (.sO [.bn p51 .lss q50 q49 .b] (.seq (.cond q51 .skip (.exit 2)) (.sj v50_5 (.block 3 (.sO [.mv p52 q50 tI, .P p53 (.iaddr (.sl 8) q48 q50) .v, .L p54 (.cells 8 q53) .v, .al p11 (.new [(kI 0), (.str []), (.str []), (.int .u32 (.ofNat 0)), (.int .u64 (.ofNat 0)), .nils, (kI 0), (kI 0)]), .mv p10 q52 tI, .ss 8 q11 q54] (.sO [.L p56 (.cells 1 q1) .v, .L p57 (.cells 8 q11) .v, .cl p58 88 [q56, q57] .v, .mv p55 q58 .v, .P p59 (.ext q55 0) .v, .P p60 (.ext q55 1) tI, .P p61 (.ext q55 2) tI, .al p12 (.new [(kI 0), (.int .u32 (.ofNat 0)), (.int .u64 (.ofNat 0)), (.str []), (kI 0)]), .ss 5 q12 q59, .mv p13 q60 tI, .mv p14 q61 tI] (.seq (.seq (.oX [.mv p62 q14 tI, .bn p63 .neq q62 (ci 0) .b]) (.cond q63 (.seq (.oX [.mv p64 q13 tI, .mv p65 q14 tI, .mv p2 (.c .nils) .v, .mv p3 q64 tI, .mv p4 q65 tI]) .ret) .skip)) (.sO [.fa p66 1 q12, .ld p67 q66 tW, .P p68 (.conv (.ii .u64) q67) (.i .u64), .mv p15 q68 (.i .u64)] (.sj v50_6 (.block 4 (.sO [.fa p70 4 q7, .ld p71 q70 tI, .bn p72 .eql q71 (ci 2) .b, .mv p69 q72 .b] (.cond q69 (.s (.oX [.fa p73 2 q12, .ld p74 q73 (.i .u64), .mv p15 q74 (.i .u64)])) (.sO [.fa p76 3 q12, .ld p77 q76 .s, .bn p78 .neq q77 (.c (.str [])) .b, .mv p75 q78 .b] (.cond q75 (.sO [.mv p16 (ci 4) tI] (.sj v50_8 (.sO [.fa p79 0 q12, .ld p80 q79 tI, .bn p81 .eql q80 (ci 4) .b] (.cond q81 (.s (.oX [.mv p16 (ci 8) tI])) (.s .skip))) c50_8)) (.s .skip)))))) c50_6)))))) c50_5)))
def v50_1 : List Pos := [p1, p5, p19, p20, p21]
def c50_1b : XC := (.sO [.bn p22 .lss q21 q20 .b] (.seq (.cond q22 .skip (.exit 0)) (.sj v50_2 (.block 1 (.sO [.P p23 (.iaddr (.sl 17) q19 q21) .v, .L p24 (.cells 17 q23) .v, .al p7 (.new [(.bool false), (.bool false), (.bool false), (.str []), (kI 0), (kI 0), .nils, (.bool false), .nils, (kI 0), .nils, .nils, (.str []), (kI 0), (kI 0), (kI 0), (kI 0)]), .ss 17 q7 q24] (.seq (.seq (.oX [.fa p25 0 q7, .ld p26 q25 .b, .mv p27 q26 .b, .ge p27 (XL.of [.G p27 false p28 (.faddr 2 q7) .v, .o ⟨(some p29), (.l (.cell q28)), (some (p27, false)), []⟩ .b, .P p30 (.pick q27 (cb true) q29) .b]) p30 .b]) (.cond q30 (.exit 1) .skip)) (.sO [.fa p31 4 q7, .ld p32 q31 tI, .cl p33 87 [q32] tI, .mv p8 q33 tI] (.seq (.ops true (XL.of [.fa p34 3 q7, .ld p35 q34 .s, .fa p36 1 q7, .ld p37 q36 .b, .mv p38 q8 tI, .fa p39 5 q7, .ld p40 q39 tI, .P p41 (.mm true [q40, (ci 1)]) tI, .bn p42 .mul q38 q41 tI, .bn p43 .add q42 (ci 7) tI, .bn p44 .andNot q43 (ci 7) tI, .al p45 (.mksl [(.int .u8 (.ofNat 0))] 1 q44 q44), .P p46 (.build [(.str []), (.bool false), .nils, .nils] [⟨0, 1, q35⟩, ⟨1, 1, q37⟩, ⟨2, 1, q45⟩]) .v, .al p9 (.new [(.str []), (.bool false), .nils, .nils]), .ss 4 q9 q46])) (.sj v50_3 (.sO [.fa p47 6 q7, .ld p48 q47 .v, .P p49 (.lenl q48) tI, .mv p50 (ci 0) tI] (.block 2 (.loop v50_4 c50_4b))) c50_3)))))) c50_2)))
def c50_e : XC := (.sO [.al p1 (.box q0), .mv p2 (.c .nils) .v, .mv p3 (ci 0) tI, .mv p4 (ci 0) tI] (.sO [.mv p5 (.c .nils) .v] (.sj v50_0 (.sO [.fa p18 0 q1, .ld p19 q18 .v, .P p20 (.lenl q19) tI, .mv p21 (ci 0) tI] (.block 0 (.loop v50_1 c50_1b))) c50_0)))
def x50 : XFn := ⟨[.v], false, [(.tmp p2), (.tmp p3), (.tmp p4)], c50_e⟩
def e50_0 (k t5 h) := kN k [(p5, t5)] h
def S50_0 (D : CallD) (m : Nat) (t5 : AV) (h : HP) : Res2 :=
 some (.ret (.tup [t5, (vI (Int.ofNat 0)), (vI (Int.ofNat 0))]) h, .no)
def e50_2 (k t1 t5 t19 t20 t21 h) := kN k [(p1, t1), (p5, t5), (p19, t19), (p20, (vI t20)), (p21, (vI t21))] h
def S50_2 (D : CallD) (m : Nat) (g1 : AV → AV → AV → Int → Int → HP → Res2) (t1 t5 t19 : AV) (t20 t21 : Int) (h : HP) : Res2 :=
 let t120 := wrQ .i64 (addQ t21 (Int.ofNat 1))
 g1 t1 t5 t19 t20 t120 h
def e50_3 (k t1 t5 t9 t19 t20 t21 h) := kN k [(p1, t1), (p5, t5), (p9, t9), (p19, t19), (p20, (vI t20)), (p21, (vI t21))] h
def S50_3 (D : CallD) (m : Nat) (g1 : AV → AV → AV → Int → Int → HP → Res2) (t1 t5 t9 t19 : AV) (t20 t21 : Int) (h : HP) : Res2 :=
 cellsC 4 t9 h fun t117 =>
 obQ (evA (.bsl [(.str []), (.bool false), .nils, .nils] 1 [⟨0, 4, (.c t117)⟩]) .leaf) fun r18 =>
 let t118 := vkV r18.2 (HP.nxQ h)
 let h19 := HP.newQ h r18.1
 eff (.app 4 72 (.c t5) (.c t118)) h19 fun t119 h20 =>
 S50_2 D m g1 t1 t119 t19 t20 t21 h20
def e50_5 (k t1 t5 t7 t8 t9 t19 t20 t21 t48 t49 t50 h) := kN k [(p1, t1), (p5, t5), (p7, t7), (p8, (vI t8)), (p9, t9), (p19, t19), (p20, (vI t20)), (p21, (vI t21)), (p48, t48), (p49, (vI t49)), (p50, (vI t50))] h
def S50_5 (D : CallD) (m : Nat) (g4 : AV → AV → AV → Int → AV → AV → Int → Int → AV → Int → Int → HP → Res2) (g1 : AV → AV → AV → Int → Int → HP → Res2) (t1 t5 t7 : AV) (t8 : Int) (t9 t19 : AV) (t20 t21 : Int) (t48 : AV) (t49 t50 : Int) (h : HP) : Res2 :=
 let t115 := wrQ .i64 (addQ t50 (Int.ofNat 1))
 g4 t1 t5 t7 t8 t9 t19 t20 t21 t48 t49 t115 h
def e50_7 (k t1 t5 t7 t8 t9 t10 t15 t19 t20 t21 t48 t49 t50 t97 t98 h) := kN k [(p1, t1), (p5, t5), (p7, t7), (p8, (vI t8)), (p9, t9), (p10, (vI t10)), (p15, (AV.int .u64 t15)), (p19, t19), (p20, (vI t20)), (p21, (vI t21)), (p48, t48), (p49, (vI t49)), (p50, (vI t50)), (p97, (vI t97)), (p98, (vI t98))] h
def S50_7b (D : CallD) (m : Nat) (g7 : AV → AV → AV → Int → AV → Int → Int → AV → Int → Int → AV → Int → Int → Int → Int → HP → Res2) (g4 : AV → AV → AV → Int → AV → AV → Int → Int → AV → Int → Int → HP → Res2) (g1 : AV → AV → AV → Int → Int → HP → Res2) (t1 t5 t7 : AV) (t8 : Int) (t9 : AV) (t10 t15 : Int) (t19 : AV) (t20 t21 : Int) (t48 : AV) (t49 t50 t97 t98 : Int) (h : HP) : Res2 :=
 let t99 := ltQ t98 t97
 br t99 (
 faC 2 t9 fun t101 =>
 cellC t101 h fun t102 =>
 let t105 := wrQ .i64 (t8 * t10)
 let t107 := wrQ .i64 (addQ t105 t98)
 let t110 := wrQ .i64 ((Int.ofNat 8) * t98)
 obI .u64 (shiftF .shr .u64 t15 t110) fun t111 =>
 let t112 := wrapF .u8 t111
 iasC 1 t102 (vI t107) fun t113 =>
 stoC t113 (vC t112) h fun h26 =>
 let t114 := wrQ .i64 (addQ t98 (Int.ofNat 1))
 g7 t1 t5 t7 t8 t9 t10 t15 t19 t20 t21 t48 t49 t50 t97 t114 h26) (
 S50_5 D m g4 g1 t1 t5 t7 t8 t9 t19 t20 t21 t48 t49 t50 h)
def S50_7 (D : CallD) (m : Nat) (g4 : AV → AV → AV → Int → AV → AV → Int → Int → AV → Int → Int → HP → Res2) (g1 : AV → AV → AV → Int → Int → HP → Res2) : AV → AV → AV → Int → AV → Int → Int → AV → Int → Int → AV → Int → Int → Int → Int → HP → Res2 := nrec (fun _ _ _ _ _ _ _ _ _ _ _ _ _ _ _ _ => none) (fun _ g => S50_7b D m g g4 g1) m
def e50_6 (k t1 t5 t7 t8 t9 t10 t15 t19 t20 t21 t48 t49 t50 h) := kN k [(p1, t1), (p5, t5), (p7, t7), (p8, (vI t8)), (p9, t9), (p10, (vI t10)), (p15, (AV.int .u64 t15)), (p19, t19), (p20, (vI t20)), (p21, (vI t21)), (p48, t48), (p49, (vI t49)), (p50, (vI t50))] h
def S50_6 (D : CallD) (m : Nat) (g4 : AV → AV → AV → Int → AV → AV → Int → Int → AV → Int → Int → HP → Res2) (g1 : AV → AV → AV → Int → Int → HP → Res2) (t1 t5 t7 : AV) (t8 : Int) (t9 : AV) (t10 t15 : Int) (t19 : AV) (t20 t21 : Int) (t48 : AV) (t49 t50 : Int) (h : HP) : Res2 :=
 S50_7 D m g4 g1 t1 t5 t7 t8 t9 t10 t15 t19 t20 t21 t48 t49 t50 t8 (Int.ofNat 0) h
def e50_8 (k t1 t5 t7 t8 t9 t10 t12 t15 t16 t19 t20 t21 t48 t49 t50 h) := kN k [(p1, t1), (p5, t5), (p7, t7), (p8, (vI t8)), (p9, t9), (p10, (vI t10)), (p12, t12), (p15, (AV.int .u64 t15)), (p16, (vI t16)), (p19, t19), (p20, (vI t20)), (p21, (vI t21)), (p48, t48), (p49, (vI t49)), (p50, (vI t50))] h
def S50_8 (D : CallD) (m : Nat) (g4 : AV → AV → AV → Int → AV → AV → Int → Int → AV → Int → Int → HP → Res2) (g1 : AV → AV → AV → Int → Int → HP → Res2) (t1 t5 t7 : AV) (t8 : Int) (t9 : AV) (t10 : Int) (t12 : AV) (t15 t16 : Int) (t19 : AV) (t20 t21 : Int) (t48 : AV) (t49 t50 : Int) (h : HP) : Res2 :=
 faC 3 t9 fun t82 =>
 cellC t82 h fun t83 =>
 let t86 := wrQ .i64 (t8 * t10)
 faC 3 t12 fun t87 =>
 ldS t87 h fun t88 =>
 faC 4 t12 fun t90 =>
 ldI t90 h fun t91 =>
 let t92 := wrQ .i64 (t16 * t91)
 let t93 := (AV.agg [(vI t86), (vS t88), (vI t92)])
 let t94 := AV.slice (HP.nxQ h) 0 1 (.exact 1)
 let h27 := HP.newQ h (.cells true [(vI t86), (vS t88), (vI t92)])
 eff (.app 3 32 (.c t83) (.c t94)) h27 fun t95 h28 =>
 faC 3 t9 fun t96 =>
 stoC t96 t95 h28 fun h29 =>
 S50_6 D m g4 g1 t1 t5 t7 t8 t9 t10 t15 t19 t20 t21 t48 t49 t50 h29
def e50_4 (k t1 t5 t7 t8 t9 t19 t20 t21 t48 t49 t50 h) := kN k [(p1, t1), (p5, t5), (p7, t7), (p8, (vI t8)), (p9, t9), (p19, t19), (p20, (vI t20)), (p21, (vI t21)), (p48, t48), (p49, (vI t49)), (p50, (vI t50))] h
def S50_4b (D : CallD) (m : Nat) (g4 : AV → AV → AV → Int → AV → AV → Int → Int → AV → Int → Int → HP → Res2) (g1 : AV → AV → AV → Int → Int → HP → Res2) (t1 t5 t7 : AV) (t8 : Int) (t9 t19 : AV) (t20 t21 : Int) (t48 : AV) (t49 t50 : Int) (h : HP) : Res2 :=
 let t51 := ltQ t50 t49
 br t51 (
 iasC 8 t48 (vI t50) fun t53 =>
 cellsC 8 t53 h fun t54 =>
 let t11 := AV.ptr (HP.nxQ h) 0
 let h21 := HP.newQ h (.cells true [(kI 0), (.str []), (.str []), (.int .u32 (.ofNat 0)), (.int .u64 (.ofNat 0)), .nils, (kI 0), (kI 0)])
 stsC 8 t11 t54 h21 fun h22 =>
 cellsC 1 t1 h22 fun t56 =>
 cellsC 8 t11 h22 fun t57 =>
 cal D 88 [t56, t57] h22 fun t58 h23 =>
 extC t58 0 fun t59 =>
 extC t58 1 fun vt60 => asI .i64 vt60 fun t60 =>
 extC t58 2 fun vt61 => asI .i64 vt61 fun t61 =>
 let t12 := AV.ptr (HP.nxQ h23) 0
 let h24 := HP.newQ h23 (.cells true [(kI 0), (.int .u32 (.ofNat 0)), (.int .u64 (.ofNat 0)), (.str []), (kI 0)])
 stsC 5 t12 t59 h24 fun h25 =>
 let t63 := notQ (eqQ t61 (Int.ofNat 0))
 br t63 (
 some (.ret (.tup [(.nils : AV), (vI t60), (vI t61)]) h25, .no)) (
 let t66 := (AV.ptr (HP.nxQ h23) (Nat.add 0 1))
 ldW t66 h25 fun t67 =>
 let t68 := wrapF .u64 t67
 faC 4 t7 fun t70 =>
 ldI t70 h25 fun t71 =>
 let t72 := eqQ t71 (Int.ofNat 2)
 br t72 (
 let t73 := (AV.ptr (HP.nxQ h23) (Nat.add 0 2))
 cellC t73 h25 fun vt74 => asI .u64 vt74 fun t74 =>
 S50_6 D m g4 g1 t1 t5 t7 t8 t9 t50 t74 t19 t20 t21 t48 t49 t50 h25) (
 let t76 := (AV.ptr (HP.nxQ h23) (Nat.add 0 3))
 ldS t76 h25 fun t77 =>
 let t78 := !(eqL t77 ([] : LN))
 br t78 (
 let t79 := (AV.ptr (HP.nxQ h23) (Nat.add 0 0))
 ldI t79 h25 fun t80 =>
 let t81 := eqQ t80 (Int.ofNat 4)
 br t81 (
 S50_8 D m g4 g1 t1 t5 t7 t8 t9 t50 t12 t68 (Int.ofNat 8) t19 t20 t21 t48 t49 t50 h25) (
 S50_8 D m g4 g1 t1 t5 t7 t8 t9 t50 t12 t68 (Int.ofNat 4) t19 t20 t21 t48 t49 t50 h25)) (
 S50_6 D m g4 g1 t1 t5 t7 t8 t9 t50 t68 t19 t20 t21 t48 t49 t50 h25)))) (
 S50_3 D m g1 t1 t5 t9 t19 t20 t21 h)
def S50_4 (D : CallD) (m : Nat) (g1 : AV → AV → AV → Int → Int → HP → Res2) : AV → AV → AV → Int → AV → AV → Int → Int → AV → Int → Int → HP → Res2 := nrec (fun _ _ _ _ _ _ _ _ _ _ _ _ => none) (fun _ g => S50_4b D m g g1) m
def e50_1 (k t1 t5 t19 t20 t21 h) := kN k [(p1, t1), (p5, t5), (p19, t19), (p20, (vI t20)), (p21, (vI t21))] h
def S50_1b (D : CallD) (m : Nat) (g1 : AV → AV → AV → Int → Int → HP → Res2) (t1 t5 t19 : AV) (t20 t21 : Int) (h : HP) : Res2 :=
 let t22 := ltQ t21 t20
 br t22 (
 iasC 17 t19 (vI t21) fun t23 =>
 cellsC 17 t23 h fun t24 =>
 let t7 := AV.ptr (HP.nxQ h) 0
 let h11 := HP.newQ h (.cells true [(.bool false), (.bool false), (.bool false), (.str []), (kI 0), (kI 0), .nils, (.bool false), .nils, (kI 0), .nils, .nils, (.str []), (kI 0), (kI 0), (kI 0), (kI 0)])
 stsC 17 t7 t24 h11 fun h12 =>
 let t25 := (AV.ptr (HP.nxQ h) (Nat.add 0 0))
 ldB t25 h12 fun t26 =>
 obB (brV t26 (
 some (vB true)) (
 let t28 := (AV.ptr (HP.nxQ h) (Nat.add 0 2))
 ldBV t28 h12 fun t29 =>
 some (vB t29))) fun t30 =>
 br t30 (
 S50_2 D m g1 t1 t5 t19 t20 t21 h12) (
 let t31 := (AV.ptr (HP.nxQ h) (Nat.add 0 4))
 ldI t31 h12 fun t32 =>
 cal D 87 [(vI t32)] h12 fun t33 h13 =>
 asI .i64 t33 fun t33a =>
 let t34 := (AV.ptr (HP.nxQ h) (Nat.add 0 3))
 ldS t34 h13 fun t35 =>
 let t36 := (AV.ptr (HP.nxQ h) (Nat.add 0 1))
 ldB t36 h13 fun t37 =>
 let t39 := (AV.ptr (HP.nxQ h) (Nat.add 0 5))
 ldI t39 h13 fun t40 =>
 let t41 := mmI true t40 (Int.ofNat 1)
 let t42 := wrQ .i64 (t33a * t41)
 let t43 := wrQ .i64 (addQ t42 (Int.ofNat 7))
 let t44 := IntKind.wrap .i64 (BitVec.ofInt (IntKind.bits .i64) t43 &&& ~~~ BitVec.ofInt (IntKind.bits .i64) (Int.ofNat 7)).toNat
 obQ (evA (.mksl [(.int .u8 (.ofNat 0))] 1 (.c (vI t44)) (.c (vI t44))) .leaf) fun r14 =>
 let t45 := vkV r14.2 (HP.nxQ h13)
 let h15 := HP.newQ h13 r14.1
 obQ (evP (.build [(.str []), (.bool false), .nils, .nils] [⟨0, 1, (.c (vS t35))⟩, ⟨1, 1, (.c (vB t37))⟩, ⟨2, 1, (.c t45)⟩]) .leaf) fun t46 =>
 let t9 := AV.ptr (HP.nxQ h15) 0
 let h16 := HP.newQ h15 (.cells true [(.str []), (.bool false), .nils, .nils])
 stsC 4 t9 t46 h16 fun h17 =>
 let t47 := (AV.ptr (HP.nxQ h) (Nat.add 0 6))
 cellC t47 h17 fun t48 =>
 lenC t48 fun vt49 => asI .i64 vt49 fun t49 =>
 S50_4 D m g1 t1 t5 t7 t33a t9 t19 t20 t21 t48 t49 (Int.ofNat 0) h17)) (
 S50_0 D m t5 h)
def S50_1 (D : CallD) (m : Nat) : AV → AV → AV → Int → Int → HP → Res2 := nrec (fun _ _ _ _ _ _ => none) (fun _ g => S50_1b D m g) m
def e50_9 (k t0 h) := kN k [(p0, t0)] h
def S50_9 (D : CallD) (m : Nat) (t0 : AV) (h : HP) : Res2 :=
 let t1 := AV.ptr (HP.nxQ h) 0
 let h10 := HP.newQ h (.cells true (AV.cells t0))
 let t18 := (AV.ptr (HP.nxQ h) (Nat.add 0 0))
 cellC t18 h10 fun t19 =>
 lenC t19 fun vt20 => asI .i64 vt20 fun t20 =>
 S50_1 D m t1 (.nils : AV) t19 t20 (Int.ofNat 0) h10
def S50 : SFn := fun D m args h u => nou u <| popV args fun t0 args => endA args (S50_9 D m t0 h)
theorem T50_0 (hE : FX x50 D m E) : S50_0 D m = e50_0 (E c50_0 []) := by unfold S50_0; rw [hE c50_0]; kernel_rfl
theorem T50_2 (hE : FX x50 D m E) (G1) : S50_2 D m (e50_1 G1) = e50_2 (E c50_2 [.lp v50_1 G1, .blk 0, .sj v50_0 c50_0]) := by unfold S50_2; rw [hE c50_2]; kernel_rfl
theorem T50_3 (hE : FX x50 D m E) (G1) : S50_3 D m (e50_1 G1) = e50_3 (E c50_3 [.blk 1, .sj v50_2 c50_2, .lp v50_1 G1, .blk 0, .sj v50_0 c50_0]) := by unfold S50_3; rw [T50_2 hE G1, hE c50_3]; kernel_rfl
theorem T50_5 (hE : FX x50 D m E) (G4) (G1) : S50_5 D m (e50_4 G4) (e50_1 G1) = e50_5 (E c50_5 [.lp v50_4 G4, .blk 2, .sj v50_3 c50_3, .blk 1, .sj v50_2 c50_2, .lp v50_1 G1, .blk 0, .sj v50_0 c50_0]) := by unfold S50_5; rw [hE c50_5]; kernel_rfl
theorem T50_7b (hE : FX x50 D m E) (G7) (G4) (G1) : S50_7b D m (e50_7 G7) (e50_4 G4) (e50_1 G1) = e50_7 (E c50_7b [.lp v50_7 G7, .blk 5, .blk 3, .sj v50_5 c50_5, .lp v50_4 G4, .blk 2, .sj v50_3 c50_3, .blk 1, .sj v50_2 c50_2, .lp v50_1 G1, .blk 0, .sj v50_0 c50_0]) := by unfold S50_7b; rw [T50_5 hE G4 G1, hE c50_7b]; kernel_rfl
theorem T50_7 (hE : FX x50 D m E) (G4) (G1) : S50_7 D m (e50_4 G4) (e50_1 G1) = e50_7 (nrec (fun _ => none) (fun _ G7 st => E c50_7b [.lp v50_7 G7, .blk 5, .blk 3, .sj v50_5 c50_5, .lp v50_4 G4, .blk 2, .sj v50_3 c50_3, .blk 1, .sj v50_2 c50_2, .lp v50_1 G1, .blk 0, .sj v50_0 c50_0] st) m) :=
  nrec_emb e50_7 (fun _ _ _ _ _ _ _ _ _ _ _ _ _ _ _ _ => none) (fun g => S50_7b D m g (e50_4 G4) (e50_1 G1)) (fun G7 st => E c50_7b [.lp v50_7 G7, .blk 5, .blk 3, .sj v50_5 c50_5, .lp v50_4 G4, .blk 2, .sj v50_3 c50_3, .blk 1, .sj v50_2 c50_2, .lp v50_1 G1, .blk 0, .sj v50_0 c50_0] st) rfl (fun g => T50_7b hE g G4 G1) m
theorem T50_6 (hE : FX x50 D m E) (G4) (G1) : S50_6 D m (e50_4 G4) (e50_1 G1) = e50_6 (E c50_6 [.blk 3, .sj v50_5 c50_5, .lp v50_4 G4, .blk 2, .sj v50_3 c50_3, .blk 1, .sj v50_2 c50_2, .lp v50_1 G1, .blk 0, .sj v50_0 c50_0]) := by unfold S50_6; rw [T50_7 hE G4 G1, hE c50_6]; kernel_rfl
theorem T50_8 (hE : FX x50 D m E) (G4) (G1) : S50_8 D m (e50_4 G4) (e50_1 G1) = e50_8 (E c50_8 [.blk 4, .sj v50_6 c50_6, .blk 3, .sj v50_5 c50_5, .lp v50_4 G4, .blk 2, .sj v50_3 c50_3, .blk 1, .sj v50_2 c50_2, .lp v50_1 G1, .blk 0, .sj v50_0 c50_0]) := by unfold S50_8; rw [T50_6 hE G4 G1, hE c50_8]; kernel_rfl
theorem T50_4b (hE : FX x50 D m E) (G4) (G1) : S50_4b D m (e50_4 G4) (e50_1 G1) = e50_4 (E c50_4b [.lp v50_4 G4, .blk 2, .sj v50_3 c50_3, .blk 1, .sj v50_2 c50_2, .lp v50_1 G1, .blk 0, .sj v50_0 c50_0]) := by unfold S50_4b; rw [T50_6 hE G4 G1, T50_8 hE G4 G1, T50_3 hE G1, hE c50_4b]; kernel_rfl
theorem T50_4 (hE : FX x50 D m E) (G1) : S50_4 D m (e50_1 G1) = e50_4 (nrec (fun _ => none) (fun _ G4 st => E c50_4b [.lp v50_4 G4, .blk 2, .sj v50_3 c50_3, .blk 1, .sj v50_2 c50_2, .lp v50_1 G1, .blk 0, .sj v50_0 c50_0] st) m) :=
  nrec_emb e50_4 (fun _ _ _ _ _ _ _ _ _ _ _ _ => none) (fun g => S50_4b D m g (e50_1 G1)) (fun G4 st => E c50_4b [.lp v50_4 G4, .blk 2, .sj v50_3 c50_3, .blk 1, .sj v50_2 c50_2, .lp v50_1 G1, .blk 0, .sj v50_0 c50_0] st) rfl (fun g => T50_4b hE g G1) m
theorem T50_1b (hE : FX x50 D m E) (G1) : S50_1b D m (e50_1 G1) = e50_1 (E c50_1b [.lp v50_1 G1, .blk 0, .sj v50_0 c50_0]) := by unfold S50_1b; rw [T50_2 hE G1, T50_4 hE G1, T50_0 hE, hE c50_1b]; kernel_rfl
theorem T50_1 (hE : FX x50 D m E) : S50_1 D m = e50_1 (nrec (fun _ => none) (fun _ G1 st => E c50_1b [.lp v50_1 G1, .blk 0, .sj v50_0 c50_0] st) m) :=
  nrec_emb e50_1 (fun _ _ _ _ _ _ => none) (fun g => S50_1b D m g) (fun G1 st => E c50_1b [.lp v50_1 G1, .blk 0, .sj v50_0 c50_0] st) rfl (fun g => T50_1b hE g) m
theorem T50_9 (hE : FX x50 D m E) : S50_9 D m = e50_9 (E c50_e []) := by unfold S50_9; rw [T50_1 hE, hE c50_e]; kernel_rfl
theorem X50 : XTie S50 x50 := X_of fun D m E hE args h u => by unfold S50; rw [T50_9 hE]; kernel_rfl
/- 51 -/
def v51_1 : List Pos := [p1, p2, p3]
def c51_1 : XC := (.sO [.mv p74 q3 .v, .fa p75 9 q1, .fa p76 2 q75, .ld p77 q76 .v, .cl p78 93 [q74, q77] .v] (.sO [.mv p79 q3 .v, .cl p80 94 [q79, (.c .nils)] .v] (.sO [.mv p81 q3 .v, .P p82 (.nilck q81) .v, .fa p83 0 q82, .L p84 (.cells 6 q83) .v, .ss 6 q2 q84] (.s .ret))))
def v51_2 : List Pos := [p1, p2, p3, p52, p53, p54]
def c51_2b : XC := (.sO [.bn p55 .lss q54 q53 .b] (.seq (.cond q55 .skip (.exit 2)) (.seq (.block 3 (.seq (.oX [.mv p56 q54 tI, .P p57 (.iaddr (.sl 3) q52 q54) .v, .L p58 (.cells 3 q57) .v, .al p7 (.new [(.str []), (kI 0), (kI 0)]), .mv p6 q56 tI, .ss 3 q7 q58]) (.ops true (XL.of [.mv p59 q3 .v, .fa p60 0 q7, .ld p61 q60 .s, .fa p62 1 q7, .ld p63 q62 tI, .mv p64 q3 .v, .P p65 (.nilck q64) .v, .fa p66 0 q65, .fa p67 2 q66, .ld p68 q67 .v, .mv p69 q6 tI, .P p70 (.iaddr (.sl 1) q68 q69) .v, .ld p71 q70 tI, .cl p72 92 [q59, q61, q63, (ci 0), q71] .v])))) (.s (.oX [.bn p73 .add q54 (ci 1) tI, .mv p54 q73 tI])))))
def v51_0 : List Pos := [p1, p2, p3]
def c51_0 : XC := (.sj v51_1 (.sO [.fa p51 8 q1, .ld p52 q51 .v, .P p53 (.lenl q52) tI, .mv p54 (ci 0) tI] (.block 2 (.loop v51_2 c51_2b))) c51_1)
def v51_3 : List Pos := [p1, p2, p3, p28, p29, p30]
def c51_3b : XC := (.sO [.bn p31 .lss q30 q29 .b] (.seq (.cond q31 .skip (.exit 0)) (.seq (.block 1 (.seq (.oX [.P p32 (.iaddr (.sl 3) q28 q30) .v, .L p33 (.cells 3 q32) .v, .al p5 (.new [(.str []), (kI 0), (kI 0)]), .ss 3 q5 q33]) (.ops true (XL.of [.mv p34 q3 .v, .mv p35 q3 .v, .P p36 (.nilck q35) .v, .fa p37 0 q36, .fa p38 2 q37, .ld p39 q38 .v, .mv p40 q3 .v, .fa p41 1 q5, .ld p42 q41 tI, .o ⟨(some p43), (.call (.fn 91) [q42]), none, [⟨none, .cell q38, p39⟩]⟩ tI, .o ⟨(some p44), (.call (.fn 90) [q40, q43]), none, [⟨none, .cell q38, p39⟩]⟩ tI, .al p45 (.bsl [(kI 0)] 1 [⟨0, 1, q44⟩]), .o ⟨(some p46), (.e (.app 1 8 q39 q45)), none, []⟩ .v, .P p47 (.nilck q34) .v, .fa p48 0 q47, .fa p49 2 q48, .st q49 q46])))) (.s (.oX [.bn p50 .add q30 (ci 1) tI, .mv p30 q50 tI])))))
def c51_e : XC := (.sO [.al p1 (.box q0), .al p2 (.new [(.str []), (.bool false), .nils, .nils, .nils, .nils])] (.sO [.fa p8 3 q1, .ld p9 q8 .s, .fa p10 1 q1, .ld p11 q10 .b, .P p12 (.build [(.str []), (.bool false), .nils, .nils, .nils, .nils] [⟨0, 1, q9⟩, ⟨1, 1, q11⟩]) .v, .al p13 (.mkmap), .al p14 (.mkmap), .fa p15 4 q1, .ld p16 q15 tI, .P p17 (.build [(.str []), (.bool false), .nils, .nils, .nils, .nils, .nilm, .nilm, (kI 0), .nils] [⟨0, 6, q12⟩, ⟨6, 1, q13⟩, ⟨7, 1, q14⟩, ⟨8, 1, q16⟩]) .v, .al p18 (.box q17), .mv p3 q18 .v] (.seq (.ops true (XL.of [.fa p19 9 q1, .fa p20 2 q19, .ld p21 q20 .v, .mv p22 q3 .v, .P p23 (.nilck q22) .v, .fa p24 7 q23, .ld p25 q24 .v, .cl p26 89 [q21, q25] .v])) (.sj v51_0 (.sO [.fa p27 8 q1, .ld p28 q27 .v, .P p29 (.lenl q28) tI, .mv p30 (ci 0) tI] (.block 0 (.loop v51_3 c51_3b))) c51_0))))
def x51 : XFn := ⟨[.v], false, [(.cells 6 p2)], c51_e⟩
def e51_1 (k t1 t2 t3 h) := kN k [(p1, t1), (p2, t2), (p3, t3)] h
def S51_1 (D : CallD) (m : Nat) (t1 t2 t3 : AV) (h : HP) : Res2 :=
 faC 9 t1 fun t75 =>
 faC 2 t75 fun t76 =>
 cellC t76 h fun t77 =>
 cal D 93 [t3, t77] h fun t78 h11 =>
 cal D 94 [t3, (.nils : AV)] h11 fun t80 h12 =>
 nilckC t3 fun t82 =>
 faC 0 t82 fun t83 =>
 cellsC 6 t83 h12 fun t84 =>
 stsC 6 t2 t84 h12 fun h13 =>
 cellsC 6 t2 h13 fun t2a =>
 some (.ret t2a h13, .no)
def e51_2 (k t1 t2 t3 t52 t53 t54 h) := kN k [(p1, t1), (p2, t2), (p3, t3), (p52, t52), (p53, (vI t53)), (p54, (vI t54))] h
def S51_2b (D : CallD) (m : Nat) (g2 : AV → AV → AV → AV → Int → Int → HP → Res2) (t1 t2 t3 t52 : AV) (t53 t54 : Int) (h : HP) : Res2 :=
 let t55 := ltQ t54 t53
 br t55 (
 iasC 3 t52 (vI t54) fun t57 =>
 cellsC 3 t57 h fun t58 =>
 let t7 := AV.ptr (HP.nxQ h) 0
 let h14 := HP.newQ h (.cells true [(.str []), (kI 0), (kI 0)])
 stsC 3 t7 t58 h14 fun h15 =>
 let t60 := (AV.ptr (HP.nxQ h) (Nat.add 0 0))
 ldS t60 h15 fun t61 =>
 let t62 := (AV.ptr (HP.nxQ h) (Nat.add 0 1))
 ldI t62 h15 fun t63 =>
 nilckC t3 fun t65 =>
 faC 0 t65 fun t66 =>
 faC 2 t66 fun t67 =>
 cellC t67 h15 fun t68 =>
 iasC 1 t68 (vI t54) fun t70 =>
 ldI t70 h15 fun t71 =>
 cal D 92 [t3, (vS t61), (vI t63), (vI (Int.ofNat 0)), (vI t71)] h15 fun t72 h16 =>
 let t73 := wrQ .i64 (addQ t54 (Int.ofNat 1))
 g2 t1 t2 t3 t52 t53 t73 h16) (
 S51_1 D m t1 t2 t3 h)
def S51_2 (D : CallD) (m : Nat) : AV → AV → AV → AV → Int → Int → HP → Res2 := nrec (fun _ _ _ _ _ _ _ => none) (fun _ g => S51_2b D m g) m
def e51_0 (k t1 t2 t3 h) := kN k [(p1, t1), (p2, t2), (p3, t3)] h
def S51_0 (D : CallD) (m : Nat) (t1 t2 t3 : AV) (h : HP) : Res2 :=
 faC 8 t1 fun t51 =>
 cellC t51 h fun t52 =>
 lenC t52 fun vt53 => asI .i64 vt53 fun t53 =>
 S51_2 D m t1 t2 t3 t52 t53 (Int.ofNat 0) h
def e51_3 (k t1 t2 t3 t28 t29 t30 h) := kN k [(p1, t1), (p2, t2), (p3, t3), (p28, t28), (p29, (vI t29)), (p30, (vI t30))] h
def S51_3b (D : CallD) (m : Nat) (g3 : AV → AV → AV → AV → Int → Int → HP → Res2) (t1 t2 t3 t28 : AV) (t29 t30 : Int) (h : HP) : Res2 :=
 let t31 := ltQ t30 t29
 br t31 (
 iasC 3 t28 (vI t30) fun t32 =>
 cellsC 3 t32 h fun t33 =>
 let t5 := AV.ptr (HP.nxQ h) 0
 let h17 := HP.newQ h (.cells true [(.str []), (kI 0), (kI 0)])
 stsC 3 t5 t33 h17 fun h18 =>
 nilckC t3 fun t36 =>
 faC 0 t36 fun t37 =>
 faC 2 t37 fun t38 =>
 cellC t38 h18 fun t39 =>
 let t41 := (AV.ptr (HP.nxQ h) (Nat.add 0 1))
 ldI t41 h18 fun t42 =>
 cal D 91 [(vI t42)] h18 fun t43 h19 =>
 br (again [⟨none, .cell q38, p39⟩] (mkT [(p39, t39), (p38, t38)]) h19) (
 asI .i64 t43 fun t43a =>
 cal D 90 [t3, (vI t43a)] h19 fun t44 h20 =>
 br (again [⟨none, .cell q38, p39⟩] (mkT [(p39, t39), (p38, t38)]) h20) (
 asI .i64 t44 fun t44a =>
 let t45 := AV.slice (HP.nxQ h20) 0 1 (.exact 1)
 let h21 := HP.newQ h20 (.cells true [(vI t44a)])
 eff (.app 1 8 (.c t39) (.c t45)) h21 fun t46 h22 =>
 nilckC t3 fun t47 =>
 faC 0 t47 fun t48 =>
 faC 2 t48 fun t49 =>
 stoC t49 t46 h22 fun h23 =>
 let t50 := wrQ .i64 (addQ t30 (Int.ofNat 1))
 g3 t1 t2 t3 t28 t29 t50 h23) none) none) (
 S51_0 D m t1 t2 t3 h)
def S51_3 (D : CallD) (m : Nat) : AV → AV → AV → AV → Int → Int → HP → Res2 := nrec (fun _ _ _ _ _ _ _ => none) (fun _ g => S51_3b D m g) m
def e51_4 (k t0 h) := kN k [(p0, t0)] h
def S51_4 (D : CallD) (m : Nat) (t0 : AV) (h : HP) : Res2 :=
 let t1 := AV.ptr (HP.nxQ h) 0
 let h5 := HP.newQ h (.cells true (AV.cells t0))
 let t2 := AV.ptr (HP.nxQ h5) 0
 let h6 := HP.newQ h5 (.cells true [(.str []), (.bool false), .nils, .nils, .nils, .nils])
 let t8 := (AV.ptr (HP.nxQ h) (Nat.add 0 3))
 ldS t8 h6 fun t9 =>
 let t10 := (AV.ptr (HP.nxQ h) (Nat.add 0 1))
 ldB t10 h6 fun t11 =>
 let t12 := (AV.agg [(vS t9), (vB t11), (.nils : AV), (.nils : AV), (.nils : AV), (.nils : AV)])
 let t13 := AV.map (HP.nxQ h6)
 let h7 := HP.newQ h6 (.map [] 0)
 let t14 := AV.map (HP.nxQ h7)
 let h8 := HP.newQ h7 (.map [] 0)
 let t15 := (AV.ptr (HP.nxQ h) (Nat.add 0 4))
 ldI t15 h8 fun t16 =>
 let t17 := (AV.agg [(vS t9), (vB t11), (.nils : AV), (.nils : AV), (.nils : AV), (.nils : AV), t13, t14, (vI t16), (.nils : AV)])
 let t18 := AV.ptr (HP.nxQ h8) 0
 let h9 := HP.newQ h8 (.cells true (AV.cells t17))
 let t19 := (AV.ptr (HP.nxQ h) (Nat.add 0 9))
 let t20 := (AV.ptr (HP.nxQ h) (Nat.add (Nat.add 0 9) 2))
 cellC t20 h9 fun t21 =>
 let t24 := (AV.ptr (HP.nxQ h8) (Nat.add 0 7))
 cellC t24 h9 fun t25 =>
 cal D 89 [t21, t25] h9 fun t26 h10 =>
 let t27 := (AV.ptr (HP.nxQ h) (Nat.add 0 8))
 cellC t27 h10 fun t28 =>
 lenC t28 fun vt29 => asI .i64 vt29 fun t29 =>
 S51_3 D m t1 t2 t18 t28 t29 (Int.ofNat 0) h10
def S51 : SFn := fun D m args h u => nou u <| popV args fun t0 args => endA args (S51_4 D m t0 h)
theorem T51_1 (hE : FX x51 D m E) : S51_1 D m = e51_1 (E c51_1 []) := by unfold S51_1; rw [hE c51_1]; kernel_rfl
theorem T51_2b (hE : FX x51 D m E) (G2) : S51_2b D m (e51_2 G2) = e51_2 (E c51_2b [.lp v51_2 G2, .blk 2, .sj v51_1 c51_1]) := by unfold S51_2b; rw [T51_1 hE, hE c51_2b]; kernel_rfl
theorem T51_2 (hE : FX x51 D m E) : S51_2 D m = e51_2 (nrec (fun _ => none) (fun _ G2 st => E c51_2b [.lp v51_2 G2, .blk 2, .sj v51_1 c51_1] st) m) :=
  nrec_emb e51_2 (fun _ _ _ _ _ _ _ => none) (fun g => S51_2b D m g) (fun G2 st => E c51_2b [.lp v51_2 G2, .blk 2, .sj v51_1 c51_1] st) rfl (fun g => T51_2b hE g) m
theorem T51_0 (hE : FX x51 D m E) : S51_0 D m = e51_0 (E c51_0 []) := by unfold S51_0; rw [T51_2 hE, hE c51_0]; kernel_rfl
theorem T51_3b (hE : FX x51 D m E) (G3) : S51_3b D m (e51_3 G3) = e51_3 (E c51_3b [.lp v51_3 G3, .blk 0, .sj v51_0 c51_0]) := by unfold S51_3b; rw [T51_0 hE, hE c51_3b]; kernel_rfl
theorem T51_3 (hE : FX x51 D m E) : S51_3 D m = e51_3 (nrec (fun _ => none) (fun _ G3 st => E c51_3b [.lp v51_3 G3, .blk 0, .sj v51_0 c51_0] st) m) :=
  nrec_emb e51_3 (fun _ _ _ _ _ _ _ => none) (fun g => S51_3b D m g) (fun G3 st => E c51_3b [.lp v51_3 G3, .blk 0, .sj v51_0 c51_0] st) rfl (fun g => T51_3b hE g) m
theorem T51_4 (hE : FX x51 D m E) : S51_4 D m = e51_4 (E c51_e []) := by unfold S51_4; rw [T51_3 hE, hE c51_e]; kernel_rfl
theorem X51 : XTie S51 x51 := X_of fun D m E hE args h u => by unfold S51; rw [T51_4 hE]; kernel_rfl
/- 52 -/
def v52_3 : List Pos := [p1]
def c52_3 : XC := (.sO [.fa p116 5 q1, .ld p117 q116 .v, .fa p118 5 q1, .ld p119 q118 .v, .P p120 (.lenl q119) tI, .bn p121 .sub q120 (ci 1) tI, .P p122 (.iaddr (.sl 9) q117 q121) .v, .fa p123 0 q122, .ld p124 q123 tI, .mv p8 q124 tI] (.sO [.mv p125 q8 tI, .bn p126 .eql q125 (ci 17) .b, .mv p127 q126 .b, .ge p127 (XL.of [.G p127 false p128 (.mov q8) tI, .G p127 false p129 (.bin .eql q128 (ci 18)) .b, .P p130 (.pick q127 (cb true) q129) .b]) p130 .b, .mv p2 q130 .b] (.s .ret)))
def v52_4 : List Pos := [p1, p103, p104]
def c52_4b : XC := (.sO [.bn p105 .lss q104 q103 .b] (.seq (.cond q105 .skip (.exit 8)) (.seq (.block 9 (.seq (.oX [.mv p106 q104 tI, .mv p7 q106 tI]) (.seq (.ops true (XL.of [.L p107 (.cells 6 q1) .v, .fa p108 5 q1, .ld p109 q108 .v, .mv p110 q7 tI, .P p111 (.iaddr (.sl 9) q109 q110) .v, .L p112 (.cells 9 q111) .v, .cl p113 97 [q107, q112] .b, .P p114 (.un .not q113) .b])) (.cond q114 (.seq (.oX [.mv p2 (cb false) .b]) .ret) .skip)))) (.s (.oX [.bn p115 .add q104 (ci 1) tI, .mv p104 q115 tI])))))
def v52_2 : List Pos := [p1]
def c52_2 : XC := (.sj v52_3 (.sO [.fa p101 5 q1, .ld p102 q101 .v, .P p103 (.lenl q102) tI, .mv p104 (ci 0) tI] (.block 8 (.loop v52_4 c52_4b))) c52_3)
def v52_6 : List Pos := [p1, p72, p73]
def c52_6 : XC := (.s (.oX [.bn p100 .add q73 (ci 1) tI, .mv p73 q100 tI]))
def v52_7 : List Pos := [p1, p5, p6, p72, p73]
def c52_7b : XC := (.seq (.seq (.oX [.mv p84 q6 tI, .mv p85 q5 tI, .bn p86 .lss q84 q85 .b]) (.cond q86 .skip (.exit 6))) (.seq (.block 7 (.seq (.ops true (XL.of [.fa p89 2 q1, .ld p90 q89 .v, .mv p91 q6 tI, .P p92 (.iaddr (.sl 1) q90 q91) .v, .ld p93 q92 tI, .fa p94 2 q1, .ld p95 q94 .v, .mv p96 q5 tI, .P p97 (.iaddr (.sl 1) q95 q96) .v, .ld p98 q97 tI, .bn p99 .eql q93 q98 .b])) (.cond q99 (.seq (.oX [.mv p2 (cb false) .b]) .ret) .skip))) (.s (.oX [.mv p87 q6 tI, .bn p88 .add q87 (ci 1) tI, .mv p6 q88 tI]))))
def v52_5 : List Pos := [p1, p72, p73]
def c52_5b : XC := (.sO [.bn p74 .lss q73 q72 .b] (.seq (.cond q74 .skip (.exit 4)) (.sj v52_6 (.block 5 (.sO [.mv p75 q73 tI, .mv p5 q75 tI] (.seq (.seq (.ops true (XL.of [.L p76 (.cells 6 q1) .v, .fa p77 2 q1, .ld p78 q77 .v, .mv p79 q5 tI, .P p80 (.iaddr (.sl 1) q78 q79) .v, .ld p81 q80 tI, .cl p82 96 [q76, q81] tI, .bn p83 .eql q82 (ci 0) .b])) (.cond q83 (.seq (.oX [.mv p2 (cb false) .b]) .ret) .skip)) (.sO [.mv p6 (ci 0) tI] (.block 6 (.loop v52_7 c52_7b)))))) c52_6)))
def v52_1 : List Pos := [p1]
def c52_1 : XC := (.sj v52_2 (.sO [.fa p70 2 q1, .ld p71 q70 .v, .P p72 (.lenl q71) tI, .mv p73 (ci 0) tI] (.block 4 (.loop v52_5 c52_5b))) c52_2)
def v52_8 : List Pos := [p1, p42, p43]
def c52_8b : XC := (.sO [.bn p44 .lss q43 q42 .b] (.seq (.cond q44 .skip (.exit 2)) (.seq (.block 3 (.seq (.oX [.mv p45 q43 tI, .mv p4 q45 tI]) (.seq (.oX [.fa p46 4 q1, .ld p47 q46 .v, .mv p48 q4 tI, .P p49 (.iaddr (.sl 1) q47 q48) .v, .ld p50 q49 tI, .bn p51 .lss q50 (ci 8) .b, .mv p52 q51 .b, .ge p52 (XL.of [.G p52 false p53 (.faddr 4 q1) .v, .o ⟨(some p54), (.l (.cell q53)), (some (p52, false)), []⟩ .v, .G p52 false p55 (.mov q4) tI, .G p52 false p56 (.iaddr (.sl 1) q54 q55) .v, .o ⟨(some p57), (.l (.cell q56)), (some (p52, false)), []⟩ tI, .G p52 false p58 (.bin .rem q57 (ci 8)) tI, .G p52 false p59 (.bin .neq q58 (ci 0)) .b, .P p60 (.pick q52 (cb true) q59) .b]) p60 .b, .mv p61 q60 .b, .ge p61 (XL.of [.G p61 false p62 (.faddr 4 q1) .v, .o ⟨(some p63), (.l (.cell q62)), (some (p61, false)), []⟩ .v, .G p61 false p64 (.mov q4) tI, .G p61 false p65 (.iaddr (.sl 1) q63 q64) .v, .o ⟨(some p66), (.l (.cell q65)), (some (p61, false)), []⟩ tI, .G p61 false p67 (.bin .gtr q66 (ci 2097152)) .b, .P p68 (.pick q61 (cb true) q67) .b]) p68 .b]) (.cond q68 (.seq (.oX [.mv p2 (cb false) .b]) .ret) .skip)))) (.s (.oX [.bn p69 .add q43 (ci 1) tI, .mv p43 q69 tI])))))
def v52_0 : List Pos := [p1]
def c52_0 : XC := (.sj v52_1 (.sO [.fa p40 4 q1, .ld p41 q40 .v, .P p42 (.lenl q41) tI, .mv p43 (ci 0) tI] (.block 2 (.loop v52_8 c52_8b))) c52_1)
def v52_9 : List Pos := [p1, p21, p22]
def c52_9b : XC := (.sO [.bn p23 .lss q22 q21 .b] (.seq (.cond q23 .skip (.exit 0)) (.seq (.block 1 (.seq (.oX [.mv p24 q22 tI, .mv p3 q24 tI]) (.seq (.oX [.fa p25 3 q1, .ld p26 q25 .v, .mv p27 q3 tI, .P p28 (.iaddr (.sl 1) q26 q27) .v, .ld p29 q28 tI, .bn p30 .neq q29 (ci 1) .b, .mv p31 q30 .b, .ge p31 (XL.of [.G p31 true p32 (.faddr 3 q1) .v, .o ⟨(some p33), (.l (.cell q32)), (some (p31, true)), []⟩ .v, .G p31 true p34 (.mov q3) tI, .G p31 true p35 (.iaddr (.sl 1) q33 q34) .v, .o ⟨(some p36), (.l (.cell q35)), (some (p31, true)), []⟩ tI, .G p31 true p37 (.bin .neq q36 (ci 2)) .b, .P p38 (.pick q31 q37 (cb false)) .b]) p38 .b]) (.cond q38 (.seq (.oX [.mv p2 (cb false) .b]) .ret) .skip)))) (.s (.oX [.bn p39 .add q22 (ci 1) tI, .mv p22 q39 tI])))))
def c52_e : XC := (.sO [.al p1 (.box q0), .mv p2 (cb false) .b] (.seq (.seq (.oX [.fa p9 0 q1, .ld p10 q9 .s, .cl p11 95 [q10] .b, .P p12 (.un .not q11) .b, .mv p13 q12 .b, .ge p13 (XL.of [.G p13 false p14 (.faddr 5 q1) .v, .o ⟨(some p15), (.l (.cell q14)), (some (p13, false)), []⟩ .v, .G p13 false p16 (.lenl q15) tI, .G p13 false p17 (.bin .eql q16 (ci 0)) .b, .P p18 (.pick q13 (cb true) q17) .b]) p18 .b]) (.cond q18 (.seq (.oX [.mv p2 (cb false) .b]) .ret) .skip)) (.sj v52_0 (.sO [.fa p19 3 q1, .ld p20 q19 .v, .P p21 (.lenl q20) tI, .mv p22 (ci 0) tI] (.block 0 (.loop v52_9 c52_9b))) c52_0)))
def x52 : XFn := ⟨[.v], false, [(.tmp p2)], c52_e⟩
def e52_3 (k t1 h) := kN k [(p1, t1)] h
def S52_3 (D : CallD) (m : Nat) (t1 : AV) (h : HP) : Res2 :=
 faC 5 t1 fun t116 =>
 cellC t116 h fun t117 =>
 faC 5 t1 fun t118 =>
 cellC t118 h fun t119 =>
 lenC t119 fun vt120 => asI .i64 vt120 fun t120 =>
 let t121 := wrQ .i64 (t120 - (Int.ofNat 1))
 iasC 9 t117 (vI t121) fun t122 =>
 faC 0 t122 fun t123 =>
 ldI t123 h fun t124 =>
 let t126 := eqQ t124 (Int.ofNat 17)
 obB (brV t126 (
 some (vB true)) (
 let t129 := eqQ t124 (Int.ofNat 18)
 some (vB t129))) fun t130 =>
 some (.ret (vB t130) h, .no)
def e52_4 (k t1 t103 t104 h) := kN k [(p1, t1), (p103, (vI t103)), (p104, (vI t104))] h
def S52_4b (D : CallD) (m : Nat) (g4 : AV → Int → Int → HP → Res2) (t1 : AV) (t103 t104 : Int) (h : HP) : Res2 :=
 let t105 := ltQ t104 t103
 br t105 (
 cellsC 6 t1 h fun t107 =>
 faC 5 t1 fun t108 =>
 cellC t108 h fun t109 =>
 iasC 9 t109 (vI t104) fun t111 =>
 cellsC 9 t111 h fun t112 =>
 cal D 97 [t107, t112] h fun t113 h13 =>
 asB t113 fun t113a =>
 let t114 := !t113a
 br t114 (
 some (.ret (vB false) h13, .no)) (
 let t115 := wrQ .i64 (addQ t104 (Int.ofNat 1))
 g4 t1 t103 t115 h13)) (
 S52_3 D m t1 h)
def S52_4 (D : CallD) (m : Nat) : AV → Int → Int → HP → Res2 := nrec (fun _ _ _ _ => none) (fun _ g => S52_4b D m g) m
def e52_2 (k t1 h) := kN k [(p1, t1)] h
def S52_2 (D : CallD) (m : Nat) (t1 : AV) (h : HP) : Res2 :=
 faC 5 t1 fun t101 =>
 cellC t101 h fun t102 =>
 lenC t102 fun vt103 => asI .i64 vt103 fun t103 =>
 S52_4 D m t1 t103 (Int.ofNat 0) h
def e52_6 (k t1 t72 t73 h) := kN k [(p1, t1), (p72, (vI t72)), (p73, (vI t73))] h
def S52_6 (D : CallD) (m : Nat) (g5 : AV → Int → Int → HP → Res2) (t1 : AV) (t72 t73 : Int) (h : HP) : Res2 :=
 let t100 := wrQ .i64 (addQ t73 (Int.ofNat 1))
 g5 t1 t72 t100 h
def e52_7 (k t1 t5 t6 t72 t73 h) := kN k [(p1, t1), (p5, (vI t5)), (p6, (vI t6)), (p72, (vI t72)), (p73, (vI t73))] h
def S52_7b (D : CallD) (m : Nat) (g7 : AV → Int → Int → Int → Int → HP → Res2) (g5 : AV → Int → Int → HP → Res2) (t1 : AV) (t5 t6 t72 t73 : Int) (h : HP) : Res2 :=
 let t86 := ltQ t6 t5
 br t86 (
 faC 2 t1 fun t89 =>
 cellC t89 h fun t90 =>
 iasC 1 t90 (vI t6) fun t92 =>
 ldI t92 h fun t93 =>
 faC 2 t1 fun t94 =>
 cellC t94 h fun t95 =>
 iasC 1 t95 (vI t5) fun t97 =>
 ldI t97 h fun t98 =>
 let t99 := eqQ t93 t98
 br t99 (
 some (.ret (vB false) h, .no)) (
 let t88 := wrQ .i64 (addQ t6 (Int.ofNat 1))
 g7 t1 t5 t88 t72 t73 h)) (
 S52_6 D m g5 t1 t72 t73 h)
def S52_7 (D : CallD) (m : Nat) (g5 : AV → Int → Int → HP → Res2) : AV → Int → Int → Int → Int → HP → Res2 := nrec (fun _ _ _ _ _ _ => none) (fun _ g => S52_7b D m g g5) m
def e52_5 (k t1 t72 t73 h) := kN k [(p1, t1), (p72, (vI t72)), (p73, (vI t73))] h
def S52_5b (D : CallD) (m : Nat) (g5 : AV → Int → Int → HP → Res2) (t1 : AV) (t72 t73 : Int) (h : HP) : Res2 :=
 let t74 := ltQ t73 t72
 br t74 (
 cellsC 6 t1 h fun t76 =>
 faC 2 t1 fun t77 =>
 cellC t77 h fun t78 =>
 iasC 1 t78 (vI t73) fun t80 =>
 ldI t80 h fun t81 =>
 cal D 96 [t76, (vI t81)] h fun t82 h14 =>
 asI .i64 t82 fun t82a =>
 let t83 := eqQ t82a (Int.ofNat 0)
 br t83 (
 some (.ret (vB false) h14, .no)) (
 S52_7 D m g5 t1 t73 (Int.ofNat 0) t72 t73 h14)) (
 S52_2 D m t1 h)
def S52_5 (D : CallD) (m : Nat) : AV → Int → Int → HP → Res2 := nrec (fun _ _ _ _ => none) (fun _ g => S52_5b D m g) m
def e52_1 (k t1 h) := kN k [(p1, t1)] h
def S52_1 (D : CallD) (m : Nat) (t1 : AV) (h : HP) : Res2 :=
 faC 2 t1 fun t70 =>
 cellC t70 h fun t71 =>
 lenC t71 fun vt72 => asI .i64 vt72 fun t72 =>
 S52_5 D m t1 t72 (Int.ofNat 0) h
def e52_8 (k t1 t42 t43 h) := kN k [(p1, t1), (p42, (vI t42)), (p43, (vI t43))] h
def S52_8b (D : CallD) (m : Nat) (g8 : AV → Int → Int → HP → Res2) (t1 : AV) (t42 t43 : Int) (h : HP) : Res2 :=
 let t44 := ltQ t43 t42
 br t44 (
 faC 4 t1 fun t46 =>
 cellC t46 h fun t47 =>
 iasC 1 t47 (vI t43) fun t49 =>
 ldI t49 h fun t50 =>
 let t51 := ltQ t50 (Int.ofNat 8)
 obB (brV t51 (
 some (vB true)) (
 faCV 4 t1 fun t53 =>
 cellCV t53 h fun t54 =>
 iasCV 1 t54 (vI t43) fun t56 =>
 ldIV t56 h fun t57 =>
 let t58 := Int.tmod t57 (Int.ofNat 8)
 let t59 := notQ (eqQ t58 (Int.ofNat 0))
 some (vB t59))) fun t60 =>
 obB (brV t60 (
 some (vB true)) (
 faCV 4 t1 fun t62 =>
 cellCV t62 h fun t63 =>
 iasCV 1 t63 (vI t43) fun t65 =>
 ldIV t65 h fun t66 =>
 let t67 := ltQ (Int.ofNat 2097152) t66
 some (vB t67))) fun t68 =>
 br t68 (
 some (.ret (vB false) h, .no)) (
 let t69 := wrQ .i64 (addQ t43 (Int.ofNat 1))
 g8 t1 t42 t69 h)) (
 S52_1 D m t1 h)
def S52_8 (D : CallD) (m : Nat) : AV → Int → Int → HP → Res2 := nrec (fun _ _ _ _ => none) (fun _ g => S52_8b D m g) m
def e52_0 (k t1 h) := kN k [(p1, t1)] h
def S52_0 (D : CallD) (m : Nat) (t1 : AV) (h : HP) : Res2 :=
 faC 4 t1 fun t40 =>
 cellC t40 h fun t41 =>
 lenC t41 fun vt42 => asI .i64 vt42 fun t42 =>
 S52_8 D m t1 t42 (Int.ofNat 0) h
def e52_9 (k t1 t21 t22 h) := kN k [(p1, t1), (p21, (vI t21)), (p22, (vI t22))] h
def S52_9b (D : CallD) (m : Nat) (g9 : AV → Int → Int → HP → Res2) (t1 : AV) (t21 t22 : Int) (h : HP) : Res2 :=
 let t23 := ltQ t22 t21
 br t23 (
 faC 3 t1 fun t25 =>
 cellC t25 h fun t26 =>
 iasC 1 t26 (vI t22) fun t28 =>
 ldI t28 h fun t29 =>
 let t30 := notQ (eqQ t29 (Int.ofNat 1))
 obB (brV t30 (
 faCV 3 t1 fun t32 =>
 cellCV t32 h fun t33 =>
 iasCV 1 t33 (vI t22) fun t35 =>
 ldIV t35 h fun t36 =>
 let t37 := notQ (eqQ t36 (Int.ofNat 2))
 some (vB t37)) (
 some (vB false))) fun t38 =>
 br t38 (
 some (.ret (vB false) h, .no)) (
 let t39 := wrQ .i64 (addQ t22 (Int.ofNat 1))
 g9 t1 t21 t39 h)) (
 S52_0 D m t1 h)
def S52_9 (D : CallD) (m : Nat) : AV → Int → Int → HP → Res2 := nrec (fun _ _ _ _ => none) (fun _ g => S52_9b D m g) m
def e52_10 (k t0 h) := kN k [(p0, t0)] h
def S52_10 (D : CallD) (m : Nat) (t0 : AV) (h : HP) : Res2 :=
 let t1 := AV.ptr (HP.nxQ h) 0
 let h11 := HP.newQ h (.cells true (AV.cells t0))
 let t9 := (AV.ptr (HP.nxQ h) (Nat.add 0 0))
 ldS t9 h11 fun t10 =>
 cal D 95 [(vS t10)] h11 fun t11 h12 =>
 asB t11 fun t11a =>
 let t12 := !t11a
 obB (brV t12 (
 some (vB true)) (
 let t14 := (AV.ptr (HP.nxQ h) (Nat.add 0 5))
 cellCV t14 h12 fun t15 =>
 lenCV t15 fun vt16 => asIV .i64 vt16 fun t16 =>
 let t17 := eqQ t16 (Int.ofNat 0)
 some (vB t17))) fun t18 =>
 br t18 (
 some (.ret (vB false) h12, .no)) (
 let t19 := (AV.ptr (HP.nxQ h) (Nat.add 0 3))
 cellC t19 h12 fun t20 =>
 lenC t20 fun vt21 => asI .i64 vt21 fun t21 =>
 S52_9 D m t1 t21 (Int.ofNat 0) h12)
def S52 : SFn := fun D m args h u => nou u <| popV args fun t0 args => endA args (S52_10 D m t0 h)
theorem T52_3 (hE : FX x52 D m E) : S52_3 D m = e52_3 (E c52_3 []) := by unfold S52_3; rw [hE c52_3]; kernel_rfl
theorem T52_4b (hE : FX x52 D m E) (G4) : S52_4b D m (e52_4 G4) = e52_4 (E c52_4b [.lp v52_4 G4, .blk 8, .sj v52_3 c52_3]) := by unfold S52_4b; rw [T52_3 hE, hE c52_4b]; kernel_rfl
theorem T52_4 (hE : FX x52 D m E) : S52_4 D m = e52_4 (nrec (fun _ => none) (fun _ G4 st => E c52_4b [.lp v52_4 G4, .blk 8, .sj v52_3 c52_3] st) m) :=
  nrec_emb e52_4 (fun _ _ _ _ => none) (fun g => S52_4b D m g) (fun G4 st => E c52_4b [.lp v52_4 G4, .blk 8, .sj v52_3 c52_3] st) rfl (fun g => T52_4b hE g) m
theorem T52_2 (hE : FX x52 D m E) : S52_2 D m = e52_2 (E c52_2 []) := by unfold S52_2; rw [T52_4 hE, hE c52_2]; kernel_rfl
theorem T52_6 (hE : FX x52 D m E) (G5) : S52_6 D m (e52_5 G5) = e52_6 (E c52_6 [.lp v52_5 G5, .blk 4, .sj v52_2 c52_2]) := by unfold S52_6; rw [hE c52_6]; kernel_rfl
theorem T52_7b (hE : FX x52 D m E) (G7) (G5) : S52_7b D m (e52_7 G7) (e52_5 G5) = e52_7 (E c52_7b [.lp v52_7 G7, .blk 6, .blk 5, .sj v52_6 c52_6, .lp v52_5 G5, .blk 4, .sj v52_2 c52_2]) := by unfold S52_7b; rw [T52_6 hE G5, hE c52_7b]; kernel_rfl
theorem T52_7 (hE : FX x52 D m E) (G5) : S52_7 D m (e52_5 G5) = e52_7 (nrec (fun _ => none) (fun _ G7 st => E c52_7b [.lp v52_7 G7, .blk 6, .blk 5, .sj v52_6 c52_6, .lp v52_5 G5, .blk 4, .sj v52_2 c52_2] st) m) :=
  nrec_emb e52_7 (fun _ _ _ _ _ _ => none) (fun g => S52_7b D m g (e52_5 G5)) (fun G7 st => E c52_7b [.lp v52_7 G7, .blk 6, .blk 5, .sj v52_6 c52_6, .lp v52_5 G5, .blk 4, .sj v52_2 c52_2] st) rfl (fun g => T52_7b hE g G5) m
theorem T52_5b (hE : FX x52 D m E) (G5) : S52_5b D m (e52_5 G5) = e52_5 (E c52_5b [.lp v52_5 G5, .blk 4, .sj v52_2 c52_2]) := by unfold S52_5b; rw [T52_7 hE G5, T52_2 hE, hE c52_5b]; kernel_rfl
theorem T52_5 (hE : FX x52 D m E) : S52_5 D m = e52_5 (nrec (fun _ => none) (fun _ G5 st => E c52_5b [.lp v52_5 G5, .blk 4, .sj v52_2 c52_2] st) m) :=
  nrec_emb e52_5 (fun _ _ _ _ => none) (fun g => S52_5b D m g) (fun G5 st => E c52_5b [.lp v52_5 G5, .blk 4, .sj v52_2 c52_2] st) rfl (fun g => T52_5b hE g) m
theorem T52_1 (hE : FX x52 D m E) : S52_1 D m = e52_1 (E c52_1 []) := by unfold S52_1; rw [T52_5 hE, hE c52_1]; kernel_rfl
theorem T52_8b (hE : FX x52 D m E) (G8) : S52_8b D m (e52_8 G8) = e52_8 (E c52_8b [.lp v52_8 G8, .blk 2, .sj v52_1 c52_1]) := by unfold S52_8b; rw [T52_1 hE, hE c52_8b]; kernel_rfl
theorem T52_8 (hE : FX x52 D m E) : S52_8 D m = e52_8 (nrec (fun _ => none) (fun _ G8 st => E c52_8b [.lp v52_8 G8, .blk 2, .sj v52_1 c52_1] st) m) :=
  nrec_emb e52_8 (fun _ _ _ _ => none) (fun g => S52_8b D m g) (fun G8 st => E c52_8b [.lp v52_8 G8, .blk 2, .sj v52_1 c52_1] st) rfl (fun g => T52_8b hE g) m
theorem T52_0 (hE : FX x52 D m E) : S52_0 D m = e52_0 (E c52_0 []) := by unfold S52_0; rw [T52_8 hE, hE c52_0]; kernel_rfl
theorem T52_9b (hE : FX x52 D m E) (G9) : S52_9b D m (e52_9 G9) = e52_9 (E c52_9b [.lp v52_9 G9, .blk 0, .sj v52_0 c52_0]) := by unfold S52_9b; rw [T52_0 hE, hE c52_9b]; kernel_rfl
theorem T52_9 (hE : FX x52 D m E) : S52_9 D m = e52_9 (nrec (fun _ => none) (fun _ G9 st => E c52_9b [.lp v52_9 G9, .blk 0, .sj v52_0 c52_0] st) m) :=
  nrec_emb e52_9 (fun _ _ _ _ => none) (fun g => S52_9b D m g) (fun G9 st => E c52_9b [.lp v52_9 G9, .blk 0, .sj v52_0 c52_0] st) rfl (fun g => T52_9b hE g) m
theorem T52_10 (hE : FX x52 D m E) : S52_10 D m = e52_10 (E c52_e []) := by unfold S52_10; rw [T52_9 hE, hE c52_e]; kernel_rfl
theorem X52 : XTie S52 x52 := X_of fun D m E hE args h u => by unfold S52; rw [T52_10 hE]; kernel_rfl
/- 53 -/
def c53_e : XC := (.sO [.mv p4 (ci 0) tI] (.sO [.mv p5 q0 tI, .mv p6 q1 tI, .bn p7 .add q5 q6 tI, .bn p8 .sub q7 (ci 1) tI, .mv p9 q1 tI, .bn p10 .quo q8 q9 tI, .mv p11 q1 tI, .bn p12 .mul q10 q11 tI, .mv p4 q12 tI] (.s .ret)))
def x53 : XFn := ⟨[tI, tI], false, [(.tmp p4)], c53_e⟩
def e53_0 (k t0 t1 h) := kN k [(p0, (vI t0)), (p1, (vI t1))] h
def S53_0 (D : CallD) (m : Nat) (t0 t1 : Int) (h : HP) : Res2 :=
 let t7 := wrQ .i64 (addQ t0 t1)
 let t8 := wrQ .i64 (t7 - (Int.ofNat 1))
 obI .i64 (intBin .quo .i64 t8 t1) fun t10 =>
 let t12 := wrQ .i64 (t10 * t1)
 some (.ret (vI t12) h, .no)
def S53 : SFn := fun D m args h u => nou u <| popI .i64 args fun t0 args => popI .i64 args fun t1 args => endA args (S53_0 D m t0 t1 h)
theorem T53_0 (hE : FX x53 D m E) : S53_0 D m = e53_0 (E c53_e []) := by unfold S53_0; rw [hE c53_e]; kernel_rfl
theorem X53 : XTie S53 x53 := X_of fun D m E hE args h u => by unfold S53; rw [T53_0 hE]; kernel_rfl
/- 54 -/
def v54_0 : List Pos := [p2, p4]
def c54_0 : XC := (.sO [.L p20 (.cells 8 q2) .v, .ss 8 q4 q20] (.s .ret))
def v54_1 : List Pos := [p1, p2, p4]
def c54_1b : XC := (.seq (.seq (.oX [.fa p9 2 q2, .ld p10 q9 .v, .P p11 (.lenl q10) tI, .bn p12 .add (ci 4096) q11 tI, .mv p13 q1 tI, .bn p14 .lss q12 q13 .b]) (.cond q14 .skip (.exit 0))) (.block 1 (.s (.oX [.fa p15 2 q2, .ld p16 q15 .v, .al p17 (.bsl [(.int .u8 (.ofNat 0))] 1 [⟨0, 1, (.c (.int .u8 (.ofNat 0)))⟩]), .o ⟨(some p18), (.e (.app 1 1 q16 q17)), none, []⟩ .v, .fa p19 2 q2, .st q19 q18]))))
def c54_e : XC := (.sO [.al p2 (.box q0), .al p4 (.new [.nils, .nils, .nils, .nils, .nils, (kI 0), (kI 0), (kI 0)])] (.seq (.seq (.oX [.mv p5 q1 tI, .bn p6 .gtr q5 (ci 2097152) .b]) (.cond q6 (.seq (.oX [.L p7 (.cells 8 q2) .v, .cl p8 25 [q7, (ci 4)] .v, .ss 8 q4 q8]) .ret) .skip)) (.sj v54_0 (.block 0 (.loop v54_1 c54_1b)) c54_0)))
def x54 : XFn := ⟨[.v, tI], false, [(.cells 8 p4)], c54_e⟩
def e54_0 (k t2 t4 h) := kN k [(p2, t2), (p4, t4)] h
def S54_0 (D : CallD) (m : Nat) (t2 t4 : AV) (h : HP) : Res2 :=
 cellsC 8 t2 h fun t20 =>
 stsC 8 t4 t20 h fun h7 =>
 cellsC 8 t4 h7 fun t4a =>
 some (.ret t4a h7, .no)
def e54_1 (k t1 t2 t4 h) := kN k [(p1, (vI t1)), (p2, t2), (p4, t4)] h
def S54_1b (D : CallD) (m : Nat) (g1 : Int → AV → AV → HP → Res2) (t1 : Int) (t2 t4 : AV) (h : HP) : Res2 :=
 faC 2 t2 fun t9 =>
 cellC t9 h fun t10 =>
 lenC t10 fun vt11 => asI .i64 vt11 fun t11 =>
 let t12 := wrQ .i64 (addQ (Int.ofNat 4096) t11)
 let t14 := ltQ t12 t1
 br t14 (
 faC 2 t2 fun t15 =>
 cellC t15 h fun t16 =>
 let t17 := AV.slice (HP.nxQ h) 0 1 (.exact 1)
 let h8 := HP.newQ h (.cells true [(vC (Int.ofNat 0))])
 eff (.app 1 1 (.c t16) (.c t17)) h8 fun t18 h9 =>
 faC 2 t2 fun t19 =>
 stoC t19 t18 h9 fun h10 =>
 g1 t1 t2 t4 h10) (
 S54_0 D m t2 t4 h)
def S54_1 (D : CallD) (m : Nat) : Int → AV → AV → HP → Res2 := nrec (fun _ _ _ _ => none) (fun _ g => S54_1b D m g) m
def e54_2 (k t0 t1 h) := kN k [(p0, t0), (p1, (vI t1))] h
def S54_2 (D : CallD) (m : Nat) (t0 : AV) (t1 : Int) (h : HP) : Res2 :=
 let t2 := AV.ptr (HP.nxQ h) 0
 let h3 := HP.newQ h (.cells true (AV.cells t0))
 let t4 := AV.ptr (HP.nxQ h3) 0
 let h4 := HP.newQ h3 (.cells true [.nils, .nils, .nils, .nils, .nils, (kI 0), (kI 0), (kI 0)])
 let t6 := ltQ (Int.ofNat 2097152) t1
 br t6 (
 cellsC 8 t2 h4 fun t7 =>
 cal D 25 [t7, (vI (Int.ofNat 4))] h4 fun t8 h5 =>
 stsC 8 t4 t8 h5 fun h6 =>
 cellsC 8 t4 h6 fun t4a =>
 some (.ret t4a h6, .no)) (
 S54_1 D m t1 t2 t4 h4)
def S54 : SFn := fun D m args h u => nou u <| popV args fun t0 args => popI .i64 args fun t1 args => endA args (S54_2 D m t0 t1 h)
theorem T54_0 (hE : FX x54 D m E) : S54_0 D m = e54_0 (E c54_0 []) := by unfold S54_0; rw [hE c54_0]; kernel_rfl
theorem T54_1b (hE : FX x54 D m E) (G1) : S54_1b D m (e54_1 G1) = e54_1 (E c54_1b [.lp v54_1 G1, .blk 0, .sj v54_0 c54_0]) := by unfold S54_1b; rw [T54_0 hE, hE c54_1b]; kernel_rfl
theorem T54_1 (hE : FX x54 D m E) : S54_1 D m = e54_1 (nrec (fun _ => none) (fun _ G1 st => E c54_1b [.lp v54_1 G1, .blk 0, .sj v54_0 c54_0] st) m) :=
  nrec_emb e54_1 (fun _ _ _ _ => none) (fun g => S54_1b D m g) (fun G1 st => E c54_1b [.lp v54_1 G1, .blk 0, .sj v54_0 c54_0] st) rfl (fun g => T54_1b hE g) m
theorem T54_2 (hE : FX x54 D m E) : S54_2 D m = e54_2 (E c54_e []) := by unfold S54_2; rw [T54_1 hE, hE c54_e]; kernel_rfl
theorem X54 : XTie S54 x54 := X_of fun D m E hE args h u => by unfold S54; rw [T54_2 hE]; kernel_rfl
/- 57 -/
def v57_3 : List Pos := [p6, p12]
def c57_3 : XC := (.sO [.L p224 (.cells 8 q6) .v, .ss 8 q12 q224] (.s .ret))
def v57_2 : List Pos := [p5, p6, p9, p10, p12, p14, p15, p18]
def c57_2 : XC := (.sO [.fa p187 6 q6, .ld p188 q187 tI, .bn p189 .add q188 (ci 1) tI, .fa p190 6 q6, .st q190 q189] (.sO [.mv p19 (.c (.int .u32 (.ofNat 0))) tW, .mv p20 (.c (.int .u64 (.ofNat 0))) (.i .u64)] (.sO [.L p192 (.cells 8 q6) .v, .L p193 (.cells 6 q14) .v, .mv p194 q15 tI, .mv p195 q18 tI, .L p196 (.cells 2 q10) .v, .fa p197 7 q9, .ld p198 q197 .v, .mv p199 q5 tI, .cl p200 26 [q192, q193, q194, q195, q196, q198, q199] .v, .mv p191 q200 .v, .P p201 (.ext q191 0) .v, .P p202 (.ext q191 1) tW, .P p203 (.ext q191 2) (.i .u64), .ss 8 q6 q201, .mv p19 q202 tW, .mv p20 q203 (.i .u64)] (.sj v57_3 (.sO [.fa p204 1 q9, .ld p205 q204 tI, .bn p206 .geq q205 (ci 0) .b, .mv p207 q206 .b, .ge p207 (XL.of [.G p207 true p208 (.faddr 7 q6) .v, .o ⟨(some p209), (.l (.cell q208)), (some (p207, true)), []⟩ tI, .G p207 true p210 (.bin .lss q209 (ci 0)) .b, .P p211 (.pick q207 q210 (cb false)) .b]) p211 .b] (.cond q211 (.sO [.fa p212 0 q10, .ld p213 q212 .v, .fa p214 1 q9, .ld p215 q214 tI, .mv p216 q19 tW, .P p217 (.iaddr (.sl 1) q213 q215) .v, .st q217 q216] (.s (.oX [.fa p218 1 q10, .ld p219 q218 .v, .fa p220 1 q9, .ld p221 q220 tI, .mv p222 q20 (.i .u64), .P p223 (.iaddr (.sl 1) q219 q221) .v, .st q223 q222]))) (.s .skip))) c57_3))))
def v57_1 : List Pos := [p5, p6, p7, p9, p10, p12, p14, p15, p16]
def c57_1 : XC := (.seq (.seq (.oX [.L p170 (.cells 6 q7) .v, .fa p171 7 q9, .ld p172 q171 .v, .mv p173 q16 .v, .cl p174 98 [q170, q172, q173] .b, .P p175 (.un .not q174) .b]) (.cond q175 (.seq (.oX [.L p176 (.cells 8 q6) .v, .cl p177 25 [q176, (ci 2)] .v, .ss 8 q12 q177]) .ret) .skip)) (.sO [.mv p18 (ci 0) tI] (.sj v57_2 (.sO [.fa p178 1 q9, .ld p179 q178 tI, .bn p180 .geq q179 (ci 0) .b] (.cond q180 (.s (.oX [.fa p181 3 q7, .ld p182 q181 .v, .fa p183 1 q9, .ld p184 q183 tI, .P p185 (.iaddr (.sl 1) q182 q184) .v, .ld p186 q185 tI, .mv p18 q186 tI])) (.s .skip))) c57_2)))
def v57_4 : List Pos := [p5, p6, p7, p9, p10, p12, p14, p15, p16, p153, p154]
def c57_4b : XC := (.sO [.bn p155 .lss q154 q153 .b] (.seq (.cond q155 .skip (.exit 1)) (.seq (.block 2 (.seq (.oX [.mv p156 q154 tI, .mv p17 q156 tI]) (.ops true (XL.of [.mv p157 q16 .v, .fa p158 3 q14, .ld p159 q158 .v, .fa p160 2 q14, .ld p161 q160 .v, .mv p162 q17 tI, .P p163 (.iaddr (.sl 1) q161 q162) .v, .ld p164 q163 tI, .P p165 (.iaddr (.sl 1) q159 q164) .v, .ld p166 q165 tI, .al p167 (.bsl [(kI 0)] 1 [⟨0, 1, q166⟩]), .o ⟨(some p168), (.e (.app 1 8 q157 q167)), none, []⟩ .v, .mv p16 q168 .v])))) (.s (.oX [.bn p169 .add q154 (ci 1) tI, .mv p154 q169 tI])))))
def v57_0 : List Pos := [p2, p5, p6, p7, p9, p10, p12]
def c57_0 : XC := (.sO [.L p140 (.cells 8 q6) .v, .mv p141 q2 tI, .fa p142 6 q9, .ld p143 q142 .s, .cl p144 24 [q140, q141, q143] .v, .mv p139 q144 .v, .P p145 (.ext q139 0) .v, .P p146 (.ext q139 1) tI, .al p14 (.new [(.str []), (.bool false), .nils, .nils, .nils, .nils]), .ss 6 q14 q145, .mv p15 q146 tI] (.seq (.seq (.oX [.mv p147 q15 tI, .bn p148 .lss q147 (ci 0) .b]) (.cond q148 (.seq (.oX [.L p149 (.cells 8 q6) .v, .cl p150 25 [q149, (ci 2)] .v, .ss 8 q12 q150]) .ret) .skip)) (.sO [.mv p16 (.c .nils) .v] (.sj v57_1 (.sO [.fa p151 2 q14, .ld p152 q151 .v, .P p153 (.lenl q152) tI, .mv p154 (ci 0) tI] (.block 1 (.loop v57_4 c57_4b))) c57_1))))
def v57_6 : List Pos := [p6, p12]
def c57_6 : XC := (.sO [.fa p134 6 q6, .ld p135 q134 tI, .bn p136 .add q135 (ci 1) tI, .fa p137 6 q6, .st q137 q136] (.sO [.L p138 (.cells 8 q6) .v, .ss 8 q12 q138] (.s .ret)))
def v57_5 : List Pos := [p6, p9, p10, p12, p13]
def c57_5 : XC := (.sj v57_6 (.sO [.fa p125 1 q9, .ld p126 q125 tI, .bn p127 .geq q126 (ci 0) .b] (.cond q127 (.s (.oX [.fa p128 0 q10, .ld p129 q128 .v, .fa p130 1 q9, .ld p131 q130 tI, .mv p132 q13 tW, .P p133 (.iaddr (.sl 1) q129 q131) .v, .st q133 q132])) (.s .skip))) c57_6)
def c57_e : XC := (.sO [.al p6 (.box q0), .al p7 (.box q1), .al p9 (.box q3), .al p10 (.box q4), .al p12 (.new [.nils, .nils, .nils, .nils, .nils, (kI 0), (kI 0), (kI 0)])] (.sj v57_0 (.sO [.fa p21 6 q9, .ld p22 q21 .s] (.block 0 (.sO [.bn p24 .eql q22 (.c (.str [112, 117, 116, 119])) .b, .mv p23 q24 .b] (.cond q23 (.seq (.seq (.oX [.L p25 (.cells 6 q7) .v, .fa p26 7 q9, .ld p27 q26 .v, .al p28 (.bsl [(kI 0)] 1 [⟨0, 1, (ci 1)⟩]), .cl p29 98 [q25, q27, q28] .b, .P p30 (.un .not q29) .b, .mv p31 q30 .b, .ge p31 (XL.of [.G p31 false p32 (.faddr 1 q9) .v, .o ⟨(some p33), (.l (.cell q32)), (some (p31, false)), []⟩ tI, .G p31 false p34 (.bin .geq q33 (ci 0)) .b, .P p35 (.pick q31 (cb true) q34) .b]) p35 .b]) (.cond q35 (.seq (.oX [.L p36 (.cells 8 q6) .v, .cl p37 25 [q36, (ci 2)] .v, .ss 8 q12 q37]) .ret) .skip)) (.seq (.ops true (XL.of [.fa p38 4 q6, .ld p39 q38 .v, .fa p40 0 q10, .ld p41 q40 .v, .fa p42 7 q9, .ld p43 q42 .v, .P p44 (.iaddr (.sl 1) q43 (ci 0)) .v, .ld p45 q44 tI, .P p46 (.iaddr (.sl 1) q41 q45) .v, .ld p47 q46 tW, .P p48 (.build [(kI 0), (.int .u32 (.ofNat 0)), (.int .u64 (.ofNat 0))] [⟨0, 1, (ci 1)⟩, ⟨1, 1, q47⟩]) .v, .al p49 (.bsl [(kI 0), (.int .u32 (.ofNat 0)), (.int .u64 (.ofNat 0))] 1 [⟨0, 3, q48⟩]), .o ⟨(some p50), (.e (.app 3 24 q39 q49)), none, []⟩ .v, .fa p51 4 q6, .st q51 q50])) (.sO [.fa p52 6 q6, .ld p53 q52 tI, .bn p54 .add q53 (ci 1) tI, .fa p55 6 q6, .st q55 q54] (.sO [.L p56 (.cells 8 q6) .v, .ss 8 q12 q56] (.s .ret))))) (.sO [.bn p58 .eql q22 (.c (.str [112, 117, 116, 100])) .b, .mv p57 q58 .b] (.cond q57 (.seq (.seq (.oX [.L p59 (.cells 6 q7) .v, .fa p60 7 q9, .ld p61 q60 .v, .al p62 (.bsl [(kI 0)] 1 [⟨0, 1, (ci 2)⟩]), .cl p63 98 [q59, q61, q62] .b, .P p64 (.un .not q63) .b, .mv p65 q64 .b, .ge p65 (XL.of [.G p65 false p66 (.faddr 1 q9) .v, .o ⟨(some p67), (.l (.cell q66)), (some (p65, false)), []⟩ tI, .G p65 false p68 (.bin .geq q67 (ci 0)) .b, .P p69 (.pick q65 (cb true) q68) .b]) p69 .b]) (.cond q69 (.seq (.oX [.L p70 (.cells 8 q6) .v, .cl p71 25 [q70, (ci 2)] .v, .ss 8 q12 q71]) .ret) .skip)) (.seq (.ops true (XL.of [.fa p72 4 q6, .ld p73 q72 .v, .fa p74 1 q10, .ld p75 q74 .v, .fa p76 7 q9, .ld p77 q76 .v, .P p78 (.iaddr (.sl 1) q77 (ci 0)) .v, .ld p79 q78 tI, .P p80 (.iaddr (.sl 1) q75 q79) .v, .ld p81 q80 (.i .u64), .P p82 (.build [(kI 0), (.int .u32 (.ofNat 0)), (.int .u64 (.ofNat 0))] [⟨0, 1, (ci 2)⟩, ⟨2, 1, q81⟩]) .v, .al p83 (.bsl [(kI 0), (.int .u32 (.ofNat 0)), (.int .u64 (.ofNat 0))] 1 [⟨0, 3, q82⟩]), .o ⟨(some p84), (.e (.app 3 24 q73 q83)), none, []⟩ .v, .fa p85 4 q6, .st q85 q84])) (.sO [.fa p86 6 q6, .ld p87 q86 tI, .bn p88 .add q87 (ci 1) tI, .fa p89 6 q6, .st q89 q88] (.sO [.L p90 (.cells 8 q6) .v, .ss 8 q12 q90] (.s .ret))))) (.sO [.bn p92 .eql q22 (.c (.str [103, 101, 116, 119])) .b, .mv p91 q92 .b] (.cond q91 (.seq (.seq (.oX [.fa p93 7 q9, .ld p94 q93 .v, .P p95 (.lenl q94) tI, .bn p96 .gtr q95 (ci 0) .b, .mv p97 q96 .b, .ge p97 (XL.of [.G p97 false p98 (.faddr 1 q9) .v, .o ⟨(some p99), (.l (.cell q98)), (some (p97, false)), []⟩ tI, .G p97 false p100 (.bin .geq q99 (ci 0)) .b, .G p97 false p101 (.mov q100) .b, .ge p101 (XL.of [.G p101 true p102 (.faddr 3 q7) .v, .o ⟨(some p103), (.l (.cell q102)), (some (p101, true)), []⟩ .v, .G p101 true p104 (.faddr 1 q9) .v, .o ⟨(some p105), (.l (.cell q104)), (some (p101, true)), []⟩ tI, .G p101 true p106 (.iaddr (.sl 1) q103 q105) .v, .o ⟨(some p107), (.l (.cell q106)), (some (p101, true)), []⟩ tI, .G p101 true p108 (.bin .neq q107 (ci 1)) .b, .G p97 false p109 (.pick q101 q108 (cb false)) .b]) p109 .b, .P p110 (.pick q97 (cb true) q109) .b]) p110 .b]) (.cond q110 (.seq (.oX [.L p111 (.cells 8 q6) .v, .cl p112 25 [q111, (ci 2)] .v, .ss 8 q12 q112]) .ret) .skip)) (.sO [.mv p13 (.c (.int .u32 (.ofNat 0))) tW] (.sj v57_5 (.sO [.fa p113 3 q6, .ld p114 q113 .v, .P p115 (.lenl q114) tI, .bn p116 .gtr q115 (ci 0) .b] (.cond q116 (.sO [.fa p117 3 q6, .ld p118 q117 .v, .P p119 (.iaddr (.sl 1) q118 (ci 0)) .v, .ld p120 q119 tW, .mv p13 q120 tW] (.s (.oX [.fa p121 3 q6, .ld p122 q121 .v, .P p123 (.slice (.sl 1) q122 (some (ci 1)) none none) .v, .fa p124 3 q6, .st q124 q123]))) (.s .skip))) c57_5))) (.s .skip))))))))) c57_0))
def x57 : XFn := ⟨[.v, .v, tI, .v, .v, tI], false, [(.cells 8 p12)], c57_e⟩
def e57_3 (k t6 t12 h) := kN k [(p6, t6), (p12, t12)] h
def S57_3 (D : CallD) (m : Nat) (t6 t12 : AV) (h : HP) : Res2 :=
 cellsC 8 t6 h fun t224 =>
 stsC 8 t12 t224 h fun h24 =>
 cellsC 8 t12 h24 fun t12a =>
 some (.ret t12a h24, .no)
def e57_2 (k t5 t6 t9 t10 t12 t14 t15 t18 h) := kN k [(p5, (vI t5)), (p6, t6), (p9, t9), (p10, t10), (p12, t12), (p14, t14), (p15, (vI t15)), (p18, (vI t18))] h
def S57_2 (D : CallD) (m : Nat) (t5 : Int) (t6 t9 t10 t12 t14 : AV) (t15 t18 : Int) (h : HP) : Res2 :=
 faC 6 t6 fun t187 =>
 ldI t187 h fun t188 =>
 let t189 := wrQ .i64 (addQ t188 (Int.ofNat 1))
 faC 6 t6 fun t190 =>
 stoC t190 (vI t189) h fun h21 =>
 cellsC 8 t6 h21 fun t192 =>
 cellsC 6 t14 h21 fun t193 =>
 cellsC 2 t10 h21 fun t196 =>
 faC 7 t9 fun t197 =>
 cellC t197 h21 fun t198 =>
 cal D 26 [t192, t193, (vI t15), (vI t18), t196, t198, (vI t5)] h21 fun t200 h22 =>
 extC t200 0 fun t201 =>
 extC t200 1 fun vt202 => asI .u32 vt202 fun t202 =>
 extC t200 2 fun vt203 => asI .u64 vt203 fun t203 =>
 stsC 8 t6 t201 h22 fun h23 =>
 faC 1 t9 fun t204 =>
 ldI t204 h23 fun t205 =>
 let t206 := leQ (Int.ofNat 0) t205
 obB (brV t206 (
 faCV 7 t6 fun t208 =>
 ldIV t208 h23 fun t209 =>
 let t210 := ltQ t209 (Int.ofNat 0)
 some (vB t210)) (
 some (vB false))) fun t211 =>
 br t211 (
 faC 0 t10 fun t212 =>
 cellC t212 h23 fun t213 =>
 faC 1 t9 fun t214 =>
 ldI t214 h23 fun t215 =>
 iasC 1 t213 (vI t215) fun t217 =>
 stoC t217 (vW t202) h23 fun h25 =>
 faC 1 t10 fun t218 =>
 cellC t218 h25 fun t219 =>
 faC 1 t9 fun t220 =>
 ldI t220 h25 fun t221 =>
 iasC 1 t219 (vI t221) fun t223 =>
 stoC t223 (AV.int .u64 t203) h25 fun h26 =>
 S57_3 D m t6 t12 h26) (
 S57_3 D m t6 t12 h23)
def e57_1 (k t5 t6 t7 t9 t10 t12 t14 t15 t16 h) := kN k [(p5, (vI t5)), (p6, t6), (p7, t7), (p9, t9), (p10, t10), (p12, t12), (p14, t14), (p15, (vI t15)), (p16, t16)] h
def S57_1 (D : CallD) (m : Nat) (t5 : Int) (t6 t7 t9 t10 t12 t14 : AV) (t15 : Int) (t16 : AV) (h : HP) : Res2 :=
 cellsC 6 t7 h fun t170 =>
 faC 7 t9 fun t171 =>
 cellC t171 h fun t172 =>
 cal D 98 [t170, t172, t16] h fun t174 h18 =>
 asB t174 fun t174a =>
 let t175 := !t174a
 br t175 (
 cellsC 8 t6 h18 fun t176 =>
 cal D 25 [t176, (vI (Int.ofNat 2))] h18 fun t177 h19 =>
 stsC 8 t12 t177 h19 fun h20 =>
 cellsC 8 t12 h20 fun t12a =>
 some (.ret t12a h20, .no)) (
 faC 1 t9 fun t178 =>
 ldI t178 h18 fun t179 =>
 let t180 := leQ (Int.ofNat 0) t179
 br t180 (
 faC 3 t7 fun t181 =>
 cellC t181 h18 fun t182 =>
 faC 1 t9 fun t183 =>
 ldI t183 h18 fun t184 =>
 iasC 1 t182 (vI t184) fun t185 =>
 ldI t185 h18 fun t186 =>
 S57_2 D m t5 t6 t9 t10 t12 t14 t15 t186 h18) (
 S57_2 D m t5 t6 t9 t10 t12 t14 t15 (Int.ofNat 0) h18))
def e57_4 (k t5 t6 t7 t9 t10 t12 t14 t15 t16 t153 t154 h) := kN k [(p5, (vI t5)), (p6, t6), (p7, t7), (p9, t9), (p10, t10), (p12, t12), (p14, t14), (p15, (vI t15)), (p16, t16), (p153, (vI t153)), (p154, (vI t154))] h
def S57_4b (D : CallD) (m : Nat) (g4 : Int → AV → AV → AV → AV → AV → AV → Int → AV → Int → Int → HP → Res2) (t5 : Int) (t6 t7 t9 t10 t12 t14 : AV) (t15 : Int) (t16 : AV) (t153 t154 : Int) (h : HP) : Res2 :=
 let t155 := ltQ t154 t153
 br t155 (
 faC 3 t14 fun t158 =>
 cellC t158 h fun t159 =>
 faC 2 t14 fun t160 =>
 cellC t160 h fun t161 =>
 iasC 1 t161 (vI t154) fun t163 =>
 ldI t163 h fun t164 =>
 iasC 1 t159 (vI t164) fun t165 =>
 ldI t165 h fun t166 =>
 let t167 := AV.slice (HP.nxQ h) 0 1 (.exact 1)
 let h27 := HP.newQ h (.cells true [(vI t166)])
 eff (.app 1 8 (.c t16) (.c t167)) h27 fun t168 h28 =>
 let t169 := wrQ .i64 (addQ t154 (Int.ofNat 1))
 g4 t5 t6 t7 t9 t10 t12 t14 t15 t168 t153 t169 h28) (
 S57_1 D m t5 t6 t7 t9 t10 t12 t14 t15 t16 h)
def S57_4 (D : CallD) (m : Nat) : Int → AV → AV → AV → AV → AV → AV → Int → AV → Int → Int → HP → Res2 := nrec (fun _ _ _ _ _ _ _ _ _ _ _ _ => none) (fun _ g => S57_4b D m g) m
def e57_0 (k t2 t5 t6 t7 t9 t10 t12 h) := kN k [(p2, (vI t2)), (p5, (vI t5)), (p6, t6), (p7, t7), (p9, t9), (p10, t10), (p12, t12)] h
def S57_0 (D : CallD) (m : Nat) (t2 t5 : Int) (t6 t7 t9 t10 t12 : AV) (h : HP) : Res2 :=
 cellsC 8 t6 h fun t140 =>
 faC 6 t9 fun t142 =>
 ldS t142 h fun t143 =>
 cal D 24 [t140, (vI t2), (vS t143)] h fun t144 h13 =>
 extC t144 0 fun t145 =>
 extC t144 1 fun vt146 => asI .i64 vt146 fun t146 =>
 let t14 := AV.ptr (HP.nxQ h13) 0
 let h14 := HP.newQ h13 (.cells true [(.str []), (.bool false), .nils, .nils, .nils, .nils])
 stsC 6 t14 t145 h14 fun h15 =>
 let t148 := ltQ t146 (Int.ofNat 0)
 br t148 (
 cellsC 8 t6 h15 fun t149 =>
 cal D 25 [t149, (vI (Int.ofNat 2))] h15 fun t150 h16 =>
 stsC 8 t12 t150 h16 fun h17 =>
 cellsC 8 t12 h17 fun t12a =>
 some (.ret t12a h17, .no)) (
 let t151 := (AV.ptr (HP.nxQ h13) (Nat.add 0 2))
 cellC t151 h15 fun t152 =>
 lenC t152 fun vt153 => asI .i64 vt153 fun t153 =>
 S57_4 D m t5 t6 t7 t9 t10 t12 t14 t146 (.nils : AV) t153 (Int.ofNat 0) h15)
def e57_6 (k t6 t12 h) := kN k [(p6, t6), (p12, t12)] h
def S57_6 (D : CallD) (m : Nat) (t6 t12 : AV) (h : HP) : Res2 :=
 faC 6 t6 fun t134 =>
 ldI t134 h fun t135 =>
 let t136 := wrQ .i64 (addQ t135 (Int.ofNat 1))
 faC 6 t6 fun t137 =>
 stoC t137 (vI t136) h fun h49 =>
 cellsC 8 t6 h49 fun t138 =>
 stsC 8 t12 t138 h49 fun h50 =>
 cellsC 8 t12 h50 fun t12a =>
 some (.ret t12a h50, .no)
def e57_5 (k t6 t9 t10 t12 t13 h) := kN k [(p6, t6), (p9, t9), (p10, t10), (p12, t12), (p13, (vW t13))] h
def S57_5 (D : CallD) (m : Nat) (t6 t9 t10 t12 : AV) (t13 : Int) (h : HP) : Res2 :=
 faC 1 t9 fun t125 =>
 ldI t125 h fun t126 =>
 let t127 := leQ (Int.ofNat 0) t126
 br t127 (
 faC 0 t10 fun t128 =>
 cellC t128 h fun t129 =>
 faC 1 t9 fun t130 =>
 ldI t130 h fun t131 =>
 iasC 1 t129 (vI t131) fun t133 =>
 stoC t133 (vW t13) h fun h51 =>
 S57_6 D m t6 t12 h51) (
 S57_6 D m t6 t12 h)
def e57_7 (k t0 t1 t2 t3 t4 t5 h) := kN k [(p0, t0), (p1, t1), (p2, (vI t2)), (p3, t3), (p4, t4), (p5, (vI t5))] h
def S57_7 (D : CallD) (m : Nat) (t0 t1 : AV) (t2 : Int) (t3 t4 : AV) (t5 : Int) (h : HP) : Res2 :=
 let t6 := AV.ptr (HP.nxQ h) 0
 let h8 := HP.newQ h (.cells true (AV.cells t0))
 let t7 := AV.ptr (HP.nxQ h8) 0
 let h9 := HP.newQ h8 (.cells true (AV.cells t1))
 let t9 := AV.ptr (HP.nxQ h9) 0
 let h10 := HP.newQ h9 (.cells true (AV.cells t3))
 let t10 := AV.ptr (HP.nxQ h10) 0
 let h11 := HP.newQ h10 (.cells true (AV.cells t4))
 let t12 := AV.ptr (HP.nxQ h11) 0
 let h12 := HP.newQ h11 (.cells true [.nils, .nils, .nils, .nils, .nils, (kI 0), (kI 0), (kI 0)])
 let t21 := (AV.ptr (HP.nxQ h9) (Nat.add 0 6))
 ldS t21 h12 fun t22 =>
 let t24 := eqL t22 ([112, 117, 116, 119] : LN)
 br t24 (
 cellsC 6 t7 h12 fun t25 =>
 let t26 := (AV.ptr (HP.nxQ h9) (Nat.add 0 7))
 cellC t26 h12 fun t27 =>
 let t28 := AV.slice (HP.nxQ h12) 0 1 (.exact 1)
 let h29 := HP.newQ h12 (.cells true [(vI (Int.ofNat 1))])
 cal D 98 [t25, t27, t28] h29 fun t29 h30 =>
 asB t29 fun t29a =>
 let t30 := !t29a
 obB (brV t30 (
 some (vB true)) (
 let t32 := (AV.ptr (HP.nxQ h9) (Nat.add 0 1))
 ldIV t32 h30 fun t33 =>
 let t34 := leQ (Int.ofNat 0) t33
 some (vB t34))) fun t35 =>
 br t35 (
 cellsC 8 t6 h30 fun t36 =>
 cal D 25 [t36, (vI (Int.ofNat 2))] h30 fun t37 h31 =>
 stsC 8 t12 t37 h31 fun h32 =>
 cellsC 8 t12 h32 fun t12a =>
 some (.ret t12a h32, .no)) (
 let t38 := (AV.ptr (HP.nxQ h) (Nat.add 0 4))
 cellC t38 h30 fun t39 =>
 let t40 := (AV.ptr (HP.nxQ h10) (Nat.add 0 0))
 cellC t40 h30 fun t41 =>
 let t42 := (AV.ptr (HP.nxQ h9) (Nat.add 0 7))
 cellC t42 h30 fun t43 =>
 iasC 1 t43 (vI (Int.ofNat 0)) fun t44 =>
 ldI t44 h30 fun t45 =>
 iasC 1 t41 (vI t45) fun t46 =>
 ldW t46 h30 fun t47 =>
 let t48 := (AV.agg [(vI (Int.ofNat 1)), (vW t47), (AV.int .u64 (Int.ofNat 0))])
 let t49 := AV.slice (HP.nxQ h30) 0 1 (.exact 1)
 let h33 := HP.newQ h30 (.cells true [(vI (Int.ofNat 1)), (vW t47), (AV.int .u64 (Int.ofNat 0))])
 eff (.app 3 24 (.c t39) (.c t49)) h33 fun t50 h34 =>
 let t51 := (AV.ptr (HP.nxQ h) (Nat.add 0 4))
 stoC t51 t50 h34 fun h35 =>
 let t52 := (AV.ptr (HP.nxQ h) (Nat.add 0 6))
 ldI t52 h35 fun t53 =>
 let t54 := wrQ .i64 (addQ t53 (Int.ofNat 1))
 let t55 := (AV.ptr (HP.nxQ h) (Nat.add 0 6))
 stoC t55 (vI t54) h35 fun h36 =>
 cellsC 8 t6 h36 fun t56 =>
 stsC 8 t12 t56 h36 fun h37 =>
 cellsC 8 t12 h37 fun t12a =>
 some (.ret t12a h37, .no))) (
 let t58 := eqL t22 ([112, 117, 116, 100] : LN)
 br t58 (
 cellsC 6 t7 h12 fun t59 =>
 let t60 := (AV.ptr (HP.nxQ h9) (Nat.add 0 7))
 cellC t60 h12 fun t61 =>
 let t62 := AV.slice (HP.nxQ h12) 0 1 (.exact 1)
 let h38 := HP.newQ h12 (.cells true [(vI (Int.ofNat 2))])
 cal D 98 [t59, t61, t62] h38 fun t63 h39 =>
 asB t63 fun t63a =>
 let t64 := !t63a
 obB (brV t64 (
 some (vB true)) (
 let t66 := (AV.ptr (HP.nxQ h9) (Nat.add 0 1))
 ldIV t66 h39 fun t67 =>
 let t68 := leQ (Int.ofNat 0) t67
 some (vB t68))) fun t69 =>
 br t69 (
 cellsC 8 t6 h39 fun t70 =>
 cal D 25 [t70, (vI (Int.ofNat 2))] h39 fun t71 h40 =>
 stsC 8 t12 t71 h40 fun h41 =>
 cellsC 8 t12 h41 fun t12a =>
 some (.ret t12a h41, .no)) (
 let t72 := (AV.ptr (HP.nxQ h) (Nat.add 0 4))
 cellC t72 h39 fun t73 =>
 let t74 := (AV.ptr (HP.nxQ h10) (Nat.add 0 1))
 cellC t74 h39 fun t75 =>
 let t76 := (AV.ptr (HP.nxQ h9) (Nat.add 0 7))
 cellC t76 h39 fun t77 =>
 iasC 1 t77 (vI (Int.ofNat 0)) fun t78 =>
 ldI t78 h39 fun t79 =>
 iasC 1 t75 (vI t79) fun t80 =>
 cellC t80 h39 fun vt81 => asI .u64 vt81 fun t81 =>
 let t82 := (AV.agg [(vI (Int.ofNat 2)), (vW (Int.ofNat 0)), (AV.int .u64 t81)])
 let t83 := AV.slice (HP.nxQ h39) 0 1 (.exact 1)
 let h42 := HP.newQ h39 (.cells true [(vI (Int.ofNat 2)), (vW (Int.ofNat 0)), (AV.int .u64 t81)])
 eff (.app 3 24 (.c t73) (.c t83)) h42 fun t84 h43 =>
 let t85 := (AV.ptr (HP.nxQ h) (Nat.add 0 4))
 stoC t85 t84 h43 fun h44 =>
 let t86 := (AV.ptr (HP.nxQ h) (Nat.add 0 6))
 ldI t86 h44 fun t87 =>
 let t88 := wrQ .i64 (addQ t87 (Int.ofNat 1))
 let t89 := (AV.ptr (HP.nxQ h) (Nat.add 0 6))
 stoC t89 (vI t88) h44 fun h45 =>
 cellsC 8 t6 h45 fun t90 =>
 stsC 8 t12 t90 h45 fun h46 =>
 cellsC 8 t12 h46 fun t12a =>
 some (.ret t12a h46, .no))) (
 let t92 := eqL t22 ([103, 101, 116, 119] : LN)
 br t92 (
 let t93 := (AV.ptr (HP.nxQ h9) (Nat.add 0 7))
 cellC t93 h12 fun t94 =>
 lenC t94 fun vt95 => asI .i64 vt95 fun t95 =>
 let t96 := ltQ (Int.ofNat 0) t95
 obB (brV t96 (
 some (vB true)) (
 let t98 := (AV.ptr (HP.nxQ h9) (Nat.add 0 1))
 ldIV t98 h12 fun t99 =>
 let t100 := leQ (Int.ofNat 0) t99
 obBV (brV t100 (
 let t102 := (AV.ptr (HP.nxQ h8) (Nat.add 0 3))
 cellCV t102 h12 fun t103 =>
 let t104 := (AV.ptr (HP.nxQ h9) (Nat.add 0 1))
 ldIV t104 h12 fun t105 =>
 iasCV 1 t103 (vI t105) fun t106 =>
 ldIV t106 h12 fun t107 =>
 let t108 := notQ (eqQ t107 (Int.ofNat 1))
 some (vB t108)) (
 some (vB false))) fun t109 =>
 some (vB t109))) fun t110 =>
 br t110 (
 cellsC 8 t6 h12 fun t111 =>
 cal D 25 [t111, (vI (Int.ofNat 2))] h12 fun t112 h47 =>
 stsC 8 t12 t112 h47 fun h48 =>
 cellsC 8 t12 h48 fun t12a =>
 some (.ret t12a h48, .no)) (
 let t113 := (AV.ptr (HP.nxQ h) (Nat.add 0 3))
 cellC t113 h12 fun t114 =>
 lenC t114 fun vt115 => asI .i64 vt115 fun t115 =>
 let t116 := ltQ (Int.ofNat 0) t115
 br t116 (
 let t117 := (AV.ptr (HP.nxQ h) (Nat.add 0 3))
 cellC t117 h12 fun t118 =>
 iasC 1 t118 (vI (Int.ofNat 0)) fun t119 =>
 ldW t119 h12 fun t120 =>
 let t121 := (AV.ptr (HP.nxQ h) (Nat.add 0 3))
 cellC t121 h12 fun t122 =>
 obQ (evP (.slice (.sl 1) (.c t122) (some (.c (vI (Int.ofNat 1)))) none none) .leaf) fun t123 =>
 let t124 := (AV.ptr (HP.nxQ h) (Nat.add 0 3))
 stoC t124 t123 h12 fun h52 =>
 S57_5 D m t6 t9 t10 t12 t120 h52) (
 S57_5 D m t6 t9 t10 t12 (Int.ofNat 0) h12))) (
 S57_0 D m t2 t5 t6 t7 t9 t10 t12 h12)))
def S57 : SFn := fun D m args h u => nou u <| popV args fun t0 args => popV args fun t1 args => popI .i64 args fun t2 args => popV args fun t3 args => popV args fun t4 args => popI .i64 args fun t5 args => endA args (S57_7 D m t0 t1 t2 t3 t4 t5 h)
theorem T57_3 (hE : FX x57 D m E) : S57_3 D m = e57_3 (E c57_3 []) := by unfold S57_3; rw [hE c57_3]; kernel_rfl
theorem T57_2 (hE : FX x57 D m E) : S57_2 D m = e57_2 (E c57_2 []) := by unfold S57_2; rw [T57_3 hE, hE c57_2]; kernel_rfl
theorem T57_1 (hE : FX x57 D m E) : S57_1 D m = e57_1 (E c57_1 []) := by unfold S57_1; rw [T57_2 hE, hE c57_1]; kernel_rfl
theorem T57_4b (hE : FX x57 D m E) (G4) : S57_4b D m (e57_4 G4) = e57_4 (E c57_4b [.lp v57_4 G4, .blk 1, .sj v57_1 c57_1]) := by unfold S57_4b; rw [T57_1 hE, hE c57_4b]; kernel_rfl
theorem T57_4 (hE : FX x57 D m E) : S57_4 D m = e57_4 (nrec (fun _ => none) (fun _ G4 st => E c57_4b [.lp v57_4 G4, .blk 1, .sj v57_1 c57_1] st) m) :=
  nrec_emb e57_4 (fun _ _ _ _ _ _ _ _ _ _ _ _ => none) (fun g => S57_4b D m g) (fun G4 st => E c57_4b [.lp v57_4 G4, .blk 1, .sj v57_1 c57_1] st) rfl (fun g => T57_4b hE g) m
theorem T57_0 (hE : FX x57 D m E) : S57_0 D m = e57_0 (E c57_0 []) := by unfold S57_0; rw [T57_4 hE, hE c57_0]; kernel_rfl
theorem T57_6 (hE : FX x57 D m E) : S57_6 D m = e57_6 (E c57_6 [.blk 0, .sj v57_0 c57_0]) := by unfold S57_6; rw [hE c57_6]; kernel_rfl
theorem T57_5 (hE : FX x57 D m E) : S57_5 D m = e57_5 (E c57_5 [.blk 0, .sj v57_0 c57_0]) := by unfold S57_5; rw [T57_6 hE, hE c57_5]; kernel_rfl
theorem T57_7 (hE : FX x57 D m E) : S57_7 D m = e57_7 (E c57_e []) := by unfold S57_7; rw [T57_5 hE, T57_0 hE, hE c57_e]; kernel_rfl
theorem X57 : XTie S57 x57 := X_of fun D m E hE args h u => by unfold S57; rw [T57_7 hE]; kernel_rfl
end
end Go.Proofs.YtcoldhmbmcdemaaGreat.Sx
