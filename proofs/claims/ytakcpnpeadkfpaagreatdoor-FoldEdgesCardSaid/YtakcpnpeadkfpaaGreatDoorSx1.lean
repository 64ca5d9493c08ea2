/- Functions, printed by a program of ours: their code, what they do, and that it is so. -/
import Derived.Test.YtakcpnpeadkfpaaGreatDoorSp
set_option maxRecDepth 8000
set_option linter.unusedVariables false
namespace Go.Proofs.YtakcpnpeadkfpaaGreatDoor.Sx
open Go Go.Proofs.YtakcpnpeadkfpaaGreatDoor.Ev
set_option linter.unusedSectionVars false
noncomputable section
variable [Rho]
variable {D : CallD} {m : Nat} {E : XE}
/- 75 -/
def v75_0 : List Pos := []
def c75_0 : XC := (.sO [.mv p4 (cb false) .b] (.s .ret))
def v75_1 : List Pos := [p5, p10, p11, p12]
def c75_1b : XC := (.sO [.bn p13 .lss q12 q11 .b] (.seq (.cond q13 .skip (.exit 0)) (.seq (.block 1 (.seq (.oX [.P p14 (.iaddr (.sl 1) q10 q12) .v, .ld p15 q14 .s, .mv p7 q15 .s]) (.seq (.oX [.fa p16 0 q5, .ld p17 q16 tI, .bn p18 .eql q17 (ci 4) .b, .mv p19 q18 .b, .ge p19 (XL.of [.G p19 false p20 (.faddr 0 q5) .v, .o ⟨(some p21), (.l (.cell q20)), (some (p19, false)), []⟩ tI, .G p19 false p22 (.bin .eql q21 (ci 5)) .b, .P p23 (.pick q19 (cb true) q22) .b]) p23 .b, .mv p24 q23 .b, .ge p24 (XL.of [.G p24 true p25 (.faddr 1 q5) .v, .o ⟨(some p26), (.l (.cell q25)), (some (p24, true)), []⟩ .s, .G p24 true p27 (.mov q7) .s, .G p24 true p28 (.bin .eql q26 q27) .b, .P p29 (.pick q24 q28 (cb false)) .b]) p29 .b]) (.cond q29 (.seq (.oX [.mv p4 (cb true) .b]) .ret) .skip)))) (.s (.oX [.bn p30 .add q12 (ci 1) tI, .mv p12 q30 tI])))))
def c75_e : XC := (.sO [.mv p4 (cb false) .b] (.sO [.mv p8 q0 .v, .cl p9 50 [q8] .v, .al p5 (.new [(kI 0), (.str []), (kI 0)]), .ss 3 q5 q9] (.sj v75_0 (.sO [.mv p10 q1 .v, .P p11 (.lenl q10) tI, .mv p12 (ci 0) tI] (.block 0 (.loop v75_1 c75_1b))) c75_0)))
def x75 : XFn := ⟨[.v, .v], false, [(.tmp p4)], c75_e⟩
def e75_0 (k h) := kN k [] h
def S75_0 (D : CallD) (m : Nat) (h : HP) : Res2 :=
 some (.ret (vB false) h, .no)
def e75_1 (k t5 t10 t11 t12 h) := kN k [(p5, t5), (p10, t10), (p11, (vI t11)), (p12, (vI t12))] h
def S75_1b (D : CallD) (m : Nat) (g1 : AV → AV → Int → Int → HP → Res2) (t5 t10 : AV) (t11 t12 : Int) (h : HP) : Res2 :=
 let t13 := ltQ t12 t11
 br t13 (
 iasC 1 t10 (vI t12) fun t14 =>
 ldS t14 h fun t15 =>
 faC 0 t5 fun t16 =>
 ldI t16 h fun t17 =>
 let t18 := eqQ t17 (Int.ofNat 4)
 obB (brV t18 (
 some (vB true)) (
 faCV 0 t5 fun t20 =>
 ldIV t20 h fun t21 =>
 let t22 := eqQ t21 (Int.ofNat 5)
 some (vB t22))) fun t23 =>
 obB (brV t23 (
 faCV 1 t5 fun t25 =>
 ldSV t25 h fun t26 =>
 let t28 := eqL t26 t15
 some (vB t28)) (
 some (vB false))) fun t29 =>
 br t29 (
 some (.ret (vB true) h, .no)) (
 let t30 := wrQ .i64 (addQ t12 (Int.ofNat 1))
 g1 t5 t10 t11 t30 h)) (
 S75_0 D m h)
def S75_1 (D : CallD) (m : Nat) : AV → AV → Int → Int → HP → Res2 := nrec (fun _ _ _ _ _ => none) (fun _ g => S75_1b D m g) m
def e75_2 (k t0 t1 h) := kN k [(p0, t0), (p1, t1)] h
def S75_2 (D : CallD) (m : Nat) (t0 t1 : AV) (h : HP) : Res2 :=
 cal D 50 [t0] h fun t9 h3 =>
 let t5 := AV.ptr (HP.nxQ h3) 0
 let h4 := HP.newQ h3 (.cells true [(kI 0), (.str []), (kI 0)])
 stsC 3 t5 t9 h4 fun h5 =>
 lenC t1 fun vt11 => asI .i64 vt11 fun t11 =>
 S75_1 D m t5 t1 t11 (Int.ofNat 0) h5
def S75 : SFn := fun D m args h u => nou u <| popV args fun t0 args => popV args fun t1 args => endA args (S75_2 D m t0 t1 h)
theorem T75_0 (hE : FX x75 D m E) : S75_0 D m = e75_0 (E c75_0 []) := by unfold S75_0; rw [hE c75_0]; kernel_rfl
theorem T75_1b (hE : FX x75 D m E) (G1) : S75_1b D m (e75_1 G1) = e75_1 (E c75_1b [.lp v75_1 G1, .blk 0, .sj v75_0 c75_0]) := by unfold S75_1b; rw [T75_0 hE, hE c75_1b]; kernel_rfl
theorem T75_1 (hE : FX x75 D m E) : S75_1 D m = e75_1 (nrec (fun _ => none) (fun _ G1 st => E c75_1b [.lp v75_1 G1, .blk 0, .sj v75_0 c75_0] st) m) :=
  nrec_emb e75_1 (fun _ _ _ _ _ => none) (fun g => S75_1b D m g) (fun G1 st => E c75_1b [.lp v75_1 G1, .blk 0, .sj v75_0 c75_0] st) rfl (fun g => T75_1b hE g) m
theorem T75_2 (hE : FX x75 D m E) : S75_2 D m = e75_2 (E c75_e []) := by unfold S75_2; rw [T75_1 hE, hE c75_e]; kernel_rfl
theorem X75 : XTie S75 x75 := X_of fun D m E hE args h u => by unfold S75; rw [T75_2 hE]; kernel_rfl
/- 77 -/
def c77_e : XC := (.sO [.mv p4 q0 .v, .mv p5 q1 .s, .cl p6 71 [q4, q5] .b, .P p7 (.un .not q6) .b] (.cond q7 (.s (.oX [.mv p8 q0 .v, .cl p9 112 [q8, (ci 11)] .v])) (.s .skip)))
def x77 : XFn := ⟨[.v, .s], false, [], c77_e⟩
def e77_0 (k t0 t1 h) := kN k [(p0, t0), (p1, (vS t1))] h
def S77_0 (D : CallD) (m : Nat) (t0 : AV) (t1 : LN) (h : HP) : Res2 :=
 cal D 71 [t0, (vS t1)] h fun t6 h1 =>
 asB t6 fun t6a =>
 let t7 := !t6a
 br t7 (
 cal D 112 [t0, (vI (Int.ofNat 11))] h1 fun t9 h2 =>
 some (.ret (.tup []) h2, .no)) (
 some (.ret (.tup []) h1, .no))
def S77 : SFn := fun D m args h u => nou u <| popV args fun t0 args => popS args fun t1 args => endA args (S77_0 D m t0 t1 h)
theorem T77_0 (hE : FX x77 D m E) : S77_0 D m = e77_0 (E c77_e []) := by unfold S77_0; rw [hE c77_e]; kernel_rfl
theorem X77 : XTie S77 x77 := X_of fun D m E hE args h u => by unfold S77; rw [T77_0 hE]; kernel_rfl
/- 78 -/
def v78_0 : List Pos := [p0, p4]
def c78_0 : XC := (.sO [.mv p27 q0 .v, .cl p28 77 [q27, (.c (.str [93]))] .v] (.sO [.mv p29 q4 tI, .mv p2 q29 tI] (.s .ret)))
def c78_e : XC := (.sO [.mv p2 (ci 0) tI] (.seq (.seq (.oX [.mv p6 q0 .v, .cl p7 71 [q6, (.c (.str [91]))] .b, .P p8 (.un .not q7) .b]) (.cond q8 (.seq (.oX [.mv p2 (ci 0) tI]) .ret) .skip)) (.sO [.mv p9 q0 .v, .cl p10 50 [q9] .v, .P p11 (.field 2 1 false q10) tI, .mv p3 q11 tI] (.sO [.mv p13 q0 .v, .cl p14 73 [q13, (ci 2)] .s, .cl p15 114 [q14] .v, .mv p12 q15 .v, .P p16 (.ext q12 0) tI, .P p17 (.ext q12 1) .v, .mv p4 q16 tI, .mv p5 q17 .v] (.sj v78_0 (.sO [.mv p18 q4 tI, .bn p19 .lss q18 (ci 1) .b, .mv p20 q19 .b, .ge p20 (XL.of [.G p20 false p21 (.mov q4) tI, .G p20 false p22 (.bin .gtr q21 (ci 1000)) .b, .P p23 (.pick q20 (cb true) q22) .b]) p23 .b] (.cond q23 (.s (.oX [.mv p24 q3 tI, .P p25 (.build [(kI 0), (kI 0)] [⟨0, 1, q24⟩, ⟨1, 1, (ci 1)⟩]) .v, .P p26 (.mkif 103 q25) .v, .o ⟨none, (.panic q26), none, []⟩ .v])) (.s .skip))) c78_0)))))
def x78 : XFn := ⟨[.v], false, [(.tmp p2)], c78_e⟩
def e78_0 (k t0 t4 h) := kN k [(p0, t0), (p4, (vI t4))] h
def S78_0 (D : CallD) (m : Nat) (t0 : AV) (t4 : Int) (h : HP) : Res2 :=
 cal D 77 [t0, (vS ([93] : LN))] h fun t28 h6 =>
 some (.ret (vI t4) h6, .no)
def e78_1 (k t0 h) := kN k [(p0, t0)] h
def S78_1 (D : CallD) (m : Nat) (t0 : AV) (h : HP) : Res2 :=
 cal D 71 [t0, (vS ([91] : LN))] h fun t7 h2 =>
 asB t7 fun t7a =>
 let t8 := !t7a
 br t8 (
 some (.ret (vI (Int.ofNat 0)) h2, .no)) (
 cal D 50 [t0] h2 fun t10 h3 =>
 fldC 2 1 false t10 fun vt11 => asI .i64 vt11 fun t11 =>
 cal D 73 [t0, (vI (Int.ofNat 2))] h3 fun t14 h4 =>
 asS t14 fun t14a =>
 cal D 114 [(vS t14a)] h4 fun t15 h5 =>
 extC t15 0 fun vt16 => asI .i64 vt16 fun t16 =>
 extC t15 1 fun t17 =>
 let t19 := ltQ t16 (Int.ofNat 1)
 obB (brV t19 (
 some (vB true)) (
 let t22 := ltQ (Int.ofNat 1000) t16
 some (vB t22))) fun t23 =>
 br t23 (
 let t25 := (AV.agg [(vI t11), (vI (Int.ofNat 1))])
 let t26 := (AV.iface 103 t25)
 some (.pan [(.iface 103 t25, false)] h5, .no)) (
 S78_0 D m t0 t16 h5))
def S78 : SFn := fun D m args h u => nou u <| popV args fun t0 args => endA args (S78_1 D m t0 h)
theorem T78_0 (hE : FX x78 D m E) : S78_0 D m = e78_0 (E c78_0 []) := by unfold S78_0; rw [hE c78_0]; kernel_rfl
theorem T78_1 (hE : FX x78 D m E) : S78_1 D m = e78_1 (E c78_e []) := by unfold S78_1; rw [T78_0 hE, hE c78_e]; kernel_rfl
theorem X78 : XTie S78 x78 := X_of fun D m E hE args h u => by unfold S78; rw [T78_1 hE]; kernel_rfl
/- 79 -/
def c79_e : XC := (.sO [.al p1 (.box q0), .al p2 (.new [(kI 0), (.str []), (.str []), (.int .u32 (.ofNat 0)), (.int .u64 (.ofNat 0)), .nils, (kI 0), (kI 0)])] (.sO [.ld p4 q1 .v, .cl p5 115 [q4] .v] (.sO [.P p6 (.mkfn 116 [] [q1]) .v, .o ⟨none, (.defer (.val q6) []), none, []⟩ .v] (.sO [.ld p7 q1 .v, .cl p8 117 [q7, (ci 0)] .v, .al p3 (.new [(kI 0), (.str []), (.str []), (.int .u32 (.ofNat 0)), (.int .u64 (.ofNat 0)), .nils, (kI 0), (kI 0)]), .ss 8 q3 q8] (.seq (.seq (.oX [.ld p9 q1 .v, .cl p10 71 [q9, (.c (.str [61]))] .b]) (.cond q10 (.seq (.ops true (XL.of [.L p11 (.cells 8 q3) .v, .ld p12 q1 .v, .fa p15 7 q3, .ld p16 q15 tI, .o ⟨(some p13), (.call (.fn 79) [q12]), none, [⟨none, .cells 8 q3, p11⟩, ⟨none, .cell q15, p16⟩]⟩ .v, .al p14 (.bsl [(kI 0), (.str []), (.str []), (.int .u32 (.ofNat 0)), (.int .u64 (.ofNat 0)), .nils, (kI 0), (kI 0), (kI 0), (.str []), (.str []), (.int .u32 (.ofNat 0)), (.int .u64 (.ofNat 0)), .nils, (kI 0), (kI 0)] 2 [⟨0, 8, q11⟩, ⟨8, 8, q13⟩]), .P p17 (.build [(kI 0), (.str []), (.str []), (.int .u32 (.ofNat 0)), (.int .u64 (.ofNat 0)), .nils, (kI 0), (kI 0)] [⟨0, 1, (ci 6)⟩, ⟨5, 1, q14⟩, ⟨7, 1, q16⟩]) .v, .ss 8 q2 q17])) .ret) .skip)) (.sO [.L p18 (.cells 8 q3) .v, .ss 8 q2 q18] (.s .ret)))))))
def x79 : XFn := ⟨[.v], false, [(.cells 8 p2)], c79_e⟩
def e79_0 (k t0 h) := kN k [(p0, t0)] h
def S79_0 (D : CallD) (m : Nat) (t0 : AV) (h : HP) : Res2 :=
 let t1 := AV.ptr (HP.nxQ h) 0
 let h1 := HP.newQ h (.cells true (AV.cells t0))
 let t2 := AV.ptr (HP.nxQ h1) 0
 let h2 := HP.newQ h1 (.cells true [(kI 0), (.str []), (.str []), (.int .u32 (.ofNat 0)), (.int .u64 (.ofNat 0)), .nils, (kI 0), (kI 0)])
 cellC t1 h2 fun t4 =>
 calC D 115 [t4] h2 (fun t5 h3 =>
 let t6 := (AV.fn 116 [] [t1])
 let d4 : List ADef := ⟨116, [t1]⟩ :: []
 cellC t1 h3 fun t7 =>
 calC D 117 [t7, (vI (Int.ofNat 0))] h3 (fun t8 h5 =>
 let t3 := AV.ptr (HP.nxQ h5) 0
 let h6 := HP.newQ h5 (.cells true [(kI 0), (.str []), (.str []), (.int .u32 (.ofNat 0)), (.int .u64 (.ofNat 0)), .nils, (kI 0), (kI 0)])
 stsC 8 t3 t8 h6 fun h7 =>
 cellC t1 h7 fun t9 =>
 calC D 71 [t9, (vS ([61] : LN))] h7 (fun t10 h8 =>
 asB t10 fun t10a =>
 br t10a (
 cellsC 8 t3 h8 fun t11 =>
 cellC t1 h8 fun t12 =>
 let t15 := (AV.ptr (HP.nxQ h5) (Nat.add 0 7))
 ldI t15 h8 fun t16 =>
 calC D 79 [t12] h8 (fun t13 h9 =>
 br (again [⟨none, .cells 8 q3, p11⟩, ⟨none, .cell q15, p16⟩] (mkT [(p16, (vI t16)), (p15, t15), (p11, t11), (p3, t3)]) h9) (
 obQ (evA (.bsl [(kI 0), (.str []), (.str []), (.int .u32 (.ofNat 0)), (.int .u64 (.ofNat 0)), .nils, (kI 0), (kI 0), (kI 0), (.str []), (.str []), (.int .u32 (.ofNat 0)), (.int .u64 (.ofNat 0)), .nils, (kI 0), (kI 0)] 2 [⟨0, 8, (.c t11)⟩, ⟨8, 8, (.c t13)⟩]) .leaf) fun r10 =>
 let t14 := vkV r10.2 (HP.nxQ h9)
 let h11 := HP.newQ h9 r10.1
 obQ (evP (.build [(kI 0), (.str []), (.str []), (.int .u32 (.ofNat 0)), (.int .u64 (.ofNat 0)), .nils, (kI 0), (kI 0)] [⟨0, 1, (.c (vI (Int.ofNat 6)))⟩, ⟨5, 1, (.c t14)⟩, ⟨7, 1, (.c (vI t16))⟩]) .leaf) fun t17 =>
 stsC 8 t2 t17 h11 fun h12 =>
 XFn.endOf x79 D (.ret ⟨(mkT [(p2, t2)]), h12, d4, .no⟩)) none) (fun ch9 gh9 => XFn.endOf x79 D (.panic ch9 ⟨(mkT [(p2, t2)]), gh9, d4, .no⟩))) (
 cellsC 8 t3 h8 fun t18 =>
 stsC 8 t2 t18 h8 fun h13 =>
 XFn.endOf x79 D (.ret ⟨(mkT [(p2, t2)]), h13, d4, .no⟩))) (fun ch8 gh8 => XFn.endOf x79 D (.panic ch8 ⟨(mkT [(p2, t2)]), gh8, d4, .no⟩))) (fun ch5 gh5 => XFn.endOf x79 D (.panic ch5 ⟨(mkT [(p2, t2)]), gh5, d4, .no⟩))) (fun ch3 gh3 => XFn.endOf x79 D (.panic ch3 ⟨(mkT [(p2, t2)]), gh3, [], .no⟩))
def S79 : SFn := fun D m args h u => nou u <| popV args fun t0 args => endA args (S79_0 D m t0 h)
theorem T79_0 (hE : FX x79 D m E) : S79_0 D m = e79_0 (E c79_e []) := by unfold S79_0; rw [hE c79_e]; kernel_rfl
theorem X79 : XTie S79 x79 := X_of fun D m E hE args h u => by unfold S79; rw [T79_0 hE]; kernel_rfl
/- 82 -/
def c82_e : XC := (.sO [.mv p2 (cb false) .b] (.sO [.mv p3 q0 tI, .bn p4 .eql q3 (ci 1) .b, .mv p5 q4 .b, .ge p5 (XL.of [.G p5 false p6 (.mov q0) tI, .G p5 false p7 (.bin .eql q6 (ci 2)) .b, .P p8 (.pick q5 (cb true) q7) .b]) p8 .b, .mv p2 q8 .b] (.s .ret)))
def x82 : XFn := ⟨[tI], false, [(.tmp p2)], c82_e⟩
def e82_0 (k t0 h) := kN k [(p0, (vI t0))] h
def S82_0 (D : CallD) (m : Nat) (t0 : Int) (h : HP) : Res2 :=
 let t4 := eqQ t0 (Int.ofNat 1)
 obB (brV t4 (
 some (vB true)) (
 let t7 := eqQ t0 (Int.ofNat 2)
 some (vB t7))) fun t8 =>
 some (.ret (vB t8) h, .no)
def S82 : SFn := fun D m args h u => nou u <| popI .i64 args fun t0 args => endA args (S82_0 D m t0 h)
theorem T82_0 (hE : FX x82 D m E) : S82_0 D m = e82_0 (E c82_e []) := by unfold S82_0; rw [hE c82_e]; kernel_rfl
theorem X82 : XTie S82 x82 := X_of fun D m E hE args h u => by unfold S82; rw [T82_0 hE]; kernel_rfl
/- 83 -/
def c83_e : XC := (.sO [.mv p2 (.c .nils) .v] (.seq (.seq (.oX [.mv p3 q0 .v, .P p4 (.eqn .sl false q3 (.c .nils)) .b]) (.cond q4 (.seq (.oX [.mv p2 (.c .nils) .v]) .ret) .skip)) (.sO [.al p5 (.bsl [] 0 []), .mv p6 q0 .v, .o ⟨(some p7), (.e (.app 3 32 q5 q6)), none, []⟩ .v, .mv p2 q7 .v] (.s .ret))))
def x83 : XFn := ⟨[.v], false, [(.tmp p2)], c83_e⟩
def e83_0 (k t0 h) := kN k [(p0, t0)] h
def S83_0 (D : CallD) (m : Nat) (t0 : AV) (h : HP) : Res2 :=
 obB (evP (.eqn .sl false (.c t0) (.c (.nils : AV))) .leaf) fun t4 =>
 br t4 (
 some (.ret (.nils : AV) h, .no)) (
 let t5 := AV.slice (HP.nxQ h) 0 0 (.exact 0)
 let h1 := HP.newQ h (.cells true [])
 eff (.app 3 32 (.c t5) (.c t0)) h1 fun t7 h2 =>
 some (.ret t7 h2, .no))
def S83 : SFn := fun D m args h u => nou u <| popV args fun t0 args => endA args (S83_0 D m t0 h)
theorem T83_0 (hE : FX x83 D m E) : S83_0 D m = e83_0 (E c83_e []) := by unfold S83_0; rw [hE c83_e]; kernel_rfl
theorem X83 : XTie S83 x83 := X_of fun D m E hE args h u => by unfold S83; rw [T83_0 hE]; kernel_rfl
/- 85 -/
def c85_e : XC := (.sO [.mv p2 (.c .nils) .v] (.seq (.seq (.oX [.mv p3 q0 .v, .P p4 (.eqn .sl false q3 (.c .nils)) .b]) (.cond q4 (.seq (.oX [.mv p2 (.c .nils) .v]) .ret) .skip)) (.sO [.al p5 (.bsl [] 0 []), .mv p6 q0 .v, .o ⟨(some p7), (.e (.app 8 96 q5 q6)), none, []⟩ .v, .mv p2 q7 .v] (.s .ret))))
def x85 : XFn := ⟨[.v], false, [(.tmp p2)], c85_e⟩
def e85_0 (k t0 h) := kN k [(p0, t0)] h
def S85_0 (D : CallD) (m : Nat) (t0 : AV) (h : HP) : Res2 :=
 obB (evP (.eqn .sl false (.c t0) (.c (.nils : AV))) .leaf) fun t4 =>
 br t4 (
 some (.ret (.nils : AV) h, .no)) (
 let t5 := AV.slice (HP.nxQ h) 0 0 (.exact 0)
 let h1 := HP.newQ h (.cells true [])
 eff (.app 8 96 (.c t5) (.c t0)) h1 fun t7 h2 =>
 some (.ret t7 h2, .no))
def S85 : SFn := fun D m args h u => nou u <| popV args fun t0 args => endA args (S85_0 D m t0 h)
theorem T85_0 (hE : FX x85 D m E) : S85_0 D m = e85_0 (E c85_e []) := by unfold S85_0; rw [hE c85_e]; kernel_rfl
theorem X85 : XTie S85 x85 := X_of fun D m E hE args h u => by unfold S85; rw [T85_0 hE]; kernel_rfl
/- 86 -/
def c86_e : XC := (.sO [.al p5 (.box q1), .al p8 (.new [(kI 0), (.str []), (.str []), (.int .u32 (.ofNat 0)), (.int .u64 (.ofNat 0)), .nils, (kI 0), (kI 0)])] (.sO [.mv p10 q0 .v, .L p11 (.cells 8 q5) .v, .cl p12 121 [q10, q11] .v, .ss 8 q5 q12] (.sO [.L p14 (.cells 8 q5) .v, .mv p15 q2 tI, .cl p16 122 [q14, q15] .v, .mv p13 q16 .v, .P p17 (.ext q13 0) .v, .P p18 (.ext q13 1) .b, .ss 8 q5 q17, .mv p9 q18 .b] (.sO [.mv p19 q9 .b, .mv p20 q3 tI, .cl p21 55 [q19, (ci 14), q20] .v] (.sO [.L p22 (.cells 8 q5) .v, .ss 8 q8 q22] (.s .ret))))))
def x86 : XFn := ⟨[.v, .v, tI, tI], false, [(.cells 8 p8)], c86_e⟩
def e86_0 (k t0 t1 t2 t3 h) := kN k [(p0, t0), (p1, t1), (p2, (vI t2)), (p3, (vI t3))] h
def S86_0 (D : CallD) (m : Nat) (t0 t1 : AV) (t2 t3 : Int) (h : HP) : Res2 :=
 let t5 := AV.ptr (HP.nxQ h) 0
 let h1 := HP.newQ h (.cells true (AV.cells t1))
 let t8 := AV.ptr (HP.nxQ h1) 0
 let h2 := HP.newQ h1 (.cells true [(kI 0), (.str []), (.str []), (.int .u32 (.ofNat 0)), (.int .u64 (.ofNat 0)), .nils, (kI 0), (kI 0)])
 cellsC 8 t5 h2 fun t11 =>
 cal D 121 [t0, t11] h2 fun t12 h3 =>
 stsC 8 t5 t12 h3 fun h4 =>
 cellsC 8 t5 h4 fun t14 =>
 cal D 122 [t14, (vI t2)] h4 fun t16 h5 =>
 extC t16 0 fun t17 =>
 extC t16 1 fun vt18 => asB vt18 fun t18 =>
 stsC 8 t5 t17 h5 fun h6 =>
 cal D 55 [(vB t18), (vI (Int.ofNat 14)), (vI t3)] h6 fun t21 h7 =>
 cellsC 8 t5 h7 fun t22 =>
 stsC 8 t8 t22 h7 fun h8 =>
 cellsC 8 t8 h8 fun t8a =>
 some (.ret t8a h8, .no)
def S86 : SFn := fun D m args h u => nou u <| popV args fun t0 args => popV args fun t1 args => popI .i64 args fun t2 args => popI .i64 args fun t3 args => endA args (S86_0 D m t0 t1 t2 t3 h)
theorem T86_0 (hE : FX x86 D m E) : S86_0 D m = e86_0 (E c86_e []) := by unfold S86_0; rw [hE c86_e]; kernel_rfl
theorem X86 : XTie S86 x86 := X_of fun D m E hE args h u => by unfold S86; rw [T86_0 hE]; kernel_rfl
/- 88 -/
def v88_0 : List Pos := []
def c88_0 : XC := (.sO [.mv p4 (.c (.int .i64 (.negSucc 0))) tI] (.s .ret))
def v88_1 : List Pos := [p0, p1, p7, p8]
def c88_1b : XC := (.sO [.bn p9 .lss q8 q7 .b] (.seq (.cond q9 .skip (.exit 0)) (.seq (.block 1 (.seq (.oX [.mv p10 q8 tI, .mv p5 q10 tI]) (.seq (.oX [.mv p11 q1 .v, .mv p12 q0 .v, .mv p13 q5 tI, .P p14 (.iaddr (.sl 17) q12 q13) .v, .L p15 (.cells 17 q14) .v, .o ⟨(some p16), (.call (.val q11) [q15]), none, []⟩ .b]) (.cond q16 (.seq (.oX [.mv p17 q5 tI, .mv p4 q17 tI]) .ret) .skip)))) (.s (.oX [.bn p18 .add q8 (ci 1) tI, .mv p8 q18 tI])))))
def c88_e : XC := (.sO [.mv p4 (ci 0) tI] (.sj v88_0 (.sO [.mv p6 q0 .v, .P p7 (.lenl q6) tI, .mv p8 (ci 0) tI] (.block 0 (.loop v88_1 c88_1b))) c88_0))
def x88 : XFn := ⟨[.v, .v], false, [(.tmp p4)], c88_e⟩
def e88_0 (k h) := kN k [] h
def S88_0 (D : CallD) (m : Nat) (h : HP) : Res2 :=
 some (.ret (vI (Int.negSucc 0)) h, .no)
def e88_1 (k t0 t1 t7 t8 h) := kN k [(p0, t0), (p1, t1), (p7, (vI t7)), (p8, (vI t8))] h
def S88_1b (D : CallD) (m : Nat) (g1 : AV → AV → Int → Int → HP → Res2) (t0 t1 : AV) (t7 t8 : Int) (h : HP) : Res2 :=
 let t9 := ltQ t8 t7
 br t9 (
 iasC 17 t0 (vI t8) fun t14 =>
 cellsC 17 t14 h fun t15 =>
 obQ (target .leaf (.val (.c t1)) [(.c t15)]) fun qh3 =>
 calC D qh3.1 qh3.2 h (fun t16 h3 =>
 asB t16 fun t16a =>
 br t16a (
 some (.ret (vI t8) h3, .no)) (
 let t18 := wrQ .i64 (addQ t8 (Int.ofNat 1))
 g1 t0 t1 t7 t18 h3)) (panN)) (
 S88_0 D m h)
def S88_1 (D : CallD) (m : Nat) : AV → AV → Int → Int → HP → Res2 := nrec (fun _ _ _ _ _ => none) (fun _ g => S88_1b D m g) m
def e88_2 (k t0 t1 h) := kN k [(p0, t0), (p1, t1)] h
def S88_2 (D : CallD) (m : Nat) (t0 t1 : AV) (h : HP) : Res2 :=
 lenC t0 fun vt7 => asI .i64 vt7 fun t7 =>
 S88_1 D m t0 t1 t7 (Int.ofNat 0) h
def S88 : SFn := fun D m args h u => nou u <| popV args fun t0 args => popV args fun t1 args => endA args (S88_2 D m t0 t1 h)
theorem T88_0 (hE : FX x88 D m E) : S88_0 D m = e88_0 (E c88_0 []) := by unfold S88_0; rw [hE c88_0]; kernel_rfl
theorem T88_1b (hE : FX x88 D m E) (G1) : S88_1b D m (e88_1 G1) = e88_1 (E c88_1b [.lp v88_1 G1, .blk 0, .sj v88_0 c88_0]) := by unfold S88_1b; rw [T88_0 hE, hE c88_1b]; kernel_rfl
theorem T88_1 (hE : FX x88 D m E) : S88_1 D m = e88_1 (nrec (fun _ => none) (fun _ G1 st => E c88_1b [.lp v88_1 G1, .blk 0, .sj v88_0 c88_0] st) m) :=
  nrec_emb e88_1 (fun _ _ _ _ _ => none) (fun g => S88_1b D m g) (fun G1 st => E c88_1b [.lp v88_1 G1, .blk 0, .sj v88_0 c88_0] st) rfl (fun g => T88_1b hE g) m
theorem T88_2 (hE : FX x88 D m E) : S88_2 D m = e88_2 (E c88_e []) := by unfold S88_2; rw [T88_1 hE, hE c88_e]; kernel_rfl
theorem X88 : XTie S88 x88 := X_of fun D m E hE args h u => by unfold S88; rw [T88_2 hE]; kernel_rfl
/- 89 -/
def c89_e : XC := (.sO [.al p2 (.box q0), .al p3 (.box q1), .mv p4 (ci 0) tI] (.sO [.fa p6 0 q2, .ld p7 q6 .v, .P p8 (.mkfn 125 [] [q3]) .v, .cl p9 88 [q7, q8] tI, .mv p5 q9 tI] (.seq (.seq (.oX [.mv p10 q5 tI, .bn p11 .lss q10 (ci 0) .b]) (.cond q11 (.seq (.oX [.mv p4 (.c (.int .i64 (.negSucc 0))) tI]) .ret) .skip)) (.sO [.fa p12 0 q2, .ld p13 q12 .v, .mv p14 q5 tI, .P p15 (.iaddr (.sl 17) q13 q14) .v, .fa p16 5 q15, .ld p17 q16 tI, .P p18 (.mm true [q17, (ci 1)]) tI, .mv p4 q18 tI] (.s .ret)))))
def x89 : XFn := ⟨[.v, .s], false, [(.tmp p4)], c89_e⟩
def e89_0 (k t0 t1 h) := kN k [(p0, t0), (p1, (vS t1))] h
def S89_0 (D : CallD) (m : Nat) (t0 : AV) (t1 : LN) (h : HP) : Res2 :=
 let t2 := AV.ptr (HP.nxQ h) 0
 let h1 := HP.newQ h (.cells true (AV.cells t0))
 let t3 := AV.ptr (HP.nxQ h1) 0
 let h2 := HP.newQ h1 (.cells true (AV.cells (vS t1)))
 let t6 := (AV.ptr (HP.nxQ h) (Nat.add 0 0))
 cellC t6 h2 fun t7 =>
 let t8 := (AV.fn 125 [] [t3])
 cal D 88 [t7, t8] h2 fun t9 h3 =>
 asI .i64 t9 fun t9a =>
 let t11 := ltQ t9a (Int.ofNat 0)
 br t11 (
 some (.ret (vI (Int.negSucc 0)) h3, .no)) (
 let t12 := (AV.ptr (HP.nxQ h) (Nat.add 0 0))
 cellC t12 h3 fun t13 =>
 iasC 17 t13 (vI t9a) fun t15 =>
 faC 5 t15 fun t16 =>
 ldI t16 h3 fun t17 =>
 let t18 := mmI true t17 (Int.ofNat 1)
 some (.ret (vI t18) h3, .no))
def S89 : SFn := fun D m args h u => nou u <| popV args fun t0 args => popS args fun t1 args => endA args (S89_0 D m t0 t1 h)
theorem T89_0 (hE : FX x89 D m E) : S89_0 D m = e89_0 (E c89_e []) := by unfold S89_0; rw [hE c89_e]; kernel_rfl
theorem X89 : XTie S89 x89 := X_of fun D m E hE args h u => by unfold S89; rw [T89_0 hE]; kernel_rfl
/- 90 -/
def v90_0 : List Pos := [p3, p4]
def c90_0 : XC := (.s (.oX [.fa p50 7 q3, .ld p51 q50 tI, .P p52 (.build [(kI 0)] [⟨0, 1, q51⟩]) .v, .P p53 (.mkif 127 q52) .v, .o ⟨none, (.panic q53), none, []⟩ .v]))
def c90_e : XC := (.sO [.al p2 (.box q0), .al p3 (.box q1), .al p4 (.new [(kI 0), (.int .u32 (.ofNat 0)), (.int .u64 (.ofNat 0)), (.str []), (kI 0)])] (.sj v90_0 (.sO [.fa p8 5 q3, .ld p9 q8 .v, .P p10 (.iaddr (.sl 8) q9 (ci 0)) .v, .L p11 (.cells 8 q10) .v, .al p5 (.new [(kI 0), (.str []), (.str []), (.int .u32 (.ofNat 0)), (.int .u64 (.ofNat 0)), .nils, (kI 0), (kI 0)]), .ss 8 q5 q11] (.sO [.fa p12 0 q5, .ld p13 q12 tI] (.block 0 (.sO [.bn p18 .eql q13 (ci 3) .b, .mv p17 q18 .b] (.cond q17 (.sO [.L p19 (.cells 1 q2) .v, .fa p20 2 q5, .ld p21 q20 .s, .cl p22 89 [q19, q21] tI, .bn p23 .gtr q22 (ci 0) .b] (.cond q23 (.sO [.fa p24 6 q3, .ld p25 q24 tI, .fa p26 2 q5, .ld p27 q26 .s, .P p28 (.build [(kI 0), (.int .u32 (.ofNat 0)), (.int .u64 (.ofNat 0)), (.str []), (kI 0)] [⟨0, 1, q25⟩, ⟨3, 1, q27⟩]) .v, .ss 5 q4 q28] (.s .ret)) (.s .skip))) (.sO [.bn p30 .eql q13 (ci 8) .b, .mv p29 q30 .b] (.cond q29 (.seq (.ops true (XL.of [.L p31 (.cells 1 q2) .v, .fa p32 5 q5, .ld p33 q32 .v, .P p34 (.iaddr (.sl 8) q33 (ci 0)) .v, .L p35 (.cells 8 q34) .v, .L p37 (.cells 1 q2) .v, .fa p38 5 q5, .ld p39 q38 .v, .P p40 (.iaddr (.sl 8) q39 (ci 1)) .v, .L p41 (.cells 8 q40) .v, .al p6 (.new [(kI 0), (.int .u32 (.ofNat 0)), (.int .u64 (.ofNat 0)), (.str []), (kI 0)]), .al p7 (.new [(kI 0), (.int .u32 (.ofNat 0)), (.int .u64 (.ofNat 0)), (.str []), (kI 0)]), .o ⟨(some p36), (.call (.fn 59) [q31, q35]), none, [⟨none, .cells 1 q2, p37⟩, ⟨none, .cell q38, p39⟩, ⟨none, .cells 8 q40, p41⟩]⟩ .v, .cl p42 59 [q37, q41] .v, .ss 5 q6 q36, .ss 5 q7 q42])) (.sO [.L p43 (.cells 1 q2) .v, .L p44 (.cells 5 q6) .v, .fa p45 1 q7, .ld p46 q45 tW, .fa p47 7 q3, .ld p48 q47 tI, .cl p49 92 [q43, q44, q46, (cb false), q48] .v, .ss 5 q4 q49] (.s .ret))) (.s (.oX [.L p14 (.cells 1 q2) .v, .L p15 (.cells 8 q5) .v, .cl p16 59 [q14, q15] .v]))))))))) c90_0))
def x90 : XFn := ⟨[.v, .v], false, [(.cells 5 p4)], c90_e⟩
def e90_0 (k t3 t4 h) := kN k [(p3, t3), (p4, t4)] h
def S90_0 (D : CallD) (m : Nat) (t3 t4 : AV) (h : HP) : Res2 :=
 faC 7 t3 fun t50 =>
 ldI t50 h fun t51 =>
 let t52 := (AV.agg [(vI t51)])
 let t53 := (AV.iface 127 t52)
 some (.pan [(.iface 127 t52, false)] h, .no)
def e90_1 (k t0 t1 h) := kN k [(p0, t0), (p1, t1)] h
def S90_1 (D : CallD) (m : Nat) (t0 t1 : AV) (h : HP) : Res2 :=
 let t2 := AV.ptr (HP.nxQ h) 0
 let h2 := HP.newQ h (.cells true (AV.cells t0))
 let t3 := AV.ptr (HP.nxQ h2) 0
 let h3 := HP.newQ h2 (.cells true (AV.cells t1))
 let t4 := AV.ptr (HP.nxQ h3) 0
 let h4 := HP.newQ h3 (.cells true [(kI 0), (.int .u32 (.ofNat 0)), (.int .u64 (.ofNat 0)), (.str []), (kI 0)])
 let t8 := (AV.ptr (HP.nxQ h2) (Nat.add 0 5))
 cellC t8 h4 fun t9 =>
 iasC 8 t9 (vI (Int.ofNat 0)) fun t10 =>
 cellsC 8 t10 h4 fun t11 =>
 let t5 := AV.ptr (HP.nxQ h4) 0
 let h5 := HP.newQ h4 (.cells true [(kI 0), (.str []), (.str []), (.int .u32 (.ofNat 0)), (.int .u64 (.ofNat 0)), .nils, (kI 0), (kI 0)])
 stsC 8 t5 t11 h5 fun h6 =>
 let t12 := (AV.ptr (HP.nxQ h4) (Nat.add 0 0))
 ldI t12 h6 fun t13 =>
 let t18 := eqQ t13 (Int.ofNat 3)
 br t18 (
 cellsC 1 t2 h6 fun t19 =>
 let t20 := (AV.ptr (HP.nxQ h4) (Nat.add 0 2))
 ldS t20 h6 fun t21 =>
 cal D 89 [t19, (vS t21)] h6 fun t22 h7 =>
 asI .i64 t22 fun t22a =>
 let t23 := ltQ (Int.ofNat 0) t22a
 br t23 (
 let t24 := (AV.ptr (HP.nxQ h2) (Nat.add 0 6))
 ldI t24 h7 fun t25 =>
 let t26 := (AV.ptr (HP.nxQ h4) (Nat.add 0 2))
 ldS t26 h7 fun t27 =>
 let t28 := (AV.agg [(vI t25), (vW (Int.ofNat 0)), (AV.int .u64 (Int.ofNat 0)), (vS t27), (vI (Int.ofNat 0))])
 stsC 5 t4 t28 h7 fun h8 =>
 cellsC 5 t4 h8 fun t4a =>
 some (.ret t4a h8, .no)) (
 S90_0 D m t3 t4 h7)) (
 let t30 := eqQ t13 (Int.ofNat 8)
 br t30 (
 cellsC 1 t2 h6 fun t31 =>
 let t32 := (AV.ptr (HP.nxQ h4) (Nat.add 0 5))
 cellC t32 h6 fun t33 =>
 iasC 8 t33 (vI (Int.ofNat 0)) fun t34 =>
 cellsC 8 t34 h6 fun t35 =>
 cellsC 1 t2 h6 fun t37 =>
 let t38 := (AV.ptr (HP.nxQ h4) (Nat.add 0 5))
 cellC t38 h6 fun t39 =>
 iasC 8 t39 (vI (Int.ofNat 1)) fun t40 =>
 cellsC 8 t40 h6 fun t41 =>
 let t6 := AV.ptr (HP.nxQ h6) 0
 let h9 := HP.newQ h6 (.cells true [(kI 0), (.int .u32 (.ofNat 0)), (.int .u64 (.ofNat 0)), (.str []), (kI 0)])
 let t7 := AV.ptr (HP.nxQ h9) 0
 let h10 := HP.newQ h9 (.cells true [(kI 0), (.int .u32 (.ofNat 0)), (.int .u64 (.ofNat 0)), (.str []), (kI 0)])
 cal D 59 [t31, t35] h10 fun t36 h11 =>
 br (again [⟨none, .cells 1 q2, p37⟩, ⟨none, .cell q38, p39⟩, ⟨none, .cells 8 q40, p41⟩] (mkT [(p41, t41), (p40, t40), (p39, t39), (p38, t38), (p37, t37), (p2, t2)]) h11) (
 cal D 59 [t37, t41] h11 fun t42 h12 =>
 stsC 5 t6 t36 h12 fun h13 =>
 stsC 5 t7 t42 h13 fun h14 =>
 cellsC 1 t2 h14 fun t43 =>
 cellsC 5 t6 h14 fun t44 =>
 let t45 := (AV.ptr (HP.nxQ h9) (Nat.add 0 1))
 ldW t45 h14 fun t46 =>
 let t47 := (AV.ptr (HP.nxQ h2) (Nat.add 0 7))
 ldI t47 h14 fun t48 =>
 cal D 92 [t43, t44, (vW t46), (vB false), (vI t48)] h14 fun t49 h15 =>
 stsC 5 t4 t49 h15 fun h16 =>
 cellsC 5 t4 h16 fun t4a =>
 some (.ret t4a h16, .no)) none) (
 cellsC 1 t2 h6 fun t14 =>
 cellsC 8 t5 h6 fun t15 =>
 cal D 59 [t14, t15] h6 fun t16 h17 =>
 S90_0 D m t3 t4 h17))
def S90 : SFn := fun D m args h u => nou u <| popV args fun t0 args => popV args fun t1 args => endA args (S90_1 D m t0 t1 h)
theorem T90_0 (hE : FX x90 D m E) : S90_0 D m = e90_0 (E c90_0 []) := by unfold S90_0; rw [hE c90_0]; kernel_rfl
theorem T90_1 (hE : FX x90 D m E) : S90_1 D m = e90_1 (E c90_e []) := by unfold S90_1; rw [T90_0 hE, hE c90_e]; kernel_rfl
theorem X90 : XTie S90 x90 := X_of fun D m E hE args h u => by unfold S90; rw [T90_1 hE]; kernel_rfl
/- 92 -/
def v92_1 : List Pos := [p6, p10, p11]
def c92_1 : XC := (.sO [.fa p41 4 q6, .ld p42 q41 tI, .mv p43 q11 tI, .bn p44 .add q42 q43 tI, .fa p45 4 q6, .st q45 q44] (.sO [.L p46 (.cells 5 q6) .v, .ss 5 q10 q46] (.s .ret)))
def c92_3 : XC := (.cond q37 (.s (.oX [.mv p38 q4 tI, .P p39 (.build [(kI 0)] [⟨0, 1, q38⟩]) .v, .P p40 (.mkif 127 q39) .v, .o ⟨none, (.panic q40), none, []⟩ .v])) (.s .skip))
def l92_2 : XL := (XL.of [])
def v92_0 : List Pos := [p4, p5, p6, p10, p11]
def c92_0 : XC := (.sj v92_1 (.opq true (XL.pre [.fa p17 3 q6, .ld p18 q17 .s, .bn p19 .eql q18 (.c (.str [])) .b, .mv p20 q19 .b, .ge p20 (XL.of [.G p20 false p21 (.faddr 4 q6) .v, .o ⟨(some p22), (.l (.cell q21)), (some (p20, false)), []⟩ tI, .G p20 false p23 (.mov q11) tI, .G p20 false p24 (.bin .add q22 q23) tI, .G p20 false p25 (.bin .lss q24 (ci 0)) .b, .P p26 (.pick q20 (cb true) q25) .b]) p26 .b, .mv p27 q26 .b, .sp p27, .G p27 false p28 (.faddr 4 q6) .v, .o ⟨(some p29), (.l (.cell q28)), (some (p27, false)), []⟩ tI, .G p27 false p30 (.mov q11) tI, .G p27 false p31 (.bin .add q29 q30) tI, .o ⟨(some p32), (.l (.cells 1 q5)), (some (p27, false)), []⟩ .v, .G p27 false p33 (.faddr 3 q6) .v, .o ⟨(some p34), (.l (.cell q33)), (some (p27, false)), []⟩ .s, .o ⟨(some p35), (.call (.fn 89) [q32, q34]), (some (p27, false)), [⟨(some (p27, false)), .cell q28, p29⟩]⟩ tI, .G p27 false p36 (.bin .gtr q31 q35) .b, .P p37 (.pick q27 (cb true) q36) .b, .jn p27 [p4, p6, p10, p11, p37]] l92_2) c92_3) c92_1)
def c92_e : XC := (.sO [.al p5 (.box q0), .al p6 (.box q1), .al p10 (.new [(kI 0), (.int .u32 (.ofNat 0)), (.int .u64 (.ofNat 0)), (.str []), (kI 0)])] (.sO [.mv p12 q2 tW, .cl p13 34 [q12] tI, .mv p11 q13 tI] (.sj v92_0 (.sO [.mv p14 q3 .b] (.cond q14 (.s (.oX [.mv p15 q11 tI, .P p16 (.un .neg q15) tI, .mv p11 q16 tI])) (.s .skip))) c92_0)))
def x92 : XFn := ⟨[.v, .v, tW, .b, tI], false, [(.cells 5 p10)], c92_e⟩
def e92_1 (k t6 t10 t11 h) := kN k [(p6, t6), (p10, t10), (p11, (vI t11))] h
def S92_1 (D : CallD) (m : Nat) (t6 t10 : AV) (t11 : Int) (h : HP) : Res2 :=
 faC 4 t6 fun t41 =>
 ldI t41 h fun t42 =>
 let t44 := wrQ .i64 (addQ t42 t11)
 faC 4 t6 fun t45 =>
 stoC t45 (vI t44) h fun h9 =>
 cellsC 5 t6 h9 fun t46 =>
 stsC 5 t10 t46 h9 fun h10 =>
 cellsC 5 t10 h10 fun t10a =>
 some (.ret t10a h10, .no)
def e92_2 (k t4 t6 t10 t11 t37 h) := kN k [(p4, (vI t4)), (p6, t6), (p10, t10), (p11, (vI t11)), (p37, (vB t37))] h
def S92_2 (D : CallD) (m : Nat) (t4 : Int) (t6 t10 : AV) (t11 : Int) (t37 : Bool) (h : HP) : Res2 :=
 br t37 (
 let t39 := (AV.agg [(vI t4)])
 let t40 := (AV.iface 127 t39)
 some (.pan [(.iface 127 t39, false)] h, .no)) (
 S92_1 D m t6 t10 t11 h)
def e92_0 (k t4 t5 t6 t10 t11 h) := kN k [(p4, (vI t4)), (p5, t5), (p6, t6), (p10, t10), (p11, (vI t11))] h
def S92_0 (D : CallD) (m : Nat) (t4 : Int) (t5 t6 t10 : AV) (t11 : Int) (h : HP) : Res2 :=
 faC 3 t6 fun t17 =>
 ldS t17 h fun t18 =>
 let t19 := eqL t18 ([] : LN)
 obB (brV t19 (
 some (vB true)) (
 faCV 4 t6 fun t21 =>
 ldIV t21 h fun t22 =>
 let t24 := wrQ .i64 (addQ t22 t11)
 let t25 := ltQ t24 (Int.ofNat 0)
 some (vB t25))) fun t26 =>
 br t26 (
 S92_2 D m t4 t6 t10 t11 true h) (
 faC 4 t6 fun t28 =>
 ldI t28 h fun t29 =>
 let t31 := wrQ .i64 (addQ t29 t11)
 cellsC 1 t5 h fun t32 =>
 faC 3 t6 fun t33 =>
 ldS t33 h fun t34 =>
 cal D 89 [t32, (vS t34)] h fun t35 h11 =>
 br (again [⟨(some (p27, false)), .cell q28, p29⟩] (mkT [(p29, (vI t29)), (p27, (vB false)), (p28, t28)]) h11) (
 asI .i64 t35 fun t35a =>
 let t36 := ltQ t35a t31
 S92_2 D m t4 t6 t10 t11 t36 h11) none)
def e92_4 (k t0 t1 t2 t3 t4 h) := kN k [(p0, t0), (p1, t1), (p2, (vW t2)), (p3, (vB t3)), (p4, (vI t4))] h
def S92_4 (D : CallD) (m : Nat) (t0 t1 : AV) (t2 : Int) (t3 : Bool) (t4 : Int) (h : HP) : Res2 :=
 let t5 := AV.ptr (HP.nxQ h) 0
 let h5 := HP.newQ h (.cells true (AV.cells t0))
 let t6 := AV.ptr (HP.nxQ h5) 0
 let h6 := HP.newQ h5 (.cells true (AV.cells t1))
 let t10 := AV.ptr (HP.nxQ h6) 0
 let h7 := HP.newQ h6 (.cells true [(kI 0), (.int .u32 (.ofNat 0)), (.int .u64 (.ofNat 0)), (.str []), (kI 0)])
 cal D 34 [(vW t2)] h7 fun t13 h8 =>
 asI .i64 t13 fun t13a =>
 br t3 (
 let t16 := IntKind.wrap .i64 (0 - t13a)
 S92_0 D m t4 t5 t6 t10 t16 h8) (
 S92_0 D m t4 t5 t6 t10 t13a h8)
def S92 : SFn := fun D m args h u => nou u <| popV args fun t0 args => popV args fun t1 args => popI .u32 args fun t2 args => popB args fun t3 args => popI .i64 args fun t4 args => endA args (S92_4 D m t0 t1 t2 t3 t4 h)
theorem T92_1 (hE : FX x92 D m E) : S92_1 D m = e92_1 (E c92_1 []) := by unfold S92_1; rw [hE c92_1]; kernel_rfl
theorem T92_2 (hE : FX x92 D m E) : S92_2 D m = e92_2 (E (.opq true l92_2 c92_3) [.sj v92_1 c92_1]) := by unfold S92_2; rw [T92_1 hE, hE (.opq true l92_2 c92_3)]; kernel_rfl
theorem T92_0 (hE : FX x92 D m E) : S92_0 D m = e92_0 (E c92_0 []) := by unfold S92_0; rw [T92_2 hE, hE c92_0]; kernel_rfl
theorem T92_4 (hE : FX x92 D m E) : S92_4 D m = e92_4 (E c92_e []) := by unfold S92_4; rw [T92_0 hE, hE c92_e]; kernel_rfl
theorem X92 : XTie S92 x92 := X_of fun D m E hE args h u => by unfold S92; rw [T92_4 hE]; kernel_rfl
/- 101 -/
def c101_e : XC := (.sO [.mv p4 (ci 0) tI] (.sO [.mv p5 q0 .s, .mv p6 q1 tC, .cl p7 135 [q5, q6] tI, .mv p4 q7 tI] (.s .ret)))
def x101 : XFn := ⟨[.s, tC], false, [(.tmp p4)], c101_e⟩
def e101_0 (k t0 t1 h) := kN k [(p0, (vS t0)), (p1, (vC t1))] h
def S101_0 (D : CallD) (m : Nat) (t0 : LN) (t1 : Int) (h : HP) : Res2 :=
 cal D 135 [(vS t0), (vC t1)] h fun t7 h1 =>
 asI .i64 t7 fun t7a =>
 some (.ret (vI t7a) h1, .no)
def S101 : SFn := fun D m args h u => nou u <| popS args fun t0 args => popI .u8 args fun t1 args => endA args (S101_0 D m t0 t1 h)
theorem T101_0 (hE : FX x101 D m E) : S101_0 D m = e101_0 (E c101_e []) := by unfold S101_0; rw [hE c101_e]; kernel_rfl
theorem X101 : XTie S101 x101 := X_of fun D m E hE args h u => by unfold S101; rw [T101_0 hE]; kernel_rfl
/- 102 -/
def c102_e : XC := (.sO [.mv p4 (cb false) .b] (.sO [.mv p5 q0 .s, .mv p6 q1 .s, .cl p7 136 [q5, q6] .b, .mv p4 q7 .b] (.s .ret)))
def x102 : XFn := ⟨[.s, .s], false, [(.tmp p4)], c102_e⟩
def e102_0 (k t0 t1 h) := kN k [(p0, (vS t0)), (p1, (vS t1))] h
def S102_0 (D : CallD) (m : Nat) (t0 t1 : LN) (h : HP) : Res2 :=
 cal D 136 [(vS t0), (vS t1)] h fun t7 h1 =>
 asB t7 fun t7a =>
 some (.ret (vB t7a) h1, .no)
def S102 : SFn := fun D m args h u => nou u <| popS args fun t0 args => popS args fun t1 args => endA args (S102_0 D m t0 t1 h)
theorem T102_0 (hE : FX x102 D m E) : S102_0 D m = e102_0 (E c102_e []) := by unfold S102_0; rw [hE c102_e]; kernel_rfl
theorem X102 : XTie S102 x102 := X_of fun D m E hE args h u => by unfold S102; rw [T102_0 hE]; kernel_rfl
/- 103 -/
def v103_0 : List Pos := [p5]
def c103_0 : XC := (.sO [.mv p19 q5 tI, .mv p4 q19 tI] (.s .ret))
def v103_2 : List Pos := [p0, p1, p5]
def c103_2 : XC := (.block 1 (.s (.oX [.mv p17 q5 tI, .bn p18 .add q17 (ci 1) tI, .mv p5 q18 tI])))
def c103_4 : XC := (.cond q16 (.s .skip) (.s (.exit 0)))
def l103_3 : XL := (XL.of [])
def v103_1 : List Pos := [p0, p1, p5]
def c103_1b : XC := (.sj v103_2 (.opq false (XL.pre [.mv p6 q5 tI, .mv p7 q0 .s, .P p8 (.lens q7) tI, .bn p9 .lss q6 q8 .b, .mv p10 q9 .b, .sp p10, .G p10 true p11 (.mov q1) .v, .G p10 true p12 (.mov q0) .s, .G p10 true p13 (.mov q5) tI, .G p10 true p14 (.idxs q12 q13) tC, .o ⟨(some p15), (.call (.val q11) [q14]), (some (p10, true)), []⟩ .b, .P p16 (.pick q10 q15 (cb false)) .b, .jn p10 [p0, p1, p5, p16]] l103_3) c103_4) c103_2)
def c103_e : XC := (.sO [.mv p4 (ci 0) tI] (.sO [.mv p5 (ci 0) tI] (.sj v103_0 (.block 0 (.loop v103_1 c103_1b)) c103_0)))
def x103 : XFn := ⟨[.s, .v], false, [(.tmp p4)], c103_e⟩
def e103_0 (k t5 h) := kN k [(p5, (vI t5))] h
def S103_0 (D : CallD) (m : Nat) (t5 : Int) (h : HP) : Res2 :=
 some (.ret (vI t5) h, .no)
def e103_2 (k t0 t1 t5 h) := kN k [(p0, (vS t0)), (p1, t1), (p5, (vI t5))] h
def S103_2 (D : CallD) (m : Nat) (g1 : LN → AV → Int → HP → Res2) (t0 : LN) (t1 : AV) (t5 : Int) (h : HP) : Res2 :=
 let t18 := wrQ .i64 (addQ t5 (Int.ofNat 1))
 g1 t0 t1 t18 h
def e103_3 (k t0 t1 t5 t16 h) := kN k [(p0, (vS t0)), (p1, t1), (p5, (vI t5)), (p16, (vB t16))] h
def S103_3 (D : CallD) (m : Nat) (g1 : LN → AV → Int → HP → Res2) (t0 : LN) (t1 : AV) (t5 : Int) (t16 : Bool) (h : HP) : Res2 :=
 br t16 (
 S103_2 D m g1 t0 t1 t5 h) (
 S103_0 D m t5 h)
def e103_1 (k t0 t1 t5 h) := kN k [(p0, (vS t0)), (p1, t1), (p5, (vI t5))] h
def S103_1b (D : CallD) (m : Nat) (g1 : LN → AV → Int → HP → Res2) (t0 : LN) (t1 : AV) (t5 : Int) (h : HP) : Res2 :=
 let t8 := Int.ofNat (lenL t0)
 let t9 := ltQ t5 t8
 br t9 (
 ixC (vS t0) (vI t5) fun vt14 => asI .u8 vt14 fun t14 =>
 obQ (target .leaf (.val (.c t1)) [(.c (vC t14))]) fun qh6 =>
 calC D qh6.1 qh6.2 h (fun t15 h6 =>
 asB t15 fun t15a =>
 S103_3 D m g1 t0 t1 t5 t15a h6) (panN)) (
 S103_3 D m g1 t0 t1 t5 false h)
def S103_1 (D : CallD) (m : Nat) : LN → AV → Int → HP → Res2 := nrec (fun _ _ _ _ => none) (fun _ g => S103_1b D m g) m
def e103_5 (k t0 t1 h) := kN k [(p0, (vS t0)), (p1, t1)] h
def S103_5 (D : CallD) (m : Nat) (t0 : LN) (t1 : AV) (h : HP) : Res2 :=
 S103_1 D m t0 t1 (Int.ofNat 0) h
def S103 : SFn := fun D m args h u => nou u <| popS args fun t0 args => popV args fun t1 args => endA args (S103_5 D m t0 t1 h)
theorem T103_0 (hE : FX x103 D m E) : S103_0 D m = e103_0 (E c103_0 []) := by unfold S103_0; rw [hE c103_0]; kernel_rfl
theorem T103_2 (hE : FX x103 D m E) (G1) : S103_2 D m (e103_1 G1) = e103_2 (E c103_2 [.lp v103_1 G1, .blk 0, .sj v103_0 c103_0]) := by unfold S103_2; rw [hE c103_2]; kernel_rfl
theorem T103_3 (hE : FX x103 D m E) (G1) : S103_3 D m (e103_1 G1) = e103_3 (E (.opq false l103_3 c103_4) [.sj v103_2 c103_2, .lp v103_1 G1, .blk 0, .sj v103_0 c103_0]) := by unfold S103_3; rw [T103_2 hE G1, T103_0 hE, hE (.opq false l103_3 c103_4)]; kernel_rfl
theorem T103_1b (hE : FX x103 D m E) (G1) : S103_1b D m (e103_1 G1) = e103_1 (E c103_1b [.lp v103_1 G1, .blk 0, .sj v103_0 c103_0]) := by unfold S103_1b; rw [T103_3 hE G1, hE c103_1b]; kernel_rfl
theorem T103_1 (hE : FX x103 D m E) : S103_1 D m = e103_1 (nrec (fun _ => none) (fun _ G1 st => E c103_1b [.lp v103_1 G1, .blk 0, .sj v103_0 c103_0] st) m) :=
  nrec_emb e103_1 (fun _ _ _ _ => none) (fun g => S103_1b D m g) (fun G1 st => E c103_1b [.lp v103_1 G1, .blk 0, .sj v103_0 c103_0] st) rfl (fun g => T103_1b hE g) m
theorem T103_5 (hE : FX x103 D m E) : S103_5 D m = e103_5 (E c103_e []) := by unfold S103_5; rw [T103_1 hE, hE c103_e]; kernel_rfl
theorem X103 : XTie S103 x103 := X_of fun D m E hE args h u => by unfold S103; rw [T103_5 hE]; kernel_rfl
/- 106 -/
def c106_e : XC := (.sO [.mv p2 (cb false) .b] (.sO [.mv p3 q0 tC, .bn p4 .eql q3 (.c (.int .u8 (.ofNat 95))) .b, .mv p5 q4 .b, .ge p5 (XL.of [.G p5 false p6 (.mov q0) tC, .G p5 false p7 (.bin .or q6 (.c (.int .u8 (.ofNat 32)))) tC, .G p5 false p8 (.bin .geq q7 (.c (.int .u8 (.ofNat 97)))) .b, .G p5 false p9 (.mov q8) .b, .ge p9 (XL.of [.G p9 true p10 (.mov q0) tC, .G p9 true p11 (.bin .or q10 (.c (.int .u8 (.ofNat 32)))) tC, .G p9 true p12 (.bin .leq q11 (.c (.int .u8 (.ofNat 122)))) .b, .G p5 false p13 (.pick q9 q12 (cb false)) .b]) p13 .b, .P p14 (.pick q5 (cb true) q13) .b]) p14 .b, .mv p2 q14 .b] (.s .ret)))
def x106 : XFn := ⟨[tC], false, [(.tmp p2)], c106_e⟩
def e106_0 (k t0 h) := kN k [(p0, (vC t0))] h
def S106_0 (D : CallD) (m : Nat) (t0 : Int) (h : HP) : Res2 :=
 let t4 := eqQ t0 (Int.ofNat 95)
 obB (brV t4 (
 some (vB true)) (
 obIV .u8 (intBin .or .u8 t0 (Int.ofNat 32)) fun t7 =>
 let t8 := leQ (Int.ofNat 97) t7
 obBV (brV t8 (
 obIV .u8 (intBin .or .u8 t0 (Int.ofNat 32)) fun t11 =>
 let t12 := leQ t11 (Int.ofNat 122)
 some (vB t12)) (
 some (vB false))) fun t13 =>
 some (vB t13))) fun t14 =>
 some (.ret (vB t14) h, .no)
def S106 : SFn := fun D m args h u => nou u <| popI .u8 args fun t0 args => endA args (S106_0 D m t0 h)
theorem T106_0 (hE : FX x106 D m E) : S106_0 D m = e106_0 (E c106_e []) := by unfold S106_0; rw [hE c106_e]; kernel_rfl
theorem X106 : XTie S106 x106 := X_of fun D m E hE args h u => by unfold S106; rw [T106_0 hE]; kernel_rfl
/- 107 -/
def c107_1 : XC := (.s .ret)
def l107_0 : XL := (XL.of [.mv p2 q8 .b])
def c107_e : XC := (.sO [.mv p2 (cb false) .b] (.opq false (XL.pre [.mv p3 q0 tC, .cl p4 106 [q3] .b, .mv p5 q4 .b, .sp p5, .G p5 false p6 (.mov q0) tC, .o ⟨(some p7), (.call (.fn 108) [q6]), (some (p5, false)), []⟩ .b, .P p8 (.pick q5 (cb true) q7) .b, .jn p5 [p8]] l107_0) c107_1))
def x107 : XFn := ⟨[tC], false, [(.tmp p2)], c107_e⟩
def e107_0 (k t8 h) := kN k [(p8, (vB t8))] h
def S107_0 (D : CallD) (m : Nat) (t8 : Bool) (h : HP) : Res2 :=
 some (.ret (vB t8) h, .no)
def e107_2 (k t0 h) := kN k [(p0, (vC t0))] h
def S107_2 (D : CallD) (m : Nat) (t0 : Int) (h : HP) : Res2 :=
 cal D 106 [(vC t0)] h fun t4 h3 =>
 asB t4 fun t4a =>
 br t4a (
 S107_0 D m true h3) (
 cal D 108 [(vC t0)] h3 fun t7 h4 =>
 asB t7 fun t7a =>
 S107_0 D m t7a h4)
def S107 : SFn := fun D m args h u => nou u <| popI .u8 args fun t0 args => endA args (S107_2 D m t0 h)
theorem T107_0 (hE : FX x107 D m E) : S107_0 D m = e107_0 (E (.opq false l107_0 c107_1) []) := by unfold S107_0; rw [hE (.opq false l107_0 c107_1)]; kernel_rfl
theorem T107_2 (hE : FX x107 D m E) : S107_2 D m = e107_2 (E c107_e []) := by unfold S107_2; rw [T107_0 hE, hE c107_e]; kernel_rfl
theorem X107 : XTie S107 x107 := X_of fun D m E hE args h u => by unfold S107; rw [T107_2 hE]; kernel_rfl
/- 108 -/
def c108_e : XC := (.sO [.mv p2 (cb false) .b] (.sO [.mv p3 q0 tC, .bn p4 .geq q3 (.c (.int .u8 (.ofNat 48))) .b, .mv p5 q4 .b, .ge p5 (XL.of [.G p5 true p6 (.mov q0) tC, .G p5 true p7 (.bin .leq q6 (.c (.int .u8 (.ofNat 57)))) .b, .P p8 (.pick q5 q7 (cb false)) .b]) p8 .b, .mv p2 q8 .b] (.s .ret)))
def x108 : XFn := ⟨[tC], false, [(.tmp p2)], c108_e⟩
def e108_0 (k t0 h) := kN k [(p0, (vC t0))] h
def S108_0 (D : CallD) (m : Nat) (t0 : Int) (h : HP) : Res2 :=
 let t4 := leQ (Int.ofNat 48) t0
 obB (brV t4 (
 let t7 := leQ t0 (Int.ofNat 57)
 some (vB t7)) (
 some (vB false))) fun t8 =>
 some (.ret (vB t8) h, .no)
def S108 : SFn := fun D m args h u => nou u <| popI .u8 args fun t0 args => endA args (S108_0 D m t0 h)
theorem T108_0 (hE : FX x108 D m E) : S108_0 D m = e108_0 (E c108_e []) := by unfold S108_0; rw [hE c108_e]; kernel_rfl
theorem X108 : XTie S108 x108 := X_of fun D m E hE args h u => by unfold S108; rw [T108_0 hE]; kernel_rfl
/- 109 -/
def v109_0 : List Pos := []
def c109_0 : XC := (.sO [.mv p2 (cb false) .b] (.s .ret))
def v109_1 : List Pos := [p4]
def c109_1 : XC := (.cond q4 (.sO [.mv p2 (cb true) .b] (.s .ret)) (.s .skip))
def c109_e : XC := (.sO [.mv p2 (cb false) .b] (.sj v109_0 (.sO [.mv p3 q0 .s] (.block 0 (.sj v109_1 (.sO [.bn p5 .eql q3 (.c (.str [105, 110, 116])) .b, .mv p4 q5 .b] (.cond q4 (.s .skip) (.sO [.bn p6 .eql q3 (.c (.str [100, 111, 117, 98, 108, 101])) .b, .mv p4 q6 .b] (.cond q4 (.s .skip) (.sO [.bn p7 .eql q3 (.c (.str [118, 111, 105, 100])) .b, .mv p4 q7 .b] (.cond q4 (.s .skip) (.sO [.bn p8 .eql q3 (.c (.str [115, 116, 97, 116, 105, 99])) .b, .mv p4 q8 .b] (.cond q4 (.s .skip) (.sO [.bn p9 .eql q3 (.c (.str [101, 120, 116, 101, 114, 110])) .b, .mv p4 q9 .b] (.cond q4 (.s .skip) (.sO [.bn p10 .eql q3 (.c (.str [105, 102])) .b, .mv p4 q10 .b] (.cond q4 (.s .skip) (.sO [.bn p11 .eql q3 (.c (.str [101, 108, 115, 101])) .b, .mv p4 q11 .b] (.cond q4 (.s .skip) (.sO [.bn p12 .eql q3 (.c (.str [119, 104, 105, 108, 101])) .b, .mv p4 q12 .b] (.cond q4 (.s .skip) (.sO [.bn p13 .eql q3 (.c (.str [114, 101, 116, 117, 114, 110])) .b, .mv p4 q13 .b] (.cond q4 (.s .skip) (.sO [.bn p14 .eql q3 (.c (.str [98, 114, 101, 97, 107])) .b, .mv p4 q14 .b] (.cond q4 (.s .skip) (.s (.oX [.bn p15 .eql q3 (.c (.str [99, 111, 110, 116, 105, 110, 117, 101])) .b, .mv p4 q15 .b])))))))))))))))))))))) c109_1))) c109_0))
def x109 : XFn := ⟨[.s], false, [(.tmp p2)], c109_e⟩
def e109_0 (k h) := kN k [] h
def S109_0 (D : CallD) (m : Nat) (h : HP) : Res2 :=
 some (.ret (vB false) h, .no)
def e109_1 (k t4 h) := kN k [(p4, (vB t4))] h
def S109_1 (D : CallD) (m : Nat) (t4 : Bool) (h : HP) : Res2 :=
 br t4 (
 some (.ret (vB true) h, .no)) (
 S109_0 D m h)
def e109_2 (k t0 h) := kN k [(p0, (vS t0))] h
def S109_2 (D : CallD) (m : Nat) (t0 : LN) (h : HP) : Res2 :=
 let t5 := eqL t0 ([105, 110, 116] : LN)
 br t5 (
 S109_1 D m t5 h) (
 let t6 := eqL t0 ([100, 111, 117, 98, 108, 101] : LN)
 br t6 (
 S109_1 D m t6 h) (
 let t7 := eqL t0 ([118, 111, 105, 100] : LN)
 br t7 (
 S109_1 D m t7 h) (
 let t8 := eqL t0 ([115, 116, 97, 116, 105, 99] : LN)
 br t8 (
 S109_1 D m t8 h) (
 let t9 := eqL t0 ([101, 120, 116, 101, 114, 110] : LN)
 br t9 (
 S109_1 D m t9 h) (
 let t10 := eqL t0 ([105, 102] : LN)
 br t10 (
 S109_1 D m t10 h) (
 let t11 := eqL t0 ([101, 108, 115, 101] : LN)
 br t11 (
 S109_1 D m t11 h) (
 let t12 := eqL t0 ([119, 104, 105, 108, 101] : LN)
 br t12 (
 S109_1 D m t12 h) (
 let t13 := eqL t0 ([114, 101, 116, 117, 114, 110] : LN)
 br t13 (
 S109_1 D m t13 h) (
 let t14 := eqL t0 ([98, 114, 101, 97, 107] : LN)
 br t14 (
 S109_1 D m t14 h) (
 let t15 := eqL t0 ([99, 111, 110, 116, 105, 110, 117, 101] : LN)
 S109_1 D m t15 h))))))))))
def S109 : SFn := fun D m args h u => nou u <| popS args fun t0 args => endA args (S109_2 D m t0 h)
theorem T109_0 (hE : FX x109 D m E) : S109_0 D m = e109_0 (E c109_0 []) := by unfold S109_0; rw [hE c109_0]; kernel_rfl
theorem T109_1 (hE : FX x109 D m E) : S109_1 D m = e109_1 (E c109_1 [.blk 0, .sj v109_0 c109_0]) := by unfold S109_1; rw [T109_0 hE, hE c109_1]; kernel_rfl
theorem T109_2 (hE : FX x109 D m E) : S109_2 D m = e109_2 (E c109_e []) := by unfold S109_2; rw [T109_1 hE, hE c109_e]; kernel_rfl
theorem X109 : XTie S109 x109 := X_of fun D m E hE args h u => by unfold S109; rw [T109_2 hE]; kernel_rfl
/- 110 -/
def v110_1 : List Pos := [p0, p4, p5]
def c110_1 : XC := (.seq (.seq (.oX [.mv p82 q5 tI, .bn p83 .eql q82 (ci 3) .b]) (.cond q83 (.seq (.seq (.oX [.mv p85 q0 .s, .mv p86 q4 tI, .P p87 (.slice .str q85 none (some q86) none) .s, .cl p88 138 [q87] .v, .mv p84 q88 .v, .P p89 (.ext q84 0) (.i .u64), .P p90 (.ext q84 1) tI, .mv p6 q89 (.i .u64), .mv p7 q90 tI]) (.seq (.oX [.mv p91 q7 tI, .bn p92 .neq q91 (ci 0) .b]) (.cond q92 (.seq (.oX [.mv p2 (ci 0) tI, .mv p3 (ci 0) tI]) .ret) .skip))) (.seq (.oX [.mv p93 q5 tI, .mv p94 q4 tI, .mv p2 q93 tI, .mv p3 q94 tI]) .ret)) .skip)) (.seq (.seq (.oX [.mv p96 q0 .s, .mv p97 q4 tI, .P p98 (.slice .str q96 none (some q97) none) .s, .cl p99 139 [q98, (ci 10), (ci 32)] .v, .mv p95 q99 .v, .P p100 (.ext q95 0) (.i .u64), .P p101 (.ext q95 1) .v, .mv p8 q100 (.i .u64), .mv p9 q101 .v]) (.seq (.oX [.mv p102 q9 .v, .P p103 (.eqn .ifc true q102 (.c .nili)) .b, .mv p104 q103 .b, .ge p104 (XL.of [.G p104 false p105 (.mov q4) tI, .G p104 false p106 (.bin .gtr q105 (ci 10)) .b, .P p107 (.pick q104 (cb true) q106) .b]) p107 .b]) (.cond q107 (.seq (.oX [.mv p2 (ci 0) tI, .mv p3 (ci 0) tI]) .ret) .skip))) (.sO [.mv p108 q5 tI, .mv p109 q4 tI, .mv p2 q108 tI, .mv p3 q109 tI] (.s .ret))))
def c110_3 : XC := (.cond q81 (.sO [.mv p2 (ci 0) tI, .mv p3 (ci 0) tI] (.s .ret)) (.s .skip))
def l110_2 : XL := (XL.of [])
def v110_0 : List Pos := [p0, p4, p5]
def c110_0 : XC := (.sj v110_1 (.opq false (XL.pre [.mv p66 q4 tI, .mv p67 q0 .s, .P p68 (.lens q67) tI, .bn p69 .lss q66 q68 .b, .mv p70 q69 .b, .sp p70, .G p70 true p71 (.mov q0) .s, .G p70 true p72 (.mov q4) tI, .G p70 true p73 (.idxs q71 q72) tC, .o ⟨(some p74), (.call (.fn 106) [q73]), (some (p70, true)), []⟩ .b, .G p70 true p75 (.mov q74) .b, .ge p75 (XL.of [.G p75 false p76 (.mov q0) .s, .G p75 false p77 (.mov q4) tI, .G p75 false p78 (.idxs q76 q77) tC, .G p75 false p79 (.bin .eql q78 (.c (.int .u8 (.ofNat 46)))) .b, .G p70 true p80 (.pick q75 (cb true) q79) .b]) p80 .b, .P p81 (.pick q70 q80 (cb false)) .b, .jn p70 [p0, p4, p5, p81]] l110_2) c110_3) c110_1)
def v110_4 : List Pos := [p0, p4, p5]
def c110_4 : XC := (.s (.oX [.mv p60 q4 tI, .mv p61 q0 .s, .mv p62 q4 tI, .P p63 (.slice .str q61 (some q62) none none) .s, .cl p64 103 [q63, (.c (.fn 108 [] []))] tI, .bn p65 .add q60 q64 tI, .mv p4 q65 tI]))
def c110_e : XC := (.sO [.mv p2 (ci 0) tI, .mv p3 (ci 0) tI] (.sO [.mv p10 q0 .s, .cl p11 103 [q10, (.c (.fn 108 [] []))] tI, .mv p4 q11 tI] (.sO [.mv p5 (ci 2) tI] (.sj v110_0 (.sO [.mv p12 q4 tI, .mv p13 q0 .s, .P p14 (.lens q13) tI, .bn p15 .lss q12 q14 .b, .mv p16 q15 .b, .ge p16 (XL.of [.G p16 true p17 (.mov q0) .s, .G p16 true p18 (.mov q4) tI, .G p16 true p19 (.idxs q17 q18) tC, .G p16 true p20 (.bin .eql q19 (.c (.int .u8 (.ofNat 46)))) .b, .P p21 (.pick q16 q20 (cb false)) .b]) p21 .b] (.cond q21 (.sO [.mv p5 (ci 3) tI] (.sO [.mv p22 q4 tI, .mv p23 q0 .s, .mv p24 q4 tI, .bn p25 .add q24 (ci 1) tI, .P p26 (.slice .str q23 (some q25) none none) .s, .cl p27 103 [q26, (.c (.fn 108 [] []))] tI, .bn p28 .add (ci 1) q27 tI, .bn p29 .add q22 q28 tI, .mv p4 q29 tI] (.sO [.mv p30 q4 tI, .mv p31 q0 .s, .P p32 (.lens q31) tI, .bn p33 .lss q30 q32 .b, .mv p34 q33 .b, .ge p34 (XL.of [.G p34 true p35 (.mov q0) .s, .G p34 true p36 (.mov q4) tI, .G p34 true p37 (.idxs q35 q36) tC, .G p34 true p38 (.bin .eql q37 (.c (.int .u8 (.ofNat 101)))) .b, .P p39 (.pick q34 q38 (cb false)) .b]) p39 .b] (.cond q39 (.sO [.mv p40 q4 tI, .bn p41 .add q40 (ci 1) tI, .mv p4 q41 tI] (.sj v110_4 (.sO [.mv p42 q4 tI, .mv p43 q0 .s, .P p44 (.lens q43) tI, .bn p45 .lss q42 q44 .b, .mv p46 q45 .b, .ge p46 (XL.of [.G p46 true p47 (.mov q0) .s, .G p46 true p48 (.mov q4) tI, .G p46 true p49 (.idxs q47 q48) tC, .G p46 true p50 (.bin .eql q49 (.c (.int .u8 (.ofNat 43)))) .b, .G p46 true p51 (.mov q50) .b, .ge p51 (XL.of [.G p51 false p52 (.mov q0) .s, .G p51 false p53 (.mov q4) tI, .G p51 false p54 (.idxs q52 q53) tC, .G p51 false p55 (.bin .eql q54 (.c (.int .u8 (.ofNat 45)))) .b, .G p46 true p56 (.pick q51 (cb true) q55) .b]) p56 .b, .P p57 (.pick q46 q56 (cb false)) .b]) p57 .b] (.cond q57 (.s (.oX [.mv p58 q4 tI, .bn p59 .add q58 (ci 1) tI, .mv p4 q59 tI])) (.s .skip))) c110_4)) (.s .skip))))) (.s .skip))) c110_0))))
def x110 : XFn := ⟨[.s], false, [(.tmp p2), (.tmp p3)], c110_e⟩
def e110_1 (k t0 t4 t5 h) := kN k [(p0, (vS t0)), (p4, (vI t4)), (p5, (vI t5))] h
def S110_1 (D : CallD) (m : Nat) (t0 : LN) (t4 t5 : Int) (h : HP) : Res2 :=
 let t83 := eqQ t5 (Int.ofNat 3)
 br t83 (
 slC (vS t0) none (some (vI t4)) fun vt87 => asS vt87 fun t87 =>
 cal D 138 [(vS t87)] h fun t88 h7 =>
 extC t88 0 fun vt89 => asI .u64 vt89 fun t89 =>
 extC t88 1 fun vt90 => asI .i64 vt90 fun t90 =>
 let t92 := notQ (eqQ t90 (Int.ofNat 0))
 br t92 (
 some (.ret (.tup [(vI (Int.ofNat 0)), (vI (Int.ofNat 0))]) h7, .no)) (
 some (.ret (.tup [(vI t5), (vI t4)]) h7, .no))) (
 slC (vS t0) none (some (vI t4)) fun vt98 => asS vt98 fun t98 =>
 cal D 139 [(vS t98), (vI (Int.ofNat 10)), (vI (Int.ofNat 32))] h fun t99 h8 =>
 extC t99 0 fun vt100 => asI .u64 vt100 fun t100 =>
 extC t99 1 fun t101 =>
 obB (evP (.eqn .ifc true (.c t101) (.c (.nili : AV))) .leaf) fun t103 =>
 obB (brV t103 (
 some (vB true)) (
 let t106 := ltQ (Int.ofNat 10) t4
 some (vB t106))) fun t107 =>
 br t107 (
 some (.ret (.tup [(vI (Int.ofNat 0)), (vI (Int.ofNat 0))]) h8, .no)) (
 some (.ret (.tup [(vI t5), (vI t4)]) h8, .no)))
def e110_2 (k t0 t4 t5 t81 h) := kN k [(p0, (vS t0)), (p4, (vI t4)), (p5, (vI t5)), (p81, (vB t81))] h
def S110_2 (D : CallD) (m : Nat) (t0 : LN) (t4 t5 : Int) (t81 : Bool) (h : HP) : Res2 :=
 br t81 (
 some (.ret (.tup [(vI (Int.ofNat 0)), (vI (Int.ofNat 0))]) h, .no)) (
 S110_1 D m t0 t4 t5 h)
def e110_0 (k t0 t4 t5 h) := kN k [(p0, (vS t0)), (p4, (vI t4)), (p5, (vI t5))] h
def S110_0 (D : CallD) (m : Nat) (t0 : LN) (t4 t5 : Int) (h : HP) : Res2 :=
 let t68 := Int.ofNat (lenL t0)
 let t69 := ltQ t4 t68
 br t69 (
 ixC (vS t0) (vI t4) fun vt73 => asI .u8 vt73 fun t73 =>
 cal D 106 [(vC t73)] h fun t74 h9 =>
 asB t74 fun t74a =>
 obB (brV t74a (
 some (vB true)) (
 ixCV (vS t0) (vI t4) fun vt78 => asIV .u8 vt78 fun t78 =>
 let t79 := eqQ t78 (Int.ofNat 46)
 some (vB t79))) fun t80 =>
 S110_2 D m t0 t4 t5 t80 h9) (
 S110_2 D m t0 t4 t5 false h)
def e110_4 (k t0 t4 t5 h) := kN k [(p0, (vS t0)), (p4, (vI t4)), (p5, (vI t5))] h
def S110_4 (D : CallD) (m : Nat) (t0 : LN) (t4 t5 : Int) (h : HP) : Res2 :=
 slC (vS t0) (some (vI t4)) none fun vt63 => asS vt63 fun t63 =>
 cal D 103 [(vS t63), ((.fn 108 [] []) : AV)] h fun t64 h11 =>
 asI .i64 t64 fun t64a =>
 let t65 := wrQ .i64 (addQ t4 t64a)
 S110_0 D m t0 t65 t5 h11
def e110_5 (k t0 h) := kN k [(p0, (vS t0))] h
def S110_5 (D : CallD) (m : Nat) (t0 : LN) (h : HP) : Res2 :=
 cal D 103 [(vS t0), ((.fn 108 [] []) : AV)] h fun t11 h6 =>
 asI .i64 t11 fun t11a =>
 let t14 := Int.ofNat (lenL t0)
 let t15 := ltQ t11a t14
 obB (brV t15 (
 ixCV (vS t0) (vI t11a) fun vt19 => asIV .u8 vt19 fun t19 =>
 let t20 := eqQ t19 (Int.ofNat 46)
 some (vB t20)) (
 some (vB false))) fun t21 =>
 br t21 (
 let t25 := wrQ .i64 (addQ t11a (Int.ofNat 1))
 slC (vS t0) (some (vI t25)) none fun vt26 => asS vt26 fun t26 =>
 cal D 103 [(vS t26), ((.fn 108 [] []) : AV)] h6 fun t27 h10 =>
 asI .i64 t27 fun t27a =>
 let t28 := wrQ .i64 (addQ (Int.ofNat 1) t27a)
 let t29 := wrQ .i64 (addQ t11a t28)
 let t32 := Int.ofNat (lenL t0)
 let t33 := ltQ t29 t32
 obB (brV t33 (
 ixCV (vS t0) (vI t29) fun vt37 => asIV .u8 vt37 fun t37 =>
 let t38 := eqQ t37 (Int.ofNat 101)
 some (vB t38)) (
 some (vB false))) fun t39 =>
 br t39 (
 let t41 := wrQ .i64 (addQ t29 (Int.ofNat 1))
 let t44 := Int.ofNat (lenL t0)
 let t45 := ltQ t41 t44
 obB (brV t45 (
 ixCV (vS t0) (vI t41) fun vt49 => asIV .u8 vt49 fun t49 =>
 let t50 := eqQ t49 (Int.ofNat 43)
 obBV (brV t50 (
 some (vB true)) (
 ixCV (vS t0) (vI t41) fun vt54 => asIV .u8 vt54 fun t54 =>
 let t55 := eqQ t54 (Int.ofNat 45)
 some (vB t55))) fun t56 =>
 some (vB t56)) (
 some (vB false))) fun t57 =>
 br t57 (
 let t59 := wrQ .i64 (addQ t41 (Int.ofNat 1))
 S110_4 D m t0 t59 (Int.ofNat 3) h10) (
 S110_4 D m t0 t41 (Int.ofNat 3) h10)) (
 S110_0 D m t0 t29 (Int.ofNat 3) h10)) (
 S110_0 D m t0 t11a (Int.ofNat 2) h6)
def S110 : SFn := fun D m args h u => nou u <| popS args fun t0 args => endA args (S110_5 D m t0 h)
theorem T110_1 (hE : FX x110 D m E) : S110_1 D m = e110_1 (E c110_1 []) := by unfold S110_1; rw [hE c110_1]; kernel_rfl
theorem T110_2 (hE : FX x110 D m E) : S110_2 D m = e110_2 (E (.opq false l110_2 c110_3) [.sj v110_1 c110_1]) := by unfold S110_2; rw [T110_1 hE, hE (.opq false l110_2 c110_3)]; kernel_rfl
theorem T110_0 (hE : FX x110 D m E) : S110_0 D m = e110_0 (E c110_0 []) := by unfold S110_0; rw [T110_2 hE, hE c110_0]; kernel_rfl
theorem T110_4 (hE : FX x110 D m E) : S110_4 D m = e110_4 (E c110_4 [.sj v110_0 c110_0]) := by unfold S110_4; rw [T110_0 hE, hE c110_4]; kernel_rfl
theorem T110_5 (hE : FX x110 D m E) : S110_5 D m = e110_5 (E c110_e []) := by unfold S110_5; rw [T110_4 hE, T110_0 hE, hE c110_e]; kernel_rfl
theorem X110 : XTie S110 x110 := X_of fun D m E hE args h u => by unfold S110; rw [T110_5 hE]; kernel_rfl
/- 111 -/
def c111_e : XC := (.sO [.mv p4 (cb false) .b] (.sO [.mv p5 q0 .s, .mv p6 q1 .s, .cl p7 105 [q5, q6] tI, .bn p8 .geq q7 (ci 0) .b, .mv p4 q8 .b] (.s .ret)))
def x111 : XFn := ⟨[.s, .s], false, [(.tmp p4)], c111_e⟩
def e111_0 (k t0 t1 h) := kN k [(p0, (vS t0)), (p1, (vS t1))] h
def S111_0 (D : CallD) (m : Nat) (t0 t1 : LN) (h : HP) : Res2 :=
 cal D 105 [(vS t0), (vS t1)] h fun t7 h1 =>
 asI .i64 t7 fun t7a =>
 let t8 := leQ (Int.ofNat 0) t7a
 some (.ret (vB t8) h1, .no)
def S111 : SFn := fun D m args h u => nou u <| popS args fun t0 args => popS args fun t1 args => endA args (S111_0 D m t0 t1 h)
theorem T111_0 (hE : FX x111 D m E) : S111_0 D m = e111_0 (E c111_e []) := by unfold S111_0; rw [hE c111_e]; kernel_rfl
theorem X111 : XTie S111 x111 := X_of fun D m E hE args h u => by unfold S111; rw [T111_0 hE]; kernel_rfl
/- 114 -/
def c114_e : XC := (.sO [.mv p2 (ci 0) tI, .mv p3 (.c .nili) .v] (.sO [.mv p7 q0 .s, .cl p8 143 [q7] .v, .mv p6 q8 .v, .P p9 (.ext q6 0) tI, .P p10 (.ext q6 1) .v, .mv p4 q9 tI, .mv p5 q10 .v] (.seq (.seq (.oX [.mv p11 q5 .v, .P p12 (.eqn .ifc true q11 (.c .nili)) .b]) (.cond q12 (.seq (.oX [.mv p13 q4 tI, .mv p14 q0 .s, .mv p15 q5 .v, .cl p16 144 [(.c (.str [65, 116, 111, 105])), q14, (ci 0), (ci 0), q15] .v, .mv p2 q13 tI, .mv p3 q16 .v]) .ret) .skip)) (.sO [.mv p17 q4 tI, .mv p2 q17 tI, .mv p3 (.c .nili) .v] (.s .ret)))))
def x114 : XFn := ⟨[.s], false, [(.tmp p2), (.tmp p3)], c114_e⟩
def e114_0 (k t0 h) := kN k [(p0, (vS t0))] h
def S114_0 (D : CallD) (m : Nat) (t0 : LN) (h : HP) : Res2 :=
 cal D 143 [(vS t0)] h fun t8 h1 =>
 extC t8 0 fun vt9 => asI .i64 vt9 fun t9 =>
 extC t8 1 fun t10 =>
 obB (evP (.eqn .ifc true (.c t10) (.c (.nili : AV))) .leaf) fun t12 =>
 br t12 (
 cal D 144 [(vS ([65, 116, 111, 105] : LN)), (vS t0), (vI (Int.ofNat 0)), (vI (Int.ofNat 0)), t10] h1 fun t16 h2 =>
 some (.ret (.tup [(vI t9), t16]) h2, .no)) (
 some (.ret (.tup [(vI t9), (.nili : AV)]) h1, .no))
def S114 : SFn := fun D m args h u => nou u <| popS args fun t0 args => endA args (S114_0 D m t0 h)
theorem T114_0 (hE : FX x114 D m E) : S114_0 D m = e114_0 (E c114_e []) := by unfold S114_0; rw [hE c114_e]; kernel_rfl
theorem X114 : XTie S114 x114 := X_of fun D m E hE args h u => by unfold S114; rw [T114_0 hE]; kernel_rfl
/- 115 -/
def v115_0 : List Pos := [p0]
def c115_0 : XC := (.s (.oX [.mv p9 q0 .v, .P p10 (.nilck q9) .v, .fa p11 2 q10, .ld p12 q11 tI, .bn p13 .add q12 (ci 1) tI, .P p14 (.nilck q9) .v, .fa p15 2 q14, .st q15 q13]))
def c115_e : XC := (.sj v115_0 (.sO [.mv p2 q0 .v, .P p3 (.nilck q2) .v, .fa p4 2 q3, .ld p5 q4 tI, .bn p6 .eql q5 (ci 40) .b] (.cond q6 (.s (.oX [.mv p7 q0 .v, .cl p8 112 [q7, (ci 12)] .v])) (.s .skip))) c115_0)
def x115 : XFn := ⟨[.v], false, [], c115_e⟩
def e115_0 (k t0 h) := kN k [(p0, t0)] h
def S115_0 (D : CallD) (m : Nat) (t0 : AV) (h : HP) : Res2 :=
 nilckC t0 fun t10 =>
 faC 2 t10 fun t11 =>
 ldI t11 h fun t12 =>
 let t13 := wrQ .i64 (addQ t12 (Int.ofNat 1))
 nilckC t0 fun t14 =>
 faC 2 t14 fun t15 =>
 stoC t15 (vI t13) h fun h2 =>
 some (.ret (.tup []) h2, .no)
def e115_1 (k t0 h) := kN k [(p0, t0)] h
def S115_1 (D : CallD) (m : Nat) (t0 : AV) (h : HP) : Res2 :=
 nilckC t0 fun t3 =>
 faC 2 t3 fun t4 =>
 ldI t4 h fun t5 =>
 let t6 := eqQ t5 (Int.ofNat 40)
 br t6 (
 cal D 112 [t0, (vI (Int.ofNat 12))] h fun t8 h3 =>
 S115_0 D m t0 h3) (
 S115_0 D m t0 h)
def S115 : SFn := fun D m args h u => nou u <| popV args fun t0 args => endA args (S115_1 D m t0 h)
theorem T115_0 (hE : FX x115 D m E) : S115_0 D m = e115_0 (E c115_0 []) := by unfold S115_0; rw [hE c115_0]; kernel_rfl
theorem T115_1 (hE : FX x115 D m E) : S115_1 D m = e115_1 (E c115_e []) := by unfold S115_1; rw [T115_0 hE, hE c115_e]; kernel_rfl
theorem X115 : XTie S115 x115 := X_of fun D m E hE args h u => by unfold S115; rw [T115_1 hE]; kernel_rfl
/- 116 -/
def c116_e : XC := (.s (.oX [.ld p1 q0 .v, .P p2 (.nilck q1) .v, .fa p3 2 q2, .ld p4 q3 tI, .bn p5 .sub q4 (ci 1) tI, .P p6 (.nilck q1) .v, .fa p7 2 q6, .st q7 q5]))
def x116 : XFn := ⟨[.v], true, [], c116_e⟩
def e116_0 (k : St → Res2) (t0 : AV) (h : HP) (u : AMode) : Res2 := k ⟨mkT [(p0, t0)], h, [], u⟩
def S116_0 (D : CallD) (m : Nat) (t0 : AV) (h : HP) (u : AMode) : Res2 :=
 cellC t0 h fun t1 =>
 nilckC t1 fun t2 =>
 faC 2 t2 fun t3 =>
 ldI t3 h fun t4 =>
 let t5 := wrQ .i64 (t4 - (Int.ofNat 1))
 nilckC t1 fun t6 =>
 faC 2 t6 fun t7 =>
 stoC t7 (vI t5) h fun h1 =>
 some (.ret (.tup []) h1, u)
def S116 : SFn := fun D m args h u => popV args fun t0 args => endA args (S116_0 D m t0 h u)
theorem T116_0 (hE : FX x116 D m E) : S116_0 D m = e116_0 (E c116_e []) := by unfold S116_0; rw [hE c116_e]; kernel_rfl
theorem X116 : XTie S116 x116 := X_of fun D m E hE args h u => by unfold S116; rw [T116_0 hE]; kernel_rfl
/- 117 -/
def v117_0 : List Pos := [p4, p6]
def c117_0 : XC := (.sO [.L p45 (.cells 8 q6) .v, .ss 8 q4 q45] (.s .ret))
def v117_1 : List Pos := [p0, p1, p4, p5, p6]
def c117_1b : XC := (.seq (.seq (.oX [.mv p19 q0 .v, .mv p20 q5 .v, .mv p21 q1 tI, .P p22 (.iaddr (.sl 1) q20 q21) .v, .ld p23 q22 .v, .cl p24 75 [q19, q23] .b]) (.cond q24 .skip (.exit 0))) (.block 1 (.sO [.mv p25 q0 .v, .cl p26 50 [q25] .v, .P p27 (.field 1 1 false q26) .s, .mv p7 q27 .s] (.sO [.mv p28 q0 .v, .P p29 (.nilck q28) .v, .fa p30 1 q29, .ld p31 q30 tI, .bn p32 .add q31 (ci 1) tI, .P p33 (.nilck q28) .v, .fa p34 1 q33, .st q34 q32] (.s (.ops true (XL.of [.mv p35 q7 .s, .L p36 (.cells 8 q6) .v, .mv p37 q0 .v, .mv p38 q1 tI, .bn p39 .add q38 (ci 1) tI, .fa p42 7 q6, .ld p43 q42 tI, .o ⟨(some p40), (.call (.fn 117) [q37, q39]), none, [⟨none, .cells 8 q6, p36⟩, ⟨none, .cell q42, p43⟩]⟩ .v, .al p41 (.bsl [(kI 0), (.str []), (.str []), (.int .u32 (.ofNat 0)), (.int .u64 (.ofNat 0)), .nils, (kI 0), (kI 0), (kI 0), (.str []), (.str []), (.int .u32 (.ofNat 0)), (.int .u64 (.ofNat 0)), .nils, (kI 0), (kI 0)] 2 [⟨0, 8, q36⟩, ⟨8, 8, q40⟩]), .P p44 (.build [(kI 0), (.str []), (.str []), (.int .u32 (.ofNat 0)), (.int .u64 (.ofNat 0)), .nils, (kI 0), (kI 0)] [⟨0, 1, (ci 5)⟩, ⟨1, 1, q35⟩, ⟨5, 1, q41⟩, ⟨7, 1, q43⟩]) .v, .ss 8 q6 q44])))))))
def c117_e : XC := (.sO [.al p4 (.new [(kI 0), (.str []), (.str []), (.int .u32 (.ofNat 0)), (.int .u64 (.ofNat 0)), .nils, (kI 0), (kI 0)])] (.sO [.cl p8 145 [] .v, .mv p5 q8 .v] (.seq (.seq (.oX [.mv p9 q1 tI, .mv p10 q5 .v, .P p11 (.lenl q10) tI, .bn p12 .eql q9 q11 .b]) (.cond q12 (.seq (.oX [.mv p13 q0 .v, .cl p14 146 [q13] .v, .ss 8 q4 q14]) .ret) .skip)) (.sO [.mv p15 q0 .v, .mv p16 q1 tI, .bn p17 .add q16 (ci 1) tI, .cl p18 117 [q15, q17] .v, .al p6 (.new [(kI 0), (.str []), (.str []), (.int .u32 (.ofNat 0)), (.int .u64 (.ofNat 0)), .nils, (kI 0), (kI 0)]), .ss 8 q6 q18] (.sj v117_0 (.block 0 (.loop v117_1 c117_1b)) c117_0)))))
def x117 : XFn := ⟨[.v, tI], false, [(.cells 8 p4)], c117_e⟩
def e117_0 (k t4 t6 h) := kN k [(p4, t4), (p6, t6)] h
def S117_0 (D : CallD) (m : Nat) (t4 t6 : AV) (h : HP) : Res2 :=
 cellsC 8 t6 h fun t45 =>
 stsC 8 t4 t45 h fun h10 =>
 cellsC 8 t4 h10 fun t4a =>
 some (.ret t4a h10, .no)
def e117_1 (k t0 t1 t4 t5 t6 h) := kN k [(p0, t0), (p1, (vI t1)), (p4, t4), (p5, t5), (p6, t6)] h
def S117_1b (D : CallD) (m : Nat) (g1 : AV → Int → AV → AV → AV → HP → Res2) (t0 : AV) (t1 : Int) (t4 t5 t6 : AV) (h : HP) : Res2 :=
 iasC 1 t5 (vI t1) fun t22 =>
 cellC t22 h fun t23 =>
 cal D 75 [t0, t23] h fun t24 h11 =>
 asB t24 fun t24a =>
 br t24a (
 cal D 50 [t0] h11 fun t26 h12 =>
 fldC 1 1 false t26 fun vt27 => asS vt27 fun t27 =>
 nilckC t0 fun t29 =>
 faC 1 t29 fun t30 =>
 ldI t30 h12 fun t31 =>
 let t32 := wrQ .i64 (addQ t31 (Int.ofNat 1))
 nilckC t0 fun t33 =>
 faC 1 t33 fun t34 =>
 stoC t34 (vI t32) h12 fun h13 =>
 cellsC 8 t6 h13 fun t36 =>
 let t39 := wrQ .i64 (addQ t1 (Int.ofNat 1))
 faC 7 t6 fun t42 =>
 ldI t42 h13 fun t43 =>
 cal D 117 [t0, (vI t39)] h13 fun t40 h14 =>
 br (again [⟨none, .cells 8 q6, p36⟩, ⟨none, .cell q42, p43⟩] (mkT [(p43, (vI t43)), (p42, t42), (p36, t36), (p6, t6)]) h14) (
 obQ (evA (.bsl [(kI 0), (.str []), (.str []), (.int .u32 (.ofNat 0)), (.int .u64 (.ofNat 0)), .nils, (kI 0), (kI 0), (kI 0), (.str []), (.str []), (.int .u32 (.ofNat 0)), (.int .u64 (.ofNat 0)), .nils, (kI 0), (kI 0)] 2 [⟨0, 8, (.c t36)⟩, ⟨8, 8, (.c t40)⟩]) .leaf) fun r15 =>
 let t41 := vkV r15.2 (HP.nxQ h14)
 let h16 := HP.newQ h14 r15.1
 obQ (evP (.build [(kI 0), (.str []), (.str []), (.int .u32 (.ofNat 0)), (.int .u64 (.ofNat 0)), .nils, (kI 0), (kI 0)] [⟨0, 1, (.c (vI (Int.ofNat 5)))⟩, ⟨1, 1, (.c (vS t27))⟩, ⟨5, 1, (.c t41)⟩, ⟨7, 1, (.c (vI t43))⟩]) .leaf) fun t44 =>
 stsC 8 t6 t44 h16 fun h17 =>
 g1 t0 t1 t4 t5 t6 h17) none) (
 S117_0 D m t4 t6 h11)
def S117_1 (D : CallD) (m : Nat) : AV → Int → AV → AV → AV → HP → Res2 := nrec (fun _ _ _ _ _ _ => none) (fun _ g => S117_1b D m g) m
def e117_2 (k t0 t1 h) := kN k [(p0, t0), (p1, (vI t1))] h
def S117_2 (D : CallD) (m : Nat) (t0 : AV) (t1 : Int) (h : HP) : Res2 :=
 let t4 := AV.ptr (HP.nxQ h) 0
 let h3 := HP.newQ h (.cells true [(kI 0), (.str []), (.str []), (.int .u32 (.ofNat 0)), (.int .u64 (.ofNat 0)), .nils, (kI 0), (kI 0)])
 cal D 145 [] h3 fun t8 h4 =>
 lenC t8 fun vt11 => asI .i64 vt11 fun t11 =>
 let t12 := eqQ t1 t11
 br t12 (
 cal D 146 [t0] h4 fun t14 h5 =>
 stsC 8 t4 t14 h5 fun h6 =>
 cellsC 8 t4 h6 fun t4a =>
 some (.ret t4a h6, .no)) (
 let t17 := wrQ .i64 (addQ t1 (Int.ofNat 1))
 cal D 117 [t0, (vI t17)] h4 fun t18 h7 =>
 let t6 := AV.ptr (HP.nxQ h7) 0
 let h8 := HP.newQ h7 (.cells true [(kI 0), (.str []), (.str []), (.int .u32 (.ofNat 0)), (.int .u64 (.ofNat 0)), .nils, (kI 0), (kI 0)])
 stsC 8 t6 t18 h8 fun h9 =>
 S117_1 D m t0 t1 t4 t8 t6 h9)
def S117 : SFn := fun D m args h u => nou u <| popV args fun t0 args => popI .i64 args fun t1 args => endA args (S117_2 D m t0 t1 h)
theorem T117_0 (hE : FX x117 D m E) : S117_0 D m = e117_0 (E c117_0 []) := by unfold S117_0; rw [hE c117_0]; kernel_rfl
theorem T117_1b (hE : FX x117 D m E) (G1) : S117_1b D m (e117_1 G1) = e117_1 (E c117_1b [.lp v117_1 G1, .blk 0, .sj v117_0 c117_0]) := by unfold S117_1b; rw [T117_0 hE, hE c117_1b]; kernel_rfl
theorem T117_1 (hE : FX x117 D m E) : S117_1 D m = e117_1 (nrec (fun _ => none) (fun _ G1 st => E c117_1b [.lp v117_1 G1, .blk 0, .sj v117_0 c117_0] st) m) :=
  nrec_emb e117_1 (fun _ _ _ _ _ _ => none) (fun g => S117_1b D m g) (fun G1 st => E c117_1b [.lp v117_1 G1, .blk 0, .sj v117_0 c117_0] st) rfl (fun g => T117_1b hE g) m
theorem T117_2 (hE : FX x117 D m E) : S117_2 D m = e117_2 (E c117_e []) := by unfold S117_2; rw [T117_1 hE, hE c117_e]; kernel_rfl
theorem X117 : XTie S117 x117 := X_of fun D m E hE args h u => by unfold S117; rw [T117_2 hE]; kernel_rfl
/- 121 -/
def v121_1 : List Pos := [p3, p4]
def c121_1 : XC := (.sO [.fa p156 6 q3, .ld p157 q156 tI, .bn p158 .neq q157 (ci 0) .b, .fa p159 7 q3, .ld p160 q159 tI, .cl p161 55 [q158, (ci 14), q160] .v] (.sO [.L p162 (.cells 8 q3) .v, .ss 8 q4 q162] (.s .ret)))
def c121_3 : XC := (.cond q146 (.s (.oX [.fa p147 3 q3, .ld p148 q147 tW, .P p149 (.conv (.ii .i64) q148) tI, .fa p150 6 q3, .st q150 q149])) (.s .skip))
def l121_2 : XL := (XL.of [])
def v121_0 : List Pos := [p0, p3, p4]
def c121_0 : XC := (.sO [.fa p32 5 q3, .ld p33 q32 .v, .mv p6 q33 .v] (.sj v121_1 (.sO [.fa p34 0 q3, .ld p35 q34 tI] (.block 2 (.sO [.bn p37 .eql q35 (ci 1) .b, .mv p36 q37 .b] (.cond q36 (.s (.oX [.fa p38 6 q3, .st q38 (ci 1)])) (.sO [.bn p40 .eql q35 (ci 2) .b, .mv p39 q40 .b] (.cond q39 (.s (.oX [.fa p41 6 q3, .st q41 (ci 2)])) (.sO [.bn p43 .eql q35 (ci 3) .b, .mv p42 q43 .b] (.cond q42 (.sO [.mv p45 q0 .v, .fa p46 2 q3, .ld p47 q46 .s, .cl p48 148 [q45, q47] .v, .mv p44 q48 .v, .P p49 (.ext q44 0) .v, .P p50 (.ext q44 1) .b, .al p7 (.new [(.bool false), (.bool false), (.bool false), (.str []), (kI 0), (kI 0), .nils, (.bool false), .nils, (kI 0), .nils, .nils, (.str []), (kI 0), (kI 0), (kI 0), (kI 0), (.str [])]), .ss 18 q7 q49, .mv p8 q50 .b] (.sO [.mv p51 q8 .b, .mv p52 q51 .b, .ge p52 (XL.of [.G p52 true p53 (.faddr 0 q7) .v, .G p52 true p54 (.faddr 0 q53) .v, .o ⟨(some p55), (.l (.cell q54)), (some (p52, true)), []⟩ .b, .G p52 true p56 (.un .not q55) .b, .P p57 (.pick q52 q56 (cb false)) .b]) p57 .b, .fa p58 7 q3, .ld p59 q58 tI, .cl p60 55 [q57, (ci 13), q59] .v] (.seq (.ops true (XL.of [.fa p61 17 q7, .ld p62 q61 .s, .fa p63 0 q7, .fa p64 4 q63, .ld p65 q64 tI, .fa p66 2 q3, .o ⟨none, (.e (.store q66 q62)), none, [⟨none, .cell q64, p65⟩]⟩ .v, .fa p67 6 q3, .st q67 q65])) (.sO [.fa p68 0 q7, .fa p69 5 q68, .ld p70 q69 tI, .bn p71 .gtr q70 (ci 0) .b] (.cond q71 (.s (.oX [.fa p72 0 q7, .fa p73 4 q72, .ld p74 q73 tI, .cl p75 149 [q74] tI, .fa p76 6 q3, .st q76 q75, .fa p77 3 q3, .st q77 (.c (.int .u32 (.ofNat 1)))])) (.s .skip)))))) (.sO [.bn p79 .eql q35 (ci 4) .b, .mv p78 q79 .b] (.cond q78 (.s (.ops true (XL.of [.fa p80 1 q3, .ld p81 q80 .s, .mv p82 q6 .v, .P p83 (.iaddr (.sl 8) q82 (ci 0)) .v, .L p84 (.cells 8 q83) .v, .cl p85 150 [q81, q84] tI, .fa p86 6 q3, .st q86 q85]))) (.sO [.bn p88 .eql q35 (ci 5) .b, .mv p87 q88 .b] (.cond q87 (.s (.oX [.mv p89 q0 .v, .fa p90 1 q3, .ld p91 q90 .s, .mv p92 q6 .v, .cl p93 151 [q89, q91, q92] tI, .fa p94 6 q3, .st q94 q93])) (.sO [.bn p96 .eql q35 (ci 6) .b, .mv p95 q96 .b] (.cond q95 (.sO [.mv p97 q6 .v, .P p98 (.iaddr (.sl 8) q97 (ci 0)) .v, .L p99 (.cells 8 q98) .v, .cl p100 152 [q99] .b, .mv p9 q100 .b] (.seq (.ops true (XL.of [.mv p102 q6 .v, .mv p103 q9 .b, .mv p104 q6 .v, .P p105 (.iaddr (.sl 8) q104 (ci 1)) .v, .L p106 (.cells 8 q105) .v, .mv p107 q6 .v, .P p108 (.iaddr (.sl 8) q107 (ci 0)) .v, .fa p109 6 q108, .ld p110 q109 tI, .cl p111 153 [q103, q106, q110] .v, .mv p101 q111 .v, .P p112 (.ext q101 0) .v, .P p113 (.ext q101 1) .b, .P p114 (.iaddr (.sl 8) q102 (ci 1)) .v, .ss 8 q114 q112, .mv p9 q113 .b])) (.sO [.mv p115 q9 .b] (.cond q115 (.s (.oX [.mv p116 q6 .v, .P p117 (.iaddr (.sl 8) q116 (ci 0)) .v, .fa p118 6 q117, .ld p119 q118 tI, .fa p120 6 q3, .st q120 q119])) (.s .skip))))) (.sO [.bn p122 .eql q35 (ci 8) .b, .mv p121 q122 .b] (.cond q121 (.sO [.mv p123 q6 .v, .P p124 (.iaddr (.sl 8) q123 (ci 1)) .v, .fa p125 6 q124, .ld p126 q125 tI, .bn p127 .eql q126 (ci 1) .b] (.cond q127 (.s (.oX [.mv p128 q6 .v, .P p129 (.iaddr (.sl 8) q128 (ci 0)) .v, .fa p130 6 q129, .ld p131 q130 tI, .cl p132 154 [q131] tI, .fa p133 6 q3, .st q133 q132])) (.s .skip))) (.sO [.bn p135 .eql q35 (ci 9) .b, .mv p134 q135 .b] (.cond q134 (.opq false (XL.pre [.mv p136 q6 .v, .P p137 (.iaddr (.sl 8) q136 (ci 0)) .v, .fa p138 6 q137, .ld p139 q138 tI, .cl p140 82 [q139] .b, .mv p141 q140 .b, .sp p141, .G p141 true p142 (.faddr 3 q3) .v, .o ⟨(some p143), (.l (.cell q142)), (some (p141, true)), []⟩ tW, .G p141 true p144 (.conv (.ii .i64) q143) tI, .o ⟨(some p145), (.call (.fn 82) [q144]), (some (p141, true)), []⟩ .b, .P p146 (.pick q141 q145 (cb false)) .b, .jn p141 [p3, p4, p146]] l121_2) c121_3) (.sO [.bn p152 .eql q35 (ci 7) .b, .mv p151 q152 .b] (.cond q151 (.sO [.mv p153 q0 .v, .L p154 (.cells 8 q3) .v, .cl p155 155 [q153, q154] .v, .ss 8 q4 q155] (.s .ret)) (.s .skip))))))))))))))))))))) c121_1))
def v121_4 : List Pos := [p0, p3, p4, p16, p17]
def c121_4b : XC := (.sO [.bn p18 .lss q17 q16 .b] (.seq (.cond q18 .skip (.exit 0)) (.seq (.block 1 (.seq (.oX [.mv p19 q17 tI, .mv p5 q19 tI]) (.ops true (XL.of [.fa p20 5 q3, .ld p21 q20 .v, .mv p22 q5 tI, .mv p23 q0 .v, .fa p24 5 q3, .ld p25 q24 .v, .mv p26 q5 tI, .P p27 (.iaddr (.sl 8) q25 q26) .v, .L p28 (.cells 8 q27) .v, .o ⟨(some p29), (.call (.fn 121) [q23, q28]), none, [⟨none, .cell q20, p21⟩]⟩ .v, .P p30 (.iaddr (.sl 8) q21 q22) .v, .ss 8 q30 q29])))) (.s (.oX [.bn p31 .add q17 (ci 1) tI, .mv p17 q31 tI])))))
def c121_e : XC := (.sO [.al p3 (.box q1), .al p4 (.new [(kI 0), (.str []), (.str []), (.int .u32 (.ofNat 0)), (.int .u64 (.ofNat 0)), .nils, (kI 0), (kI 0)])] (.sO [.fa p10 5 q3, .ld p11 q10 .v, .cl p12 85 [q11] .v, .fa p13 5 q3, .st q13 q12] (.sj v121_0 (.sO [.fa p14 5 q3, .ld p15 q14 .v, .P p16 (.lenl q15) tI, .mv p17 (ci 0) tI] (.block 0 (.loop v121_4 c121_4b))) c121_0)))
def x121 : XFn := ⟨[.v, .v], false, [(.cells 8 p4)], c121_e⟩
def e121_1 (k t3 t4 h) := kN k [(p3, t3), (p4, t4)] h
def S121_1 (D : CallD) (m : Nat) (t3 t4 : AV) (h : HP) : Res2 :=
 faC 6 t3 fun t156 =>
 ldI t156 h fun t157 =>
 let t158 := notQ (eqQ t157 (Int.ofNat 0))
 faC 7 t3 fun t159 =>
 ldI t159 h fun t160 =>
 cal D 55 [(vB t158), (vI (Int.ofNat 14)), (vI t160)] h fun t161 h10 =>
 cellsC 8 t3 h10 fun t162 =>
 stsC 8 t4 t162 h10 fun h11 =>
 cellsC 8 t4 h11 fun t4a =>
 some (.ret t4a h11, .no)
def e121_2 (k t3 t4 t146 h) := kN k [(p3, t3), (p4, t4), (p146, (vB t146))] h
def S121_2 (D : CallD) (m : Nat) (t3 t4 : AV) (t146 : Bool) (h : HP) : Res2 :=
 br t146 (
 faC 3 t3 fun t147 =>
 ldW t147 h fun t148 =>
 obI .i64 (convV (.ii .i64) (vW t148)) fun t149 =>
 faC 6 t3 fun t150 =>
 stoC t150 (vI t149) h fun h35 =>
 S121_1 D m t3 t4 h35) (
 S121_1 D m t3 t4 h)
def e121_0 (k t0 t3 t4 h) := kN k [(p0, t0), (p3, t3), (p4, t4)] h
def S121_0 (D : CallD) (m : Nat) (t0 t3 t4 : AV) (h : HP) : Res2 :=
 faC 5 t3 fun t32 =>
 cellC t32 h fun t33 =>
 faC 0 t3 fun t34 =>
 ldI t34 h fun t35 =>
 let t37 := eqQ t35 (Int.ofNat 1)
 br t37 (
 faC 6 t3 fun t38 =>
 stoC t38 (vI (Int.ofNat 1)) h fun h12 =>
 S121_1 D m t3 t4 h12) (
 let t40 := eqQ t35 (Int.ofNat 2)
 br t40 (
 faC 6 t3 fun t41 =>
 stoC t41 (vI (Int.ofNat 2)) h fun h13 =>
 S121_1 D m t3 t4 h13) (
 let t43 := eqQ t35 (Int.ofNat 3)
 br t43 (
 faC 2 t3 fun t46 =>
 ldS t46 h fun t47 =>
 cal D 148 [t0, (vS t47)] h fun t48 h14 =>
 extC t48 0 fun t49 =>
 extC t48 1 fun vt50 => asB vt50 fun t50 =>
 let t7 := AV.ptr (HP.nxQ h14) 0
 let h15 := HP.newQ h14 (.cells true [(.bool false), (.bool false), (.bool false), (.str []), (kI 0), (kI 0), .nils, (.bool false), .nils, (kI 0), .nils, .nils, (.str []), (kI 0), (kI 0), (kI 0), (kI 0), (.str [])])
 stsC 18 t7 t49 h15 fun h16 =>
 obB (brV t50 (
 let t53 := (AV.ptr (HP.nxQ h14) (Nat.add 0 0))
 let t54 := (AV.ptr (HP.nxQ h14) (Nat.add (Nat.add 0 0) 0))
 ldBV t54 h16 fun t55 =>
 let t56 := !t55
 some (vB t56)) (
 some (vB false))) fun t57 =>
 faC 7 t3 fun t58 =>
 ldI t58 h16 fun t59 =>
 cal D 55 [(vB t57), (vI (Int.ofNat 13)), (vI t59)] h16 fun t60 h17 =>
 let t61 := (AV.ptr (HP.nxQ h14) (Nat.add 0 17))
 ldS t61 h17 fun t62 =>
 let t63 := (AV.ptr (HP.nxQ h14) (Nat.add 0 0))
 let t64 := (AV.ptr (HP.nxQ h14) (Nat.add (Nat.add 0 0) 4))
 ldI t64 h17 fun t65 =>
 faC 2 t3 fun t66 =>
 stoC t66 (vS t62) h17 fun h18 =>
 br (againE (.store q66 q62) [⟨none, .cell q64, p65⟩] (mkT [(p66, t66), (p65, (vI t65)), (p64, t64)]) h18) (
 faC 6 t3 fun t67 =>
 stoC t67 (vI t65) h18 fun h19 =>
 let t68 := (AV.ptr (HP.nxQ h14) (Nat.add 0 0))
 let t69 := (AV.ptr (HP.nxQ h14) (Nat.add (Nat.add 0 0) 5))
 ldI t69 h19 fun t70 =>
 let t71 := ltQ (Int.ofNat 0) t70
 br t71 (
 let t72 := (AV.ptr (HP.nxQ h14) (Nat.add 0 0))
 let t73 := (AV.ptr (HP.nxQ h14) (Nat.add (Nat.add 0 0) 4))
 ldI t73 h19 fun t74 =>
 cal D 149 [(vI t74)] h19 fun t75 h20 =>
 asI .i64 t75 fun t75a =>
 faC 6 t3 fun t76 =>
 stoC t76 (vI t75a) h20 fun h21 =>
 faC 3 t3 fun t77 =>
 stoC t77 (vW (Int.ofNat 1)) h21 fun h22 =>
 S121_1 D m t3 t4 h22) (
 S121_1 D m t3 t4 h19)) none) (
 let t79 := eqQ t35 (Int.ofNat 4)
 br t79 (
 faC 1 t3 fun t80 =>
 ldS t80 h fun t81 =>
 iasC 8 t33 (vI (Int.ofNat 0)) fun t83 =>
 cellsC 8 t83 h fun t84 =>
 cal D 150 [(vS t81), t84] h fun t85 h23 =>
 asI .i64 t85 fun t85a =>
 faC 6 t3 fun t86 =>
 stoC t86 (vI t85a) h23 fun h24 =>
 S121_1 D m t3 t4 h24) (
 let t88 := eqQ t35 (Int.ofNat 5)
 br t88 (
 faC 1 t3 fun t90 =>
 ldS t90 h fun t91 =>
 cal D 151 [t0, (vS t91), t33] h fun t93 h25 =>
 asI .i64 t93 fun t93a =>
 faC 6 t3 fun t94 =>
 stoC t94 (vI t93a) h25 fun h26 =>
 S121_1 D m t3 t4 h26) (
 let t96 := eqQ t35 (Int.ofNat 6)
 br t96 (
 iasC 8 t33 (vI (Int.ofNat 0)) fun t98 =>
 cellsC 8 t98 h fun t99 =>
 cal D 152 [t99] h fun t100 h27 =>
 asB t100 fun t100a =>
 iasC 8 t33 (vI (Int.ofNat 1)) fun t105 =>
 cellsC 8 t105 h27 fun t106 =>
 iasC 8 t33 (vI (Int.ofNat 0)) fun t108 =>
 faC 6 t108 fun t109 =>
 ldI t109 h27 fun t110 =>
 cal D 153 [(vB t100a), t106, (vI t110)] h27 fun t111 h28 =>
 extC t111 0 fun t112 =>
 extC t111 1 fun vt113 => asB vt113 fun t113 =>
 iasC 8 t33 (vI (Int.ofNat 1)) fun t114 =>
 stsC 8 t114 t112 h28 fun h29 =>
 br t113 (
 iasC 8 t33 (vI (Int.ofNat 0)) fun t117 =>
 faC 6 t117 fun t118 =>
 ldI t118 h29 fun t119 =>
 faC 6 t3 fun t120 =>
 stoC t120 (vI t119) h29 fun h30 =>
 S121_1 D m t3 t4 h30) (
 S121_1 D m t3 t4 h29)) (
 let t122 := eqQ t35 (Int.ofNat 8)
 br t122 (
 iasC 8 t33 (vI (Int.ofNat 1)) fun t124 =>
 faC 6 t124 fun t125 =>
 ldI t125 h fun t126 =>
 let t127 := eqQ t126 (Int.ofNat 1)
 br t127 (
 iasC 8 t33 (vI (Int.ofNat 0)) fun t129 =>
 faC 6 t129 fun t130 =>
 ldI t130 h fun t131 =>
 cal D 154 [(vI t131)] h fun t132 h31 =>
 asI .i64 t132 fun t132a =>
 faC 6 t3 fun t133 =>
 stoC t133 (vI t132a) h31 fun h32 =>
 S121_1 D m t3 t4 h32) (
 S121_1 D m t3 t4 h)) (
 let t135 := eqQ t35 (Int.ofNat 9)
 br t135 (
 iasC 8 t33 (vI (Int.ofNat 0)) fun t137 =>
 faC 6 t137 fun t138 =>
 ldI t138 h fun t139 =>
 cal D 82 [(vI t139)] h fun t140 h33 =>
 asB t140 fun t140a =>
 br t140a (
 faC 3 t3 fun t142 =>
 ldW t142 h33 fun t143 =>
 obI .i64 (convV (.ii .i64) (vW t143)) fun t144 =>
 cal D 82 [(vI t144)] h33 fun t145 h34 =>
 asB t145 fun t145a =>
 S121_2 D m t3 t4 t145a h34) (
 S121_2 D m t3 t4 false h33)) (
 let t152 := eqQ t35 (Int.ofNat 7)
 br t152 (
 cellsC 8 t3 h fun t154 =>
 cal D 155 [t0, t154] h fun t155 h36 =>
 stsC 8 t4 t155 h36 fun h37 =>
 cellsC 8 t4 h37 fun t4a =>
 some (.ret t4a h37, .no)) (
 S121_1 D m t3 t4 h)))))))))
def e121_4 (k t0 t3 t4 t16 t17 h) := kN k [(p0, t0), (p3, t3), (p4, t4), (p16, (vI t16)), (p17, (vI t17))] h
def S121_4b (D : CallD) (m : Nat) (g4 : AV → AV → AV → Int → Int → HP → Res2) (t0 t3 t4 : AV) (t16 t17 : Int) (h : HP) : Res2 :=
 let t18 := ltQ t17 t16
 br t18 (
 faC 5 t3 fun t20 =>
 cellC t20 h fun t21 =>
 faC 5 t3 fun t24 =>
 cellC t24 h fun t25 =>
 iasC 8 t25 (vI t17) fun t27 =>
 cellsC 8 t27 h fun t28 =>
 cal D 121 [t0, t28] h fun t29 h38 =>
 br (again [⟨none, .cell q20, p21⟩] (mkT [(p21, t21), (p20, t20)]) h38) (
 iasC 8 t21 (vI t17) fun t30 =>
 stsC 8 t30 t29 h38 fun h39 =>
 let t31 := wrQ .i64 (addQ t17 (Int.ofNat 1))
 g4 t0 t3 t4 t16 t31 h39) none) (
 S121_0 D m t0 t3 t4 h)
def S121_4 (D : CallD) (m : Nat) : AV → AV → AV → Int → Int → HP → Res2 := nrec (fun _ _ _ _ _ _ => none) (fun _ g => S121_4b D m g) m
def e121_5 (k t0 t1 h) := kN k [(p0, t0), (p1, t1)] h
def S121_5 (D : CallD) (m : Nat) (t0 t1 : AV) (h : HP) : Res2 :=
 let t3 := AV.ptr (HP.nxQ h) 0
 let h6 := HP.newQ h (.cells true (AV.cells t1))
 let t4 := AV.ptr (HP.nxQ h6) 0
 let h7 := HP.newQ h6 (.cells true [(kI 0), (.str []), (.str []), (.int .u32 (.ofNat 0)), (.int .u64 (.ofNat 0)), .nils, (kI 0), (kI 0)])
 let t10 := (AV.ptr (HP.nxQ h) (Nat.add 0 5))
 cellC t10 h7 fun t11 =>
 cal D 85 [t11] h7 fun t12 h8 =>
 let t13 := (AV.ptr (HP.nxQ h) (Nat.add 0 5))
 stoC t13 t12 h8 fun h9 =>
 let t14 := (AV.ptr (HP.nxQ h) (Nat.add 0 5))
 cellC t14 h9 fun t15 =>
 lenC t15 fun vt16 => asI .i64 vt16 fun t16 =>
 S121_4 D m t0 t3 t4 t16 (Int.ofNat 0) h9
def S121 : SFn := fun D m args h u => nou u <| popV args fun t0 args => popV args fun t1 args => endA args (S121_5 D m t0 t1 h)
theorem T121_1 (hE : FX x121 D m E) : S121_1 D m = e121_1 (E c121_1 []) := by unfold S121_1; rw [hE c121_1]; kernel_rfl
theorem T121_2 (hE : FX x121 D m E) : S121_2 D m = e121_2 (E (.opq false l121_2 c121_3) [.blk 2, .sj v121_1 c121_1]) := by unfold S121_2; rw [T121_1 hE, hE (.opq false l121_2 c121_3)]; kernel_rfl
theorem T121_0 (hE : FX x121 D m E) : S121_0 D m = e121_0 (E c121_0 []) := by unfold S121_0; rw [T121_1 hE, T121_2 hE, hE c121_0]; kernel_rfl
theorem T121_4b (hE : FX x121 D m E) (G4) : S121_4b D m (e121_4 G4) = e121_4 (E c121_4b [.lp v121_4 G4, .blk 0, .sj v121_0 c121_0]) := by unfold S121_4b; rw [T121_0 hE, hE c121_4b]; kernel_rfl
theorem T121_4 (hE : FX x121 D m E) : S121_4 D m = e121_4 (nrec (fun _ => none) (fun _ G4 st => E c121_4b [.lp v121_4 G4, .blk 0, .sj v121_0 c121_0] st) m) :=
  nrec_emb e121_4 (fun _ _ _ _ _ _ => none) (fun g => S121_4b D m g) (fun G4 st => E c121_4b [.lp v121_4 G4, .blk 0, .sj v121_0 c121_0] st) rfl (fun g => T121_4b hE g) m
theorem T121_5 (hE : FX x121 D m E) : S121_5 D m = e121_5 (E c121_e []) := by unfold S121_5; rw [T121_4 hE, hE c121_e]; kernel_rfl
theorem X121 : XTie S121 x121 := X_of fun D m E hE args h u => by unfold S121; rw [T121_5 hE]; kernel_rfl
/- 122 -/
def v122_0 : List Pos := [p1, p2, p4]
def c122_0 : XC := (.sO [.L p21 (.cells 8 q2) .v, .fa p22 6 q2, .ld p23 q22 tI, .mv p24 q1 tI, .bn p25 .eql q23 q24 .b, .mv p26 q25 .b, .ge p26 (XL.of [.G p26 true p27 (.mov q1) tI, .G p26 true p28 (.bin .neq q27 (ci 0)) .b, .P p29 (.pick q26 q28 (cb false)) .b]) p29 .b, .ss 8 q4 q21, .mv p5 q29 .b] (.s .ret))
def c122_e : XC := (.sO [.al p2 (.box q0), .al p4 (.new [(kI 0), (.str []), (.str []), (.int .u32 (.ofNat 0)), (.int .u64 (.ofNat 0)), .nils, (kI 0), (kI 0)]), .mv p5 (cb false) .b] (.sj v122_0 (.sO [.mv p6 q1 tI, .cl p7 154 [q6] tI, .bn p8 .neq q7 (ci 0) .b, .mv p9 q8 .b, .ge p9 (XL.of [.G p9 true p10 (.faddr 0 q2) .v, .o ⟨(some p11), (.l (.cell q10)), (some (p9, true)), []⟩ tI, .G p9 true p12 (.bin .eql q11 (ci 1)) .b, .P p13 (.pick q9 q12 (cb false)) .b]) p13 .b, .mv p14 q13 .b, .ge p14 (XL.of [.G p14 true p15 (.faddr 3 q2) .v, .o ⟨(some p16), (.l (.cell q15)), (some (p14, true)), []⟩ tW, .G p14 true p17 (.bin .eql q16 (.c (.int .u32 (.ofNat 0)))) .b, .P p18 (.pick q14 q17 (cb false)) .b]) p18 .b] (.cond q18 (.s (.oX [.mv p19 q1 tI, .fa p20 6 q2, .st q20 q19])) (.s .skip))) c122_0))
def x122 : XFn := ⟨[.v, tI], false, [(.cells 8 p4), (.tmp p5)], c122_e⟩
def e122_0 (k t1 t2 t4 h) := kN k [(p1, (vI t1)), (p2, t2), (p4, t4)] h
def S122_0 (D : CallD) (m : Nat) (t1 : Int) (t2 t4 : AV) (h : HP) : Res2 :=
 cellsC 8 t2 h fun t21 =>
 faC 6 t2 fun t22 =>
 ldI t22 h fun t23 =>
 let t25 := eqQ t23 t1
 obB (brV t25 (
 let t28 := notQ (eqQ t1 (Int.ofNat 0))
 some (vB t28)) (
 some (vB false))) fun t29 =>
 stsC 8 t4 t21 h fun h4 =>
 cellsC 8 t4 h4 fun t4a =>
 some (.ret (.tup [t4a, (vB t29)]) h4, .no)
def e122_1 (k t0 t1 h) := kN k [(p0, t0), (p1, (vI t1))] h
def S122_1 (D : CallD) (m : Nat) (t0 : AV) (t1 : Int) (h : HP) : Res2 :=
 let t2 := AV.ptr (HP.nxQ h) 0
 let h2 := HP.newQ h (.cells true (AV.cells t0))
 let t4 := AV.ptr (HP.nxQ h2) 0
 let h3 := HP.newQ h2 (.cells true [(kI 0), (.str []), (.str []), (.int .u32 (.ofNat 0)), (.int .u64 (.ofNat 0)), .nils, (kI 0), (kI 0)])
 cal D 154 [(vI t1)] h3 fun t7 h5 =>
 asI .i64 t7 fun t7a =>
 let t8 := notQ (eqQ t7a (Int.ofNat 0))
 obB (brV t8 (
 let t10 := (AV.ptr (HP.nxQ h) (Nat.add 0 0))
 ldIV t10 h5 fun t11 =>
 let t12 := eqQ t11 (Int.ofNat 1)
 some (vB t12)) (
 some (vB false))) fun t13 =>
 obB (brV t13 (
 let t15 := (AV.ptr (HP.nxQ h) (Nat.add 0 3))
 ldWV t15 h5 fun t16 =>
 binCV .eql (vW t16) (vW (Int.ofNat 0)) fun vt17 => asBV vt17 fun t17 =>
 some (vB t17)) (
 some (vB false))) fun t18 =>
 br t18 (
 let t20 := (AV.ptr (HP.nxQ h) (Nat.add 0 6))
 stoC t20 (vI t1) h5 fun h6 =>
 S122_0 D m t1 t2 t4 h6) (
 S122_0 D m t1 t2 t4 h5)
def S122 : SFn := fun D m args h u => nou u <| popV args fun t0 args => popI .i64 args fun t1 args => endA args (S122_1 D m t0 t1 h)
theorem T122_0 (hE : FX x122 D m E) : S122_0 D m = e122_0 (E c122_0 []) := by unfold S122_0; rw [hE c122_0]; kernel_rfl
theorem T122_1 (hE : FX x122 D m E) : S122_1 D m = e122_1 (E c122_e []) := by unfold S122_1; rw [T122_0 hE, hE c122_e]; kernel_rfl
theorem X122 : XTie S122 x122 := X_of fun D m E hE args h u => by unfold S122; rw [T122_1 hE]; kernel_rfl
/- 125 -/
def c125_e : XC := (.sO [.al p2 (.box q0), .mv p3 (cb false) .b] (.sO [.fa p4 3 q2, .ld p5 q4 .s, .ld p6 q1 .s, .bn p7 .eql q5 q6 .b, .mv p8 q7 .b, .ge p8 (XL.of [.G p8 true p9 (.faddr 0 q2) .v, .o ⟨(some p10), (.l (.cell q9)), (some (p8, true)), []⟩ .b, .G p8 true p11 (.un .not q10) .b, .P p12 (.pick q8 q11 (cb false)) .b]) p12 .b, .mv p3 q12 .b] (.s .ret)))
def x125 : XFn := ⟨[.v, .v], false, [(.tmp p3)], c125_e⟩
def e125_0 (k t0 t1 h) := kN k [(p0, t0), (p1, t1)] h
def S125_0 (D : CallD) (m : Nat) (t0 t1 : AV) (h : HP) : Res2 :=
 let t2 := AV.ptr (HP.nxQ h) 0
 let h1 := HP.newQ h (.cells true (AV.cells t0))
 let t4 := (AV.ptr (HP.nxQ h) (Nat.add 0 3))
 ldS t4 h1 fun t5 =>
 ldS t1 h1 fun t6 =>
 let t7 := eqL t5 t6
 obB (brV t7 (
 let t9 := (AV.ptr (HP.nxQ h) (Nat.add 0 0))
 ldBV t9 h1 fun t10 =>
 let t11 := !t10
 some (vB t11)) (
 some (vB false))) fun t12 =>
 some (.ret (vB t12) h1, .no)
def S125 : SFn := fun D m args h u => nou u <| popV args fun t0 args => popV args fun t1 args => endA args (S125_0 D m t0 t1 h)
theorem T125_0 (hE : FX x125 D m E) : S125_0 D m = e125_0 (E c125_e []) := by unfold S125_0; rw [hE c125_e]; kernel_rfl
theorem X125 : XTie S125 x125 := X_of fun D m E hE args h u => by unfold S125; rw [T125_0 hE]; kernel_rfl
/- 135 -/
def c135_e : XC := (.sO [.mv p4 (ci 0) tI] (.sO [.mv p5 q0 .s, .mv p6 q1 tC, .P p7 (.xt .ixbyte [q5, q6]) tI, .mv p4 q7 tI] (.s .ret)))
def x135 : XFn := ⟨[.s, tC], false, [(.tmp p4)], c135_e⟩
def e135_0 (k t0 t1 h) := kN k [(p0, (vS t0)), (p1, (vC t1))] h
def S135_0 (D : CallD) (m : Nat) (t0 : LN) (t1 : Int) (h : HP) : Res2 :=
 obI .i64 (evP (.xt .ixbyte [(.c (vS t0)), (.c (vC t1))]) .leaf) fun t7 =>
 some (.ret (vI t7) h, .no)
def S135 : SFn := fun D m args h u => nou u <| popS args fun t0 args => popI .u8 args fun t1 args => endA args (S135_0 D m t0 t1 h)
theorem T135_0 (hE : FX x135 D m E) : S135_0 D m = e135_0 (E c135_e []) := by unfold S135_0; rw [hE c135_e]; kernel_rfl
theorem X135 : XTie S135 x135 := X_of fun D m E hE args h u => by unfold S135; rw [T135_0 hE]; kernel_rfl
/- 136 -/
def c136_e : XC := (.sO [.mv p4 (cb false) .b] (.sO [.mv p5 q0 .s, .P p6 (.lens q5) tI, .mv p7 q1 .s, .P p8 (.lens q7) tI, .bn p9 .geq q6 q8 .b, .mv p10 q9 .b, .ge p10 (XL.of [.G p10 true p11 (.mov q0) .s, .G p10 true p12 (.mov q1) .s, .G p10 true p13 (.lens q12) tI, .G p10 true p14 (.slice .str q11 none (some q13) none) .s, .G p10 true p15 (.mov q1) .s, .G p10 true p16 (.bin .eql q14 q15) .b, .P p17 (.pick q10 q16 (cb false)) .b]) p17 .b, .mv p4 q17 .b] (.s .ret)))
def x136 : XFn := ⟨[.s, .s], false, [(.tmp p4)], c136_e⟩
def e136_0 (k t0 t1 h) := kN k [(p0, (vS t0)), (p1, (vS t1))] h
def S136_0 (D : CallD) (m : Nat) (t0 t1 : LN) (h : HP) : Res2 :=
 let t6 := Int.ofNat (lenL t0)
 let t8 := Int.ofNat (lenL t1)
 let t9 := leQ t8 t6
 obB (brV t9 (
 let t13 := Int.ofNat (lenL t1)
 slCV (vS t0) none (some (vI t13)) fun vt14 => asSV vt14 fun t14 =>
 let t16 := eqL t14 t1
 some (vB t16)) (
 some (vB false))) fun t17 =>
 some (.ret (vB t17) h, .no)
def S136 : SFn := fun D m args h u => nou u <| popS args fun t0 args => popS args fun t1 args => endA args (S136_0 D m t0 t1 h)
theorem T136_0 (hE : FX x136 D m E) : S136_0 D m = e136_0 (E c136_e []) := by unfold S136_0; rw [hE c136_e]; kernel_rfl
theorem X136 : XTie S136 x136 := X_of fun D m E hE args h u => by unfold S136; rw [T136_0 hE]; kernel_rfl
/- 139 -/
def c139_e : XC := (.sO [.mv p6 (.c (.int .u64 (.ofNat 0))) (.i .u64), .mv p7 (.c .nili) .v] (.sO [.mv p11 q0 .s, .mv p12 q1 tI, .mv p13 q2 tI, .cl p14 170 [q11, q12, q13] .v, .mv p10 q14 .v, .P p15 (.ext q10 0) (.i .u64), .P p16 (.ext q10 1) .v, .mv p8 q15 (.i .u64), .mv p9 q16 .v] (.seq (.seq (.oX [.mv p17 q9 .v, .P p18 (.eqn .ifc true q17 (.c .nili)) .b]) (.cond q18 (.seq (.oX [.mv p19 q8 (.i .u64), .mv p20 q0 .s, .mv p21 q1 tI, .mv p22 q2 tI, .mv p23 q9 .v, .cl p24 144 [(.c (.str [80, 97, 114, 115, 101, 85, 105, 110, 116])), q20, q21, q22, q23] .v, .mv p6 q19 (.i .u64), .mv p7 q24 .v]) .ret) .skip)) (.sO [.mv p25 q8 (.i .u64), .mv p6 q25 (.i .u64), .mv p7 (.c .nili) .v] (.s .ret)))))
def x139 : XFn := ⟨[.s, tI, tI], false, [(.tmp p6), (.tmp p7)], c139_e⟩
def e139_0 (k t0 t1 t2 h) := kN k [(p0, (vS t0)), (p1, (vI t1)), (p2, (vI t2))] h
def S139_0 (D : CallD) (m : Nat) (t0 : LN) (t1 t2 : Int) (h : HP) : Res2 :=
 cal D 170 [(vS t0), (vI t1), (vI t2)] h fun t14 h1 =>
 extC t14 0 fun vt15 => asI .u64 vt15 fun t15 =>
 extC t14 1 fun t16 =>
 obB (evP (.eqn .ifc true (.c t16) (.c (.nili : AV))) .leaf) fun t18 =>
 br t18 (
 cal D 144 [(vS ([80, 97, 114, 115, 101, 85, 105, 110, 116] : LN)), (vS t0), (vI t1), (vI t2), t16] h1 fun t24 h2 =>
 some (.ret (.tup [(AV.int .u64 t15), t24]) h2, .no)) (
 some (.ret (.tup [(AV.int .u64 t15), (.nili : AV)]) h1, .no))
def S139 : SFn := fun D m args h u => nou u <| popS args fun t0 args => popI .i64 args fun t1 args => popI .i64 args fun t2 args => endA args (S139_0 D m t0 t1 t2 h)
theorem T139_0 (hE : FX x139 D m E) : S139_0 D m = e139_0 (E c139_e []) := by unfold S139_0; rw [hE c139_e]; kernel_rfl
theorem X139 : XTie S139 x139 := X_of fun D m E hE args h u => by unfold S139; rw [T139_0 hE]; kernel_rfl
/- 143 -/
def v143_0 : List Pos := [p0]
def c143_0 : XC := (.sO [.mv p71 q0 .s, .cl p72 171 [q71, (ci 10), (ci 0)] .v, .mv p70 q72 .v, .P p73 (.ext q70 0) tI, .P p74 (.ext q70 1) .v, .mv p9 q73 tI, .mv p10 q74 .v] (.sO [.mv p75 q9 tI, .mv p76 q10 .v, .mv p2 q75 tI, .mv p3 q76 .v] (.s .ret)))
def v143_3 : List Pos := [p6]
def c143_3 : XC := (.sO [.mv p69 q6 tI, .mv p2 q69 tI, .mv p3 (.c .nili) .v] (.s .ret))
def v143_2 : List Pos := [p5, p6]
def c143_2 : XC := (.sj v143_3 (.sO [.mv p64 q5 .s, .P p65 (.idxs q64 (ci 0)) tC, .bn p66 .eql q65 (.c (.int .u8 (.ofNat 45))) .b] (.cond q66 (.s (.oX [.mv p67 q6 tI, .P p68 (.un .neg q67) tI, .mv p6 q68 tI])) (.s .skip))) c143_3)
def v143_4 : List Pos := [p5, p6, p47, p48, p49]
def c143_4b : XC := (.sO [.bn p50 .lss q49 q48 .b] (.seq (.cond q50 .skip (.exit 0)) (.seq (.block 1 (.seq (.oX [.P p51 (.iaddr (.sl 1) q47 q49) .v, .ld p52 q51 tC, .mv p8 q52 tC]) (.seq (.oX [.mv p53 q8 tC, .bn p54 .sub q53 (.c (.int .u8 (.ofNat 48))) tC, .mv p8 q54 tC]) (.seq (.seq (.oX [.mv p55 q8 tC, .bn p56 .gtr q55 (.c (.int .u8 (.ofNat 9))) .b]) (.cond q56 (.seq (.oX [.P p57 (.mkif 221 (ci 2)) .v, .mv p2 (ci 0) tI, .mv p3 q57 .v]) .ret) .skip)) (.oX [.mv p58 q6 tI, .bn p59 .mul q58 (ci 10) tI, .mv p60 q8 tC, .P p61 (.conv (.ii .i64) q60) tI, .bn p62 .add q59 q61 tI, .mv p6 q62 tI]))))) (.s (.oX [.bn p63 .add q49 (ci 1) tI, .mv p49 q63 tI])))))
def v143_1 : List Pos := [p0, p5]
def c143_1 : XC := (.sO [.mv p6 (ci 0) tI] (.sj v143_2 (.sO [.mv p46 q0 .s, .o ⟨(some p47), (.e (.sb q46)), none, []⟩ .v, .P p48 (.lenl q47) tI, .mv p49 (ci 0) tI] (.block 0 (.loop v143_4 c143_4b))) c143_2))
def c143_e : XC := (.sO [.mv p2 (ci 0) tI, .mv p3 (.c .nili) .v] (.sO [.mv p11 q0 .s, .P p12 (.lens q11) tI, .mv p4 q12 tI] (.sj v143_0 (.sO [.mv p13 (cb false) .b, .ge p13 (XL.of [.G p13 true p14 (.mov q4) tI, .G p13 true p15 (.bin .lss (ci 0) q14) .b, .G p13 true p16 (.mov q15) .b, .ge p16 (XL.of [.G p16 true p17 (.mov q4) tI, .G p16 true p18 (.bin .lss q17 (ci 10)) .b, .G p13 true p19 (.pick q16 q18 (cb false)) .b]) p19 .b, .P p20 (.pick q13 q19 (cb false)) .b]) p20 .b, .mv p21 q20 .b, .ge p21 (XL.of [.G p21 false p22 (.mov (cb true)) .b, .ge p22 (XL.of [.G p22 true p23 (.mov q4) tI, .G p22 true p24 (.bin .lss (ci 0) q23) .b, .G p22 true p25 (.mov q24) .b, .ge p25 (XL.of [.G p25 true p26 (.mov q4) tI, .G p25 true p27 (.bin .lss q26 (ci 19)) .b, .G p22 true p28 (.pick q25 q27 (cb false)) .b]) p28 .b, .G p21 false p29 (.pick q22 q28 (cb false)) .b]) p29 .b, .P p30 (.pick q21 (cb true) q29) .b]) p30 .b] (.cond q30 (.sO [.mv p31 q0 .s, .mv p5 q31 .s] (.sj v143_1 (.sO [.mv p32 q0 .s, .P p33 (.idxs q32 (ci 0)) tC, .bn p34 .eql q33 (.c (.int .u8 (.ofNat 45))) .b, .mv p35 q34 .b, .ge p35 (XL.of [.G p35 false p36 (.mov q0) .s, .G p35 false p37 (.idxs q36 (ci 0)) tC, .G p35 false p38 (.bin .eql q37 (.c (.int .u8 (.ofNat 43)))) .b, .P p39 (.pick q35 (cb true) q38) .b]) p39 .b] (.cond q39 (.sO [.mv p40 q0 .s, .P p41 (.slice .str q40 (some (ci 1)) none none) .s, .mv p0 q41 .s] (.sO [.mv p42 q0 .s, .P p43 (.lens q42) tI, .bn p44 .lss q43 (ci 1) .b] (.cond q44 (.sO [.P p45 (.mkif 221 (ci 2)) .v, .mv p2 (ci 0) tI, .mv p3 q45 .v] (.s .ret)) (.s .skip)))) (.s .skip))) c143_1)) (.s .skip))) c143_0)))
def x143 : XFn := ⟨[.s], false, [(.tmp p2), (.tmp p3)], c143_e⟩
def e143_0 (k t0 h) := kN k [(p0, (vS t0))] h
def S143_0 (D : CallD) (m : Nat) (t0 : LN) (h : HP) : Res2 :=
 cal D 171 [(vS t0), (vI (Int.ofNat 10)), (vI (Int.ofNat 0))] h fun t72 h6 =>
 extC t72 0 fun vt73 => asI .i64 vt73 fun t73 =>
 extC t72 1 fun t74 =>
 some (.ret (.tup [(vI t73), t74]) h6, .no)
def e143_3 (k t6 h) := kN k [(p6, (vI t6))] h
def S143_3 (D : CallD) (m : Nat) (t6 : Int) (h : HP) : Res2 :=
 some (.ret (.tup [(vI t6), (.nili : AV)]) h, .no)
def e143_2 (k t5 t6 h) := kN k [(p5, (vS t5)), (p6, (vI t6))] h
def S143_2 (D : CallD) (m : Nat) (t5 : LN) (t6 : Int) (h : HP) : Res2 :=
 ixC (vS t5) (vI (Int.ofNat 0)) fun vt65 => asI .u8 vt65 fun t65 =>
 let t66 := eqQ t65 (Int.ofNat 45)
 br t66 (
 let t68 := IntKind.wrap .i64 (0 - t6)
 S143_3 D m t68 h) (
 S143_3 D m t6 h)
def e143_4 (k t5 t6 t47 t48 t49 h) := kN k [(p5, (vS t5)), (p6, (vI t6)), (p47, t47), (p48, (vI t48)), (p49, (vI t49))] h
def S143_4b (D : CallD) (m : Nat) (g4 : LN → Int → AV → Int → Int → HP → Res2) (t5 : LN) (t6 : Int) (t47 : AV) (t48 t49 : Int) (h : HP) : Res2 :=
 let t50 := ltQ t49 t48
 br t50 (
 iasC 1 t47 (vI t49) fun t51 =>
 ldC t51 h fun t52 =>
 let t54 := wrQ .u8 (t52 - (Int.ofNat 48))
 let t56 := ltQ (Int.ofNat 9) t54
 br t56 (
 let t57 := (AV.iface 221 (vI (Int.ofNat 2)))
 some (.ret (.tup [(vI (Int.ofNat 0)), t57]) h, .no)) (
 let t59 := wrQ .i64 (t6 * (Int.ofNat 10))
 let t61 := wrapF .i64 t54
 let t62 := wrQ .i64 (addQ t59 t61)
 let t63 := wrQ .i64 (addQ t49 (Int.ofNat 1))
 g4 t5 t62 t47 t48 t63 h)) (
 S143_2 D m t5 t6 h)
def S143_4 (D : CallD) (m : Nat) : LN → Int → AV → Int → Int → HP → Res2 := nrec (fun _ _ _ _ _ _ => none) (fun _ g => S143_4b D m g) m
def e143_1 (k t0 t5 h) := kN k [(p0, (vS t0)), (p5, (vS t5))] h
def S143_1 (D : CallD) (m : Nat) (t0 t5 : LN) (h : HP) : Res2 :=
 eff (.sb (.c (vS t0))) h fun t47 h7 =>
 lenC t47 fun vt48 => asI .i64 vt48 fun t48 =>
 S143_4 D m t5 (Int.ofNat 0) t47 t48 (Int.ofNat 0) h7
def e143_5 (k t0 h) := kN k [(p0, (vS t0))] h
def S143_5 (D : CallD) (m : Nat) (t0 : LN) (h : HP) : Res2 :=
 let t12 := Int.ofNat (lenL t0)
 obB (some (vB false)) fun t20 =>
 obB (brV t20 (
 some (vB true)) (
 obBV (let t24 := ltQ (Int.ofNat 0) t12
 obBV (brV t24 (
 let t27 := ltQ t12 (Int.ofNat 19)
 some (vB t27)) (
 some (vB false))) fun t28 =>
 some (vB t28)) fun t29 =>
 some (vB t29))) fun t30 =>
 br t30 (
 ixC (vS t0) (vI (Int.ofNat 0)) fun vt33 => asI .u8 vt33 fun t33 =>
 let t34 := eqQ t33 (Int.ofNat 45)
 obB (brV t34 (
 some (vB true)) (
 ixCV (vS t0) (vI (Int.ofNat 0)) fun vt37 => asIV .u8 vt37 fun t37 =>
 let t38 := eqQ t37 (Int.ofNat 43)
 some (vB t38))) fun t39 =>
 br t39 (
 slC (vS t0) (some (vI (Int.ofNat 1))) none fun vt41 => asS vt41 fun t41 =>
 let t43 := Int.ofNat (lenL t41)
 let t44 := ltQ t43 (Int.ofNat 1)
 br t44 (
 let t45 := (AV.iface 221 (vI (Int.ofNat 2)))
 some (.ret (.tup [(vI (Int.ofNat 0)), t45]) h, .no)) (
 S143_1 D m t41 t0 h)) (
 S143_1 D m t0 t0 h)) (
 S143_0 D m t0 h)
def S143 : SFn := fun D m args h u => nou u <| popS args fun t0 args => endA args (S143_5 D m t0 h)
theorem T143_0 (hE : FX x143 D m E) : S143_0 D m = e143_0 (E c143_0 []) := by unfold S143_0; rw [hE c143_0]; kernel_rfl
theorem T143_3 (hE : FX x143 D m E) : S143_3 D m = e143_3 (E c143_3 [.sj v143_0 c143_0]) := by unfold S143_3; rw [hE c143_3]; kernel_rfl
theorem T143_2 (hE : FX x143 D m E) : S143_2 D m = e143_2 (E c143_2 [.sj v143_0 c143_0]) := by unfold S143_2; rw [T143_3 hE, hE c143_2]; kernel_rfl
theorem T143_4b (hE : FX x143 D m E) (G4) : S143_4b D m (e143_4 G4) = e143_4 (E c143_4b [.lp v143_4 G4, .blk 0, .sj v143_2 c143_2, .sj v143_0 c143_0]) := by unfold S143_4b; rw [T143_2 hE, hE c143_4b]; kernel_rfl
theorem T143_4 (hE : FX x143 D m E) : S143_4 D m = e143_4 (nrec (fun _ => none) (fun _ G4 st => E c143_4b [.lp v143_4 G4, .blk 0, .sj v143_2 c143_2, .sj v143_0 c143_0] st) m) :=
  nrec_emb e143_4 (fun _ _ _ _ _ _ => none) (fun g => S143_4b D m g) (fun G4 st => E c143_4b [.lp v143_4 G4, .blk 0, .sj v143_2 c143_2, .sj v143_0 c143_0] st) rfl (fun g => T143_4b hE g) m
theorem T143_1 (hE : FX x143 D m E) : S143_1 D m = e143_1 (E c143_1 [.sj v143_0 c143_0]) := by unfold S143_1; rw [T143_4 hE, hE c143_1]; kernel_rfl
theorem T143_5 (hE : FX x143 D m E) : S143_5 D m = e143_5 (E c143_e []) := by unfold S143_5; rw [T143_1 hE, T143_0 hE, hE c143_e]; kernel_rfl
theorem X143 : XTie S143 x143 := X_of fun D m E hE args h u => by unfold S143; rw [T143_5 hE]; kernel_rfl
/- 145 -/
def c145_e : XC := (.sO [.mv p0 (.c .nils) .v] (.sO [.al p1 (.bsl [(.str [])] 1 [⟨0, 1, (.c (.str [124, 124]))⟩]), .al p2 (.bsl [(.str [])] 1 [⟨0, 1, (.c (.str [38, 38]))⟩]), .al p3 (.bsl [(.str [])] 1 [⟨0, 1, (.c (.str [124]))⟩]), .al p4 (.bsl [(.str [])] 1 [⟨0, 1, (.c (.str [94]))⟩]), .al p5 (.bsl [(.str [])] 1 [⟨0, 1, (.c (.str [38]))⟩]), .al p6 (.bsl [(.str []), (.str [])] 2 [⟨0, 1, (.c (.str [61, 61]))⟩, ⟨1, 1, (.c (.str [33, 61]))⟩]), .al p7 (.bsl [(.str []), (.str []), (.str []), (.str [])] 4 [⟨0, 1, (.c (.str [60]))⟩, ⟨1, 1, (.c (.str [60, 61]))⟩, ⟨2, 1, (.c (.str [62]))⟩, ⟨3, 1, (.c (.str [62, 61]))⟩]), .al p8 (.bsl [(.str []), (.str [])] 2 [⟨0, 1, (.c (.str [60, 60]))⟩, ⟨1, 1, (.c (.str [62, 62]))⟩]), .al p9 (.bsl [(.str []), (.str [])] 2 [⟨0, 1, (.c (.str [43]))⟩, ⟨1, 1, (.c (.str [45]))⟩]), .al p10 (.bsl [(.str []), (.str []), (.str [])] 3 [⟨0, 1, (.c (.str [42]))⟩, ⟨1, 1, (.c (.str [47]))⟩, ⟨2, 1, (.c (.str [37]))⟩]), .al p11 (.bsl [.nils, .nils, .nils, .nils, .nils, .nils, .nils, .nils, .nils, .nils] 10 [⟨0, 1, q1⟩, ⟨1, 1, q2⟩, ⟨2, 1, q3⟩, ⟨3, 1, q4⟩, ⟨4, 1, q5⟩, ⟨5, 1, q6⟩, ⟨6, 1, q7⟩, ⟨7, 1, q8⟩, ⟨8, 1, q9⟩, ⟨9, 1, q10⟩]), .mv p0 q11 .v] (.s .ret)))
def x145 : XFn := ⟨[], false, [(.tmp p0)], c145_e⟩
def e145_0 (k h) := kN k [] h
def S145_0 (D : CallD) (m : Nat) (h : HP) : Res2 :=
 let t1 := AV.slice (HP.nxQ h) 0 1 (.exact 1)
 let h1 := HP.newQ h (.cells true [(vS ([124, 124] : LN))])
 let t2 := AV.slice (HP.nxQ h1) 0 1 (.exact 1)
 let h2 := HP.newQ h1 (.cells true [(vS ([38, 38] : LN))])
 let t3 := AV.slice (HP.nxQ h2) 0 1 (.exact 1)
 let h3 := HP.newQ h2 (.cells true [(vS ([124] : LN))])
 let t4 := AV.slice (HP.nxQ h3) 0 1 (.exact 1)
 let h4 := HP.newQ h3 (.cells true [(vS ([94] : LN))])
 let t5 := AV.slice (HP.nxQ h4) 0 1 (.exact 1)
 let h5 := HP.newQ h4 (.cells true [(vS ([38] : LN))])
 let t6 := AV.slice (HP.nxQ h5) 0 2 (.exact 2)
 let h6 := HP.newQ h5 (.cells true [(vS ([61, 61] : LN)), (vS ([33, 61] : LN))])
 let t7 := AV.slice (HP.nxQ h6) 0 4 (.exact 4)
 let h7 := HP.newQ h6 (.cells true [(vS ([60] : LN)), (vS ([60, 61] : LN)), (vS ([62] : LN)), (vS ([62, 61] : LN))])
 let t8 := AV.slice (HP.nxQ h7) 0 2 (.exact 2)
 let h8 := HP.newQ h7 (.cells true [(vS ([60, 60] : LN)), (vS ([62, 62] : LN))])
 let t9 := AV.slice (HP.nxQ h8) 0 2 (.exact 2)
 let h9 := HP.newQ h8 (.cells true [(vS ([43] : LN)), (vS ([45] : LN))])
 let t10 := AV.slice (HP.nxQ h9) 0 3 (.exact 3)
 let h10 := HP.newQ h9 (.cells true [(vS ([42] : LN)), (vS ([47] : LN)), (vS ([37] : LN))])
 let t11 := AV.slice (HP.nxQ h10) 0 10 (.exact 10)
 let h11 := HP.newQ h10 (.cells true [t1, t2, t3, t4, t5, t6, t7, t8, t9, t10])
 some (.ret t11 h11, .no)
def S145 : SFn := fun D m args h u => nou u <| endA args (S145_0 D m h)
theorem T145_0 (hE : FX x145 D m E) : S145_0 D m = e145_0 (E c145_e []) := by unfold S145_0; rw [hE c145_e]; kernel_rfl
theorem X145 : XTie S145 x145 := X_of fun D m E hE args h u => by unfold S145; rw [T145_0 hE]; kernel_rfl
/- 146 -/
def v146_0 : List Pos := [p2, p5]
def c146_0 : XC := (.sO [.L p79 (.cells 8 q5) .v, .ss 8 q2 q79] (.s .ret))
def v146_1 : List Pos := [p1, p2, p5]
def c146_1b : XC := (.seq (.seq (.oX [.ld p68 q1 .v, .cl p69 71 [q68, (.c (.str [91]))] .b]) (.cond q69 .skip (.exit 0))) (.block 1 (.seq (.ops true (XL.of [.L p70 (.cells 8 q5) .v, .ld p71 q1 .v, .fa p74 7 q5, .ld p75 q74 tI, .o ⟨(some p72), (.call (.fn 79) [q71]), none, [⟨none, .cells 8 q5, p70⟩, ⟨none, .cell q74, p75⟩]⟩ .v, .al p73 (.bsl [(kI 0), (.str []), (.str []), (.int .u32 (.ofNat 0)), (.int .u64 (.ofNat 0)), .nils, (kI 0), (kI 0), (kI 0), (.str []), (.str []), (.int .u32 (.ofNat 0)), (.int .u64 (.ofNat 0)), .nils, (kI 0), (kI 0)] 2 [⟨0, 8, q70⟩, ⟨8, 8, q72⟩]), .P p76 (.build [(kI 0), (.str []), (.str []), (.int .u32 (.ofNat 0)), (.int .u64 (.ofNat 0)), .nils, (kI 0), (kI 0)] [⟨0, 1, (ci 8)⟩, ⟨5, 1, q73⟩, ⟨7, 1, q75⟩]) .v, .ss 8 q5 q76])) (.s (.oX [.ld p77 q1 .v, .cl p78 77 [q77, (.c (.str [93]))] .v])))))
def c146_e : XC := (.sO [.al p1 (.box q0), .al p2 (.new [(kI 0), (.str []), (.str []), (.int .u32 (.ofNat 0)), (.int .u64 (.ofNat 0)), .nils, (kI 0), (kI 0)])] (.sO [.ld p6 q1 .v, .cl p7 115 [q6] .v] (.sO [.P p8 (.mkfn 176 [] [q1]) .v, .o ⟨none, (.defer (.val q8) []), none, []⟩ .v] (.sO [.ld p9 q1 .v, .cl p10 50 [q9] .v, .al p3 (.new [(kI 0), (.str []), (kI 0)]), .ss 3 q3 q10] (.seq (.seq (.oX [.ld p11 q1 .v, .al p12 (.bsl [(.str []), (.str []), (.str []), (.str []), (.str [])] 5 [⟨0, 1, (.c (.str [45]))⟩, ⟨1, 1, (.c (.str [33]))⟩, ⟨2, 1, (.c (.str [126]))⟩, ⟨3, 1, (.c (.str [42]))⟩, ⟨4, 1, (.c (.str [38]))⟩]), .cl p13 75 [q11, q12] .b]) (.cond q13 (.seq (.oX [.ld p14 q1 .v, .P p15 (.nilck q14) .v, .fa p16 1 q15, .ld p17 q16 tI, .bn p18 .add q17 (ci 1) tI, .P p19 (.nilck q14) .v, .fa p20 1 q19, .st q20 q18]) (.seq (.ops true (XL.of [.fa p21 1 q3, .ld p22 q21 .s, .ld p23 q1 .v, .fa p26 2 q3, .ld p27 q26 tI, .o ⟨(some p24), (.call (.fn 146) [q23]), none, [⟨none, .cell q21, p22⟩, ⟨none, .cell q26, p27⟩]⟩ .v, .al p25 (.bsl [(kI 0), (.str []), (.str []), (.int .u32 (.ofNat 0)), (.int .u64 (.ofNat 0)), .nils, (kI 0), (kI 0)] 1 [⟨0, 8, q24⟩]), .P p28 (.build [(kI 0), (.str []), (.str []), (.int .u32 (.ofNat 0)), (.int .u64 (.ofNat 0)), .nils, (kI 0), (kI 0)] [⟨0, 1, (ci 4)⟩, ⟨1, 1, q22⟩, ⟨5, 1, q25⟩, ⟨7, 1, q27⟩]) .v, .ss 8 q2 q28])) .ret)) .skip)) (.seq (.seq (.ops true (XL.of [.ld p29 q1 .v, .al p30 (.bsl [(.str [])] 1 [⟨0, 1, (.c (.str [40]))⟩]), .cl p31 75 [q29, q30] .b, .mv p32 q31 .b, .ge p32 (XL.of [.o ⟨(some p33), (.l (.cell q1)), (some (p32, true)), []⟩ .v, .G p32 true p34 (.nilck q33) .v, .G p32 true p35 (.faddr 0 q34) .v, .o ⟨(some p36), (.l (.cell q35)), (some (p32, true)), []⟩ .v, .o ⟨(some p37), (.l (.cell q1)), (some (p32, true)), []⟩ .v, .G p32 true p38 (.nilck q37) .v, .G p32 true p39 (.faddr 1 q38) .v, .o ⟨(some p40), (.l (.cell q39)), (some (p32, true)), []⟩ tI, .G p32 true p41 (.bin .add q40 (ci 1)) tI, .G p32 true p42 (.iaddr (.sl 3) q36 q41) .v, .G p32 true p43 (.faddr 0 q42) .v, .o ⟨(some p44), (.l (.cell q43)), (some (p32, true)), []⟩ tI, .G p32 true p45 (.bin .eql q44 (ci 5)) .b, .P p46 (.pick q32 q45 (cb false)) .b]) p46 .b])) (.cond q46 (.seq (.oX [.ld p47 q1 .v, .P p48 (.nilck q47) .v, .fa p49 1 q48, .ld p50 q49 tI, .bn p51 .add q50 (ci 1) tI, .P p52 (.nilck q47) .v, .fa p53 1 q52, .st q53 q51]) (.seq (.oX [.ld p54 q1 .v, .cl p55 72 [q54] tI, .mv p4 q55 tI]) (.seq (.oX [.ld p56 q1 .v, .cl p57 77 [q56, (.c (.str [41]))] .v]) (.seq (.ops true (XL.of [.mv p58 q4 tI, .P p59 (.conv (.ii .u32) q58) tW, .ld p60 q1 .v, .fa p63 2 q3, .ld p64 q63 tI, .o ⟨(some p61), (.call (.fn 146) [q60]), none, [⟨none, .cell q63, p64⟩]⟩ .v, .al p62 (.bsl [(kI 0), (.str []), (.str []), (.int .u32 (.ofNat 0)), (.int .u64 (.ofNat 0)), .nils, (kI 0), (kI 0)] 1 [⟨0, 8, q61⟩]), .P p65 (.build [(kI 0), (.str []), (.str []), (.int .u32 (.ofNat 0)), (.int .u64 (.ofNat 0)), .nils, (kI 0), (kI 0)] [⟨0, 1, (ci 9)⟩, ⟨3, 1, q59⟩, ⟨5, 1, q62⟩, ⟨7, 1, q64⟩]) .v, .ss 8 q2 q65])) .ret)))) .skip)) (.sO [.ld p66 q1 .v, .cl p67 177 [q66] .v, .al p5 (.new [(kI 0), (.str []), (.str []), (.int .u32 (.ofNat 0)), (.int .u64 (.ofNat 0)), .nils, (kI 0), (kI 0)]), .ss 8 q5 q67] (.sj v146_0 (.block 0 (.loop v146_1 c146_1b)) c146_0))))))))
def x146 : XFn := ⟨[.v], false, [(.cells 8 p2)], c146_e⟩
def e146_0 (k : St → Res2) (t2 t5 : AV) (h : HP) (df : List ADef) : Res2 := k ⟨mkT [(p2, t2), (p5, t5)], h, df, .no⟩
def S146_0 (D : CallD) (m : Nat) (t2 t5 : AV) (h : HP) (df : List ADef) : Res2 :=
 cellsC 8 t5 h fun t79 =>
 stsC 8 t2 t79 h fun h29 =>
 XFn.endOf x146 D (.ret ⟨(mkT [(p2, t2)]), h29, df, .no⟩)
def e146_1 (k : St → Res2) (t1 t2 t5 : AV) (h : HP) (df : List ADef) : Res2 := k ⟨mkT [(p1, t1), (p2, t2), (p5, t5)], h, df, .no⟩
def S146_1b (D : CallD) (m : Nat) (g1 : AV → AV → AV → HP → List ADef → Res2) (t1 t2 t5 : AV) (h : HP) (df : List ADef) : Res2 :=
 cellC t1 h fun t68 =>
 calC D 71 [t68, (vS ([91] : LN))] h (fun t69 h30 =>
 asB t69 fun t69a =>
 br t69a (
 cellsC 8 t5 h30 fun t70 =>
 cellC t1 h30 fun t71 =>
 faC 7 t5 fun t74 =>
 ldI t74 h30 fun t75 =>
 calC D 79 [t71] h30 (fun t72 h31 =>
 br (again [⟨none, .cells 8 q5, p70⟩, ⟨none, .cell q74, p75⟩] (mkT [(p75, (vI t75)), (p74, t74), (p70, t70), (p5, t5)]) h31) (
 obQ (evA (.bsl [(kI 0), (.str []), (.str []), (.int .u32 (.ofNat 0)), (.int .u64 (.ofNat 0)), .nils, (kI 0), (kI 0), (kI 0), (.str []), (.str []), (.int .u32 (.ofNat 0)), (.int .u64 (.ofNat 0)), .nils, (kI 0), (kI 0)] 2 [⟨0, 8, (.c t70)⟩, ⟨8, 8, (.c t72)⟩]) .leaf) fun r32 =>
 let t73 := vkV r32.2 (HP.nxQ h31)
 let h33 := HP.newQ h31 r32.1
 obQ (evP (.build [(kI 0), (.str []), (.str []), (.int .u32 (.ofNat 0)), (.int .u64 (.ofNat 0)), .nils, (kI 0), (kI 0)] [⟨0, 1, (.c (vI (Int.ofNat 8)))⟩, ⟨5, 1, (.c t73)⟩, ⟨7, 1, (.c (vI t75))⟩]) .leaf) fun t76 =>
 stsC 8 t5 t76 h33 fun h34 =>
 cellC t1 h34 fun t77 =>
 calC D 77 [t77, (vS ([93] : LN))] h34 (fun t78 h35 =>
 g1 t1 t2 t5 h35 df) (fun ch35 gh35 => XFn.endOf x146 D (.panic ch35 ⟨(mkT [(p2, t2)]), gh35, df, .no⟩))) none) (fun ch31 gh31 => XFn.endOf x146 D (.panic ch31 ⟨(mkT [(p2, t2)]), gh31, df, .no⟩))) (
 S146_0 D m t2 t5 h30 df)) (fun ch30 gh30 => XFn.endOf x146 D (.panic ch30 ⟨(mkT [(p2, t2)]), gh30, df, .no⟩))
def S146_1 (D : CallD) (m : Nat) : AV → AV → AV → HP → List ADef → Res2 := nrec (fun _ _ _ _ _ => none) (fun _ g => S146_1b D m g) m
def e146_2 (k t0 h) := kN k [(p0, t0)] h
def S146_2 (D : CallD) (m : Nat) (t0 : AV) (h : HP) : Res2 :=
 let t1 := AV.ptr (HP.nxQ h) 0
 let h3 := HP.newQ h (.cells true (AV.cells t0))
 let t2 := AV.ptr (HP.nxQ h3) 0
 let h4 := HP.newQ h3 (.cells true [(kI 0), (.str []), (.str []), (.int .u32 (.ofNat 0)), (.int .u64 (.ofNat 0)), .nils, (kI 0), (kI 0)])
 cellC t1 h4 fun t6 =>
 calC D 115 [t6] h4 (fun t7 h5 =>
 let t8 := (AV.fn 176 [] [t1])
 let d6 : List ADef := ⟨176, [t1]⟩ :: []
 cellC t1 h5 fun t9 =>
 calC D 50 [t9] h5 (fun t10 h7 =>
 let t3 := AV.ptr (HP.nxQ h7) 0
 let h8 := HP.newQ h7 (.cells true [(kI 0), (.str []), (kI 0)])
 stsC 3 t3 t10 h8 fun h9 =>
 cellC t1 h9 fun t11 =>
 let t12 := AV.slice (HP.nxQ h9) 0 5 (.exact 5)
 let h10 := HP.newQ h9 (.cells true [(vS ([45] : LN)), (vS ([33] : LN)), (vS ([126] : LN)), (vS ([42] : LN)), (vS ([38] : LN))])
 calC D 75 [t11, t12] h10 (fun t13 h11 =>
 asB t13 fun t13a =>
 br t13a (
 cellC t1 h11 fun t14 =>
 nilckC t14 fun t15 =>
 faC 1 t15 fun t16 =>
 ldI t16 h11 fun t17 =>
 let t18 := wrQ .i64 (addQ t17 (Int.ofNat 1))
 nilckC t14 fun t19 =>
 faC 1 t19 fun t20 =>
 stoC t20 (vI t18) h11 fun h12 =>
 let t21 := (AV.ptr (HP.nxQ h7) (Nat.add 0 1))
 ldS t21 h12 fun t22 =>
 cellC t1 h12 fun t23 =>
 let t26 := (AV.ptr (HP.nxQ h7) (Nat.add 0 2))
 ldI t26 h12 fun t27 =>
 calC D 146 [t23] h12 (fun t24 h13 =>
 br (again [⟨none, .cell q21, p22⟩, ⟨none, .cell q26, p27⟩] (mkT [(p27, (vI t27)), (p26, t26), (p22, (vS t22)), (p21, t21)]) h13) (
 obQ (evA (.bsl [(kI 0), (.str []), (.str []), (.int .u32 (.ofNat 0)), (.int .u64 (.ofNat 0)), .nils, (kI 0), (kI 0)] 1 [⟨0, 8, (.c t24)⟩]) .leaf) fun r14 =>
 let t25 := vkV r14.2 (HP.nxQ h13)
 let h15 := HP.newQ h13 r14.1
 obQ (evP (.build [(kI 0), (.str []), (.str []), (.int .u32 (.ofNat 0)), (.int .u64 (.ofNat 0)), .nils, (kI 0), (kI 0)] [⟨0, 1, (.c (vI (Int.ofNat 4)))⟩, ⟨1, 1, (.c (vS t22))⟩, ⟨5, 1, (.c t25)⟩, ⟨7, 1, (.c (vI t27))⟩]) .leaf) fun t28 =>
 stsC 8 t2 t28 h15 fun h16 =>
 XFn.endOf x146 D (.ret ⟨(mkT [(p2, t2)]), h16, d6, .no⟩)) none) (fun ch13 gh13 => XFn.endOf x146 D (.panic ch13 ⟨(mkT [(p2, t2)]), gh13, d6, .no⟩))) (
 cellC t1 h11 fun t29 =>
 let t30 := AV.slice (HP.nxQ h11) 0 1 (.exact 1)
 let h17 := HP.newQ h11 (.cells true [(vS ([40] : LN))])
 calC D 75 [t29, t30] h17 (fun t31 h18 =>
 asB t31 fun t31a =>
 obB (brV t31a (
 cellCV t1 h18 fun t33 =>
 nilckCV t33 fun t34 =>
 faCV 0 t34 fun t35 =>
 cellCV t35 h18 fun t36 =>
 cellCV t1 h18 fun t37 =>
 nilckCV t37 fun t38 =>
 faCV 1 t38 fun t39 =>
 ldIV t39 h18 fun t40 =>
 let t41 := wrQ .i64 (addQ t40 (Int.ofNat 1))
 iasCV 3 t36 (vI t41) fun t42 =>
 faCV 0 t42 fun t43 =>
 ldIV t43 h18 fun t44 =>
 let t45 := eqQ t44 (Int.ofNat 5)
 some (vB t45)) (
 some (vB false))) fun t46 =>
 br t46 (
 cellC t1 h18 fun t47 =>
 nilckC t47 fun t48 =>
 faC 1 t48 fun t49 =>
 ldI t49 h18 fun t50 =>
 let t51 := wrQ .i64 (addQ t50 (Int.ofNat 1))
 nilckC t47 fun t52 =>
 faC 1 t52 fun t53 =>
 stoC t53 (vI t51) h18 fun h19 =>
 cellC t1 h19 fun t54 =>
 calC D 72 [t54] h19 (fun t55 h20 =>
 asI .i64 t55 fun t55a =>
 cellC t1 h20 fun t56 =>
 calC D 77 [t56, (vS ([41] : LN))] h20 (fun t57 h21 =>
 let t59 := wrapF .u32 t55a
 cellC t1 h21 fun t60 =>
 let t63 := (AV.ptr (HP.nxQ h7) (Nat.add 0 2))
 ldI t63 h21 fun t64 =>
 calC D 146 [t60] h21 (fun t61 h22 =>
 br (again [⟨none, .cell q63, p64⟩] (mkT [(p64, (vI t64)), (p63, t63)]) h22) (
 obQ (evA (.bsl [(kI 0), (.str []), (.str []), (.int .u32 (.ofNat 0)), (.int .u64 (.ofNat 0)), .nils, (kI 0), (kI 0)] 1 [⟨0, 8, (.c t61)⟩]) .leaf) fun r23 =>
 let t62 := vkV r23.2 (HP.nxQ h22)
 let h24 := HP.newQ h22 r23.1
 obQ (evP (.build [(kI 0), (.str []), (.str []), (.int .u32 (.ofNat 0)), (.int .u64 (.ofNat 0)), .nils, (kI 0), (kI 0)] [⟨0, 1, (.c (vI (Int.ofNat 9)))⟩, ⟨3, 1, (.c (vW t59))⟩, ⟨5, 1, (.c t62)⟩, ⟨7, 1, (.c (vI t64))⟩]) .leaf) fun t65 =>
 stsC 8 t2 t65 h24 fun h25 =>
 XFn.endOf x146 D (.ret ⟨(mkT [(p2, t2)]), h25, d6, .no⟩)) none) (fun ch22 gh22 => XFn.endOf x146 D (.panic ch22 ⟨(mkT [(p2, t2)]), gh22, d6, .no⟩))) (fun ch21 gh21 => XFn.endOf x146 D (.panic ch21 ⟨(mkT [(p2, t2)]), gh21, d6, .no⟩))) (fun ch20 gh20 => XFn.endOf x146 D (.panic ch20 ⟨(mkT [(p2, t2)]), gh20, d6, .no⟩))) (
 cellC t1 h18 fun t66 =>
 calC D 177 [t66] h18 (fun t67 h26 =>
 let t5 := AV.ptr (HP.nxQ h26) 0
 let h27 := HP.newQ h26 (.cells true [(kI 0), (.str []), (.str []), (.int .u32 (.ofNat 0)), (.int .u64 (.ofNat 0)), .nils, (kI 0), (kI 0)])
 stsC 8 t5 t67 h27 fun h28 =>
 S146_1 D m t1 t2 t5 h28 d6) (fun ch26 gh26 => XFn.endOf x146 D (.panic ch26 ⟨(mkT [(p2, t2)]), gh26, d6, .no⟩)))) (fun ch18 gh18 => XFn.endOf x146 D (.panic ch18 ⟨(mkT [(p2, t2)]), gh18, d6, .no⟩)))) (fun ch11 gh11 => XFn.endOf x146 D (.panic ch11 ⟨(mkT [(p2, t2)]), gh11, d6, .no⟩))) (fun ch7 gh7 => XFn.endOf x146 D (.panic ch7 ⟨(mkT [(p2, t2)]), gh7, d6, .no⟩))) (fun ch5 gh5 => XFn.endOf x146 D (.panic ch5 ⟨(mkT [(p2, t2)]), gh5, [], .no⟩))
def S146 : SFn := fun D m args h u => nou u <| popV args fun t0 args => endA args (S146_2 D m t0 h)
theorem T146_0 (hE : FX x146 D m E) : S146_0 D m = e146_0 (E c146_0 []) := by unfold S146_0; rw [hE c146_0]; kernel_rfl
theorem T146_1b (hE : FX x146 D m E) (G1) : S146_1b D m (e146_1 G1) = e146_1 (E c146_1b [.lp v146_1 G1, .blk 0, .sj v146_0 c146_0]) := by unfold S146_1b; rw [T146_0 hE, hE c146_1b]; kernel_rfl
theorem T146_1 (hE : FX x146 D m E) : S146_1 D m = e146_1 (nrec (fun _ => none) (fun _ G1 st => E c146_1b [.lp v146_1 G1, .blk 0, .sj v146_0 c146_0] st) m) :=
  nrec_emb e146_1 (fun _ _ _ _ _ => none) (fun g => S146_1b D m g) (fun G1 st => E c146_1b [.lp v146_1 G1, .blk 0, .sj v146_0 c146_0] st) rfl (fun g => T146_1b hE g) m
theorem T146_2 (hE : FX x146 D m E) : S146_2 D m = e146_2 (E c146_e []) := by unfold S146_2; rw [T146_1 hE, hE c146_e]; kernel_rfl
theorem X146 : XTie S146 x146 := X_of fun D m E hE args h u => by unfold S146; rw [T146_2 hE]; kernel_rfl
/- 149 -/
def c149_e : XC := (.sO [.mv p2 (ci 0) tI] (.seq (.seq (.oX [.mv p3 q0 tI]) (.block 0 (.seq (.oX [.bn p5 .eql q3 (ci 1) .b, .mv p4 q5 .b]) (.cond q4 (.seq (.oX [.mv p2 (ci 3) tI]) .ret) (.seq (.oX [.bn p7 .eql q3 (ci 2) .b, .mv p6 q7 .b]) (.cond q6 (.seq (.oX [.mv p2 (ci 4) tI]) .ret) .skip)))))) (.sO [.mv p2 (ci 0) tI] (.s .ret))))
def x149 : XFn := ⟨[tI], false, [(.tmp p2)], c149_e⟩
def e149_0 (k t0 h) := kN k [(p0, (vI t0))] h
def S149_0 (D : CallD) (m : Nat) (t0 : Int) (h : HP) : Res2 :=
 let t5 := eqQ t0 (Int.ofNat 1)
 br t5 (
 some (.ret (vI (Int.ofNat 3)) h, .no)) (
 let t7 := eqQ t0 (Int.ofNat 2)
 br t7 (
 some (.ret (vI (Int.ofNat 4)) h, .no)) (
 some (.ret (vI (Int.ofNat 0)) h, .no)))
def S149 : SFn := fun D m args h u => nou u <| popI .i64 args fun t0 args => endA args (S149_0 D m t0 h)
theorem T149_0 (hE : FX x149 D m E) : S149_0 D m = e149_0 (E c149_e []) := by unfold S149_0; rw [hE c149_e]; kernel_rfl
theorem X149 : XTie S149 x149 := X_of fun D m E hE args h u => by unfold S149; rw [T149_0 hE]; kernel_rfl
/- 150 -/
def v150_0 : List Pos := []
def c150_0 : XC := (.sO [.mv p4 (ci 0) tI] (.s .ret))
def v150_1 : List Pos := [p3, p5, p13]
def c150_1 : XC := (.cond q13 (.sO [.fa p16 6 q3, .ld p17 q16 tI, .bn p18 .eql q17 (ci 1) .b] (.cond q18 (.sO [.mv p4 (ci 1) tI] (.s .ret)) (.s .skip))) (.sO [.bn p20 .eql q5 (.c (.str [42])) .b, .mv p19 q20 .b] (.cond q19 (.sO [.fa p21 6 q3, .ld p22 q21 tI, .cl p23 154 [q22] tI, .mv p4 q23 tI] (.s .ret)) (.sO [.bn p25 .eql q5 (.c (.str [38])) .b, .mv p24 q25 .b] (.cond q24 (.sO [.L p26 (.cells 8 q3) .v, .cl p27 152 [q26] .b] (.cond q27 (.sO [.fa p28 6 q3, .ld p29 q28 tI, .cl p30 149 [q29] tI, .mv p4 q30 tI] (.s .ret)) (.s .skip))) (.s .skip))))))
def c150_e : XC := (.sO [.al p3 (.box q1), .mv p4 (ci 0) tI] (.sj v150_0 (.sO [.mv p5 q0 .s] (.block 0 (.sO [.bn p7 .eql q5 (.c (.str [45])) .b, .mv p6 q7 .b] (.cond q6 (.sO [.fa p8 6 q3, .ld p9 q8 tI, .cl p10 82 [q9] .b] (.cond q10 (.sO [.fa p11 6 q3, .ld p12 q11 tI, .mv p4 q12 tI] (.s .ret)) (.s .skip))) (.sj v150_1 (.sO [.bn p14 .eql q5 (.c (.str [33])) .b, .mv p13 q14 .b] (.cond q13 (.s .skip) (.s (.oX [.bn p15 .eql q5 (.c (.str [126])) .b, .mv p13 q15 .b])))) c150_1))))) c150_0))
def x150 : XFn := ⟨[.s, .v], false, [(.tmp p4)], c150_e⟩
def e150_0 (k h) := kN k [] h
def S150_0 (D : CallD) (m : Nat) (h : HP) : Res2 :=
 some (.ret (vI (Int.ofNat 0)) h, .no)
def e150_1 (k t3 t5 t13 h) := kN k [(p3, t3), (p5, (vS t5)), (p13, (vB t13))] h
def S150_1 (D : CallD) (m : Nat) (t3 : AV) (t5 : LN) (t13 : Bool) (h : HP) : Res2 :=
 br t13 (
 faC 6 t3 fun t16 =>
 ldI t16 h fun t17 =>
 let t18 := eqQ t17 (Int.ofNat 1)
 br t18 (
 some (.ret (vI (Int.ofNat 1)) h, .no)) (
 S150_0 D m h)) (
 let t20 := eqL t5 ([42] : LN)
 br t20 (
 faC 6 t3 fun t21 =>
 ldI t21 h fun t22 =>
 cal D 154 [(vI t22)] h fun t23 h5 =>
 asI .i64 t23 fun t23a =>
 some (.ret (vI t23a) h5, .no)) (
 let t25 := eqL t5 ([38] : LN)
 br t25 (
 cellsC 8 t3 h fun t26 =>
 cal D 152 [t26] h fun t27 h6 =>
 asB t27 fun t27a =>
 br t27a (
 faC 6 t3 fun t28 =>
 ldI t28 h6 fun t29 =>
 cal D 149 [(vI t29)] h6 fun t30 h7 =>
 asI .i64 t30 fun t30a =>
 some (.ret (vI t30a) h7, .no)) (
 S150_0 D m h6)) (
 S150_0 D m h)))
def e150_2 (k t0 t1 h) := kN k [(p0, (vS t0)), (p1, t1)] h
def S150_2 (D : CallD) (m : Nat) (t0 : LN) (t1 : AV) (h : HP) : Res2 :=
 let t3 := AV.ptr (HP.nxQ h) 0
 let h3 := HP.newQ h (.cells true (AV.cells t1))
 let t7 := eqL t0 ([45] : LN)
 br t7 (
 let t8 := (AV.ptr (HP.nxQ h) (Nat.add 0 6))
 ldI t8 h3 fun t9 =>
 cal D 82 [(vI t9)] h3 fun t10 h4 =>
 asB t10 fun t10a =>
 br t10a (
 let t11 := (AV.ptr (HP.nxQ h) (Nat.add 0 6))
 ldI t11 h4 fun t12 =>
 some (.ret (vI t12) h4, .no)) (
 S150_0 D m h4)) (
 let t14 := eqL t0 ([33] : LN)
 br t14 (
 S150_1 D m t3 t0 t14 h3) (
 let t15 := eqL t0 ([126] : LN)
 S150_1 D m t3 t0 t15 h3))
def S150 : SFn := fun D m args h u => nou u <| popS args fun t0 args => popV args fun t1 args => endA args (S150_2 D m t0 t1 h)
theorem T150_0 (hE : FX x150 D m E) : S150_0 D m = e150_0 (E c150_0 []) := by unfold S150_0; rw [hE c150_0]; kernel_rfl
theorem T150_1 (hE : FX x150 D m E) : S150_1 D m = e150_1 (E c150_1 [.blk 0, .sj v150_0 c150_0]) := by unfold S150_1; rw [T150_0 hE, hE c150_1]; kernel_rfl
theorem T150_2 (hE : FX x150 D m E) : S150_2 D m = e150_2 (E c150_e []) := by unfold S150_2; rw [T150_0 hE, T150_1 hE, hE c150_e]; kernel_rfl
theorem X150 : XTie S150 x150 := X_of fun D m E hE args h u => by unfold S150; rw [T150_2 hE]; kernel_rfl
/- 152 -/
def c152_e : XC := (.sO [.al p1 (.box q0), .mv p2 (cb false) .b] (.sO [.fa p3 0 q1, .ld p4 q3 tI, .bn p5 .eql q4 (ci 3) .b, .mv p6 q5 .b, .ge p6 (XL.of [.G p6 true p7 (.faddr 3 q1) .v, .o ⟨(some p8), (.l (.cell q7)), (some (p6, true)), []⟩ tW, .G p6 true p9 (.bin .eql q8 (.c (.int .u32 (.ofNat 0)))) .b, .P p10 (.pick q6 q9 (cb false)) .b]) p10 .b, .mv p11 q10 .b, .ge p11 (XL.of [.G p11 false p12 (.faddr 0 q1) .v, .o ⟨(some p13), (.l (.cell q12)), (some (p11, false)), []⟩ tI, .G p11 false p14 (.bin .eql q13 (ci 8)) .b, .P p15 (.pick q11 (cb true) q14) .b]) p15 .b, .mv p16 q15 .b, .ge p16 (XL.of [.G p16 false p17 (.faddr 0 q1) .v, .o ⟨(some p18), (.l (.cell q17)), (some (p16, false)), []⟩ tI, .G p16 false p19 (.bin .eql q18 (ci 4)) .b, .G p16 false p20 (.mov q19) .b, .ge p20 (XL.of [.G p20 true p21 (.faddr 1 q1) .v, .o ⟨(some p22), (.l (.cell q21)), (some (p20, true)), []⟩ .s, .G p20 true p23 (.bin .eql q22 (.c (.str [42]))) .b, .G p16 false p24 (.pick q20 q23 (cb false)) .b]) p24 .b, .P p25 (.pick q16 (cb true) q24) .b]) p25 .b, .mv p2 q25 .b] (.s .ret)))
def x152 : XFn := ⟨[.v], false, [(.tmp p2)], c152_e⟩
def e152_0 (k t0 h) := kN k [(p0, t0)] h
def S152_0 (D : CallD) (m : Nat) (t0 : AV) (h : HP) : Res2 :=
 let t1 := AV.ptr (HP.nxQ h) 0
 let h1 := HP.newQ h (.cells true (AV.cells t0))
 let t3 := (AV.ptr (HP.nxQ h) (Nat.add 0 0))
 ldI t3 h1 fun t4 =>
 let t5 := eqQ t4 (Int.ofNat 3)
 obB (brV t5 (
 let t7 := (AV.ptr (HP.nxQ h) (Nat.add 0 3))
 ldWV t7 h1 fun t8 =>
 binCV .eql (vW t8) (vW (Int.ofNat 0)) fun vt9 => asBV vt9 fun t9 =>
 some (vB t9)) (
 some (vB false))) fun t10 =>
 obB (brV t10 (
 some (vB true)) (
 let t12 := (AV.ptr (HP.nxQ h) (Nat.add 0 0))
 ldIV t12 h1 fun t13 =>
 let t14 := eqQ t13 (Int.ofNat 8)
 some (vB t14))) fun t15 =>
 obB (brV t15 (
 some (vB true)) (
 let t17 := (AV.ptr (HP.nxQ h) (Nat.add 0 0))
 ldIV t17 h1 fun t18 =>
 let t19 := eqQ t18 (Int.ofNat 4)
 obBV (brV t19 (
 let t21 := (AV.ptr (HP.nxQ h) (Nat.add 0 1))
 ldSV t21 h1 fun t22 =>
 let t23 := eqL t22 ([42] : LN)
 some (vB t23)) (
 some (vB false))) fun t24 =>
 some (vB t24))) fun t25 =>
 some (.ret (vB t25) h1, .no)
def S152 : SFn := fun D m args h u => nou u <| popV args fun t0 args => endA args (S152_0 D m t0 h)
theorem T152_0 (hE : FX x152 D m E) : S152_0 D m = e152_0 (E c152_e []) := by unfold S152_0; rw [hE c152_e]; kernel_rfl
theorem X152 : XTie S152 x152 := X_of fun D m E hE args h u => by unfold S152; rw [T152_0 hE]; kernel_rfl
/- 154 -/
def c154_e : XC := (.sO [.mv p2 (ci 0) tI] (.seq (.seq (.oX [.mv p3 q0 tI]) (.block 0 (.seq (.oX [.bn p5 .eql q3 (ci 3) .b, .mv p4 q5 .b]) (.cond q4 (.seq (.oX [.mv p2 (ci 1) tI]) .ret) (.seq (.oX [.bn p7 .eql q3 (ci 4) .b, .mv p6 q7 .b]) (.cond q6 (.seq (.oX [.mv p2 (ci 2) tI]) .ret) .skip)))))) (.sO [.mv p2 (ci 0) tI] (.s .ret))))
def x154 : XFn := ⟨[tI], false, [(.tmp p2)], c154_e⟩
def e154_0 (k t0 h) := kN k [(p0, (vI t0))] h
def S154_0 (D : CallD) (m : Nat) (t0 : Int) (h : HP) : Res2 :=
 let t5 := eqQ t0 (Int.ofNat 3)
 br t5 (
 some (.ret (vI (Int.ofNat 1)) h, .no)) (
 let t7 := eqQ t0 (Int.ofNat 4)
 br t7 (
 some (.ret (vI (Int.ofNat 2)) h, .no)) (
 some (.ret (vI (Int.ofNat 0)) h, .no)))
def S154 : SFn := fun D m args h u => nou u <| popI .i64 args fun t0 args => endA args (S154_0 D m t0 h)
theorem T154_0 (hE : FX x154 D m E) : S154_0 D m = e154_0 (E c154_e []) := by unfold S154_0; rw [hE c154_e]; kernel_rfl
theorem X154 : XTie S154 x154 := X_of fun D m E hE args h u => by unfold S154; rw [T154_0 hE]; kernel_rfl
/- 170 -/
def v170_4 : List Pos := [p13]
def c170_4 : XC := (.sO [.mv p171 q13 (.i .u64), .mv p6 q171 (.i .u64), .mv p7 (.c .nili) .v] (.s .ret))
def c170_6 : XC := (.cond q169 (.sO [.P p170 (.mkif 221 (ci 2)) .v, .mv p6 (.c (.int .u64 (.ofNat 0))) (.i .u64), .mv p7 q170 .v] (.s .ret)) (.s .skip))
def l170_5 : XL := (XL.of [])
def v170_3 : List Pos := [p9, p12, p13]
def c170_3 : XC := (.sj v170_4 (.opq false (XL.pre [.mv p164 q12 .b, .mv p165 q164 .b, .sp p165, .G p165 true p166 (.mov q9) .s, .o ⟨(some p167), (.call (.fn 187) [q166]), (some (p165, true)), []⟩ .b, .G p165 true p168 (.un .not q167) .b, .P p169 (.pick q165 q168 (cb false)) .b, .jn p165 [p13, p169]] l170_5) c170_6) c170_4)
def v170_8 : List Pos := [p1, p8, p9, p10, p11, p12, p13, p99, p100, p101]
def c170_8 : XC := (.s (.oX [.bn p163 .add q101 (ci 1) tI, .mv p101 q163 tI]))
def v170_9 : List Pos := [p1, p8, p9, p10, p11, p12, p13, p16, p99, p100, p101]
def c170_9 : XC := (.seq (.seq (.oX [.mv p134 q16 tC, .mv p135 q1 tI, .P p136 (.conv (.ii .u8) q135) tC, .bn p137 .geq q134 q136 .b]) (.cond q137 (.seq (.oX [.P p138 (.mkif 221 (ci 2)) .v, .mv p6 (.c (.int .u64 (.ofNat 0))) (.i .u64), .mv p7 q138 .v]) .ret) .skip)) (.seq (.seq (.oX [.mv p139 q13 (.i .u64), .mv p140 q10 (.i .u64), .bn p141 .geq q139 q140 .b]) (.cond q141 (.seq (.oX [.mv p142 q11 (.i .u64), .P p143 (.mkif 221 (ci 1)) .v, .mv p6 q142 (.i .u64), .mv p7 q143 .v]) .ret) .skip)) (.sO [.mv p144 q13 (.i .u64), .mv p145 q1 tI, .P p146 (.conv (.ii .u64) q145) (.i .u64), .bn p147 .mul q144 q146 (.i .u64), .mv p13 q147 (.i .u64)] (.sO [.mv p148 q13 (.i .u64), .mv p149 q16 tC, .P p150 (.conv (.ii .u64) q149) (.i .u64), .bn p151 .add q148 q150 (.i .u64), .mv p17 q151 (.i .u64)] (.seq (.seq (.oX [.mv p152 q17 (.i .u64), .mv p153 q13 (.i .u64), .bn p154 .lss q152 q153 .b, .mv p155 q154 .b, .ge p155 (XL.of [.G p155 false p156 (.mov q17) (.i .u64), .G p155 false p157 (.mov q11) (.i .u64), .G p155 false p158 (.bin .gtr q156 q157) .b, .P p159 (.pick q155 (cb true) q158) .b]) p159 .b]) (.cond q159 (.seq (.oX [.mv p160 q11 (.i .u64), .P p161 (.mkif 221 (ci 1)) .v, .mv p6 q160 (.i .u64), .mv p7 q161 .v]) .ret) .skip)) (.s (.oX [.mv p162 q17 (.i .u64), .mv p13 q162 (.i .u64)])))))))
def c170_11 : XC := (.cond q121 (.s (.oX [.mv p130 q15 tC, .cl p131 186 [q130] tC, .bn p132 .sub q131 (.c (.int .u8 (.ofNat 97))) tC, .bn p133 .add q132 (.c (.int .u8 (.ofNat 10))) tC, .mv p16 q133 tC])) (.sO [.P p105 (.mkif 221 (ci 2)) .v, .mv p6 (.c (.int .u64 (.ofNat 0))) (.i .u64), .mv p7 q105 .v] (.s .ret)))
def l170_10 : XL := (XL.of [.mv p121 q129 .b])
def v170_7 : List Pos := [p1, p8, p9, p10, p11, p12, p13, p99, p100, p101]
def c170_7b : XC := (.sO [.bn p102 .lss q101 q100 .b] (.seq (.cond q102 .skip (.exit 3)) (.sj v170_8 (.block 4 (.sO [.P p103 (.iaddr (.sl 1) q99 q101) .v, .ld p104 q103 tC, .mv p15 q104 tC] (.sO [.mv p16 (.c (.int .u8 (.ofNat 0))) tC] (.sj v170_9 (.block 5 (.sO [.mv p107 q15 tC, .bn p108 .eql q107 (.c (.int .u8 (.ofNat 95))) .b, .mv p109 q108 .b, .ge p109 (XL.of [.G p109 true p110 (.mov q8) .b, .P p111 (.pick q109 q110 (cb false)) .b]) p111 .b, .mv p106 q111 .b] (.cond q106 (.sO [.mv p12 (cb true) .b] (.s (.exit 4))) (.sO [.mv p113 q15 tC, .bn p114 .leq (.c (.int .u8 (.ofNat 48))) q113 .b, .mv p115 q114 .b, .ge p115 (XL.of [.G p115 true p116 (.mov q15) tC, .G p115 true p117 (.bin .leq q116 (.c (.int .u8 (.ofNat 57)))) .b, .P p118 (.pick q115 q117 (cb false)) .b]) p118 .b, .mv p112 q118 .b] (.cond q112 (.s (.oX [.mv p119 q15 tC, .bn p120 .sub q119 (.c (.int .u8 (.ofNat 48))) tC, .mv p16 q120 tC])) (.opq false (XL.pre [.mv p122 q15 tC, .cl p123 186 [q122] tC, .bn p124 .leq (.c (.int .u8 (.ofNat 97))) q123 .b, .mv p125 q124 .b, .sp p125, .G p125 true p126 (.mov q15) tC, .o ⟨(some p127), (.call (.fn 186) [q126]), (some (p125, true)), []⟩ tC, .G p125 true p128 (.bin .leq q127 (.c (.int .u8 (.ofNat 122)))) .b, .P p129 (.pick q125 q128 (cb false)) .b, .jn p125 [p1, p8, p9, p10, p11, p12, p13, p15, p99, p100, p101, p129]] l170_10) c170_11)))))) c170_9)))) c170_8)))
def v170_2 : List Pos := [p0, p1, p2, p8, p9, p10]
def c170_2 : XC := (.sO [.mv p94 q2 tI, .P p95 (.conv (.ii .u64) q94) (.i .u64), .bn p96 .shl (.c (.int .u64 (.ofNat 1))) q95 (.i .u64), .bn p97 .sub q96 (.c (.int .u64 (.ofNat 1))) (.i .u64), .mv p11 q97 (.i .u64)] (.sO [.mv p12 (cb false) .b] (.sO [.mv p13 (.c (.int .u64 (.ofNat 0))) (.i .u64)] (.sj v170_3 (.sO [.mv p98 q0 .s, .o ⟨(some p99), (.e (.sb q98)), none, []⟩ .v, .P p100 (.lenl q99) tI, .mv p101 (ci 0) tI] (.block 3 (.loop v170_7 c170_7b))) c170_3))))
def v170_1 : List Pos := [p0, p1, p2, p8, p9]
def c170_1 : XC := (.sO [.mv p10 (.c (.int .u64 (.ofNat 0))) (.i .u64)] (.sj v170_2 (.sO [.mv p85 q1 tI] (.block 2 (.sO [.bn p91 .eql q85 (ci 10) .b, .mv p90 q91 .b] (.cond q90 (.s (.oX [.mv p10 (.c (.int .u64 (.ofNat 1844674407370955162))) (.i .u64)])) (.sO [.bn p93 .eql q85 (ci 16) .b, .mv p92 q93 .b] (.cond q92 (.s (.oX [.mv p10 (.c (.int .u64 (.ofNat 1152921504606846976))) (.i .u64)])) (.s (.oX [.mv p86 q1 tI, .P p87 (.conv (.ii .u64) q86) (.i .u64), .bn p88 .quo (.c (.int .u64 (.ofNat 18446744073709551615))) q87 (.i .u64), .bn p89 .add q88 (.c (.int .u64 (.ofNat 1))) (.i .u64), .mv p10 q89 (.i .u64)])))))))) c170_2))
def v170_0 : List Pos := [p0, p1, p2, p8, p9]
def c170_0 : XC := (.sj v170_1 (.sO [.mv p76 q2 tI, .bn p77 .eql q76 (ci 0) .b] (.cond q77 (.s (.oX [.mv p2 (ci 64) tI])) (.sO [.mv p78 q2 tI, .bn p79 .lss q78 (ci 0) .b, .mv p80 q79 .b, .ge p80 (XL.of [.G p80 false p81 (.mov q2) tI, .G p80 false p82 (.bin .gtr q81 (ci 64)) .b, .P p83 (.pick q80 (cb true) q82) .b]) p83 .b] (.cond q83 (.sO [.P p84 (.mkif 221 (ci 4)) .v, .mv p6 (.c (.int .u64 (.ofNat 0))) (.i .u64), .mv p7 q84 .v] (.s .ret)) (.s .skip))))) c170_1)
def c170_15 : XC := (.cond q64 (.sO [.mv p1 (ci 16) tI] (.s (.oX [.mv p74 q0 .s, .P p75 (.slice .str q74 (some (ci 2)) none none) .s, .mv p0 q75 .s]))) (.sO [.mv p1 (ci 8) tI] (.s (.oX [.mv p38 q0 .s, .P p39 (.slice .str q38 (some (ci 1)) none none) .s, .mv p0 q39 .s]))))
def l170_14 : XL := (XL.of [.mv p64 q73 .b])
def c170_16 : XC := (.cond q52 (.sO [.mv p1 (ci 8) tI] (.s (.oX [.mv p62 q0 .s, .P p63 (.slice .str q62 (some (ci 2)) none none) .s, .mv p0 q63 .s]))) (.opq false (XL.pre [.mv p65 q0 .s, .P p66 (.lens q65) tI, .bn p67 .geq q66 (ci 3) .b, .mv p68 q67 .b, .sp p68, .G p68 true p69 (.mov q0) .s, .G p68 true p70 (.idxs q69 (ci 1)) tC, .o ⟨(some p71), (.call (.fn 186) [q70]), (some (p68, true)), []⟩ tC, .G p68 true p72 (.bin .eql q71 (.c (.int .u8 (.ofNat 120)))) .b, .P p73 (.pick q68 q72 (cb false)) .b, .jn p68 [p0, p2, p8, p9, p73]] l170_14) c170_15))
def l170_13 : XL := (XL.of [.mv p52 q61 .b])
def c170_17 : XC := (.cond q40 (.sO [.mv p1 (ci 2) tI] (.s (.oX [.mv p50 q0 .s, .P p51 (.slice .str q50 (some (ci 2)) none none) .s, .mv p0 q51 .s]))) (.opq false (XL.pre [.mv p53 q0 .s, .P p54 (.lens q53) tI, .bn p55 .geq q54 (ci 3) .b, .mv p56 q55 .b, .sp p56, .G p56 true p57 (.mov q0) .s, .G p56 true p58 (.idxs q57 (ci 1)) tC, .o ⟨(some p59), (.call (.fn 186) [q58]), (some (p56, true)), []⟩ tC, .G p56 true p60 (.bin .eql q59 (.c (.int .u8 (.ofNat 111)))) .b, .P p61 (.pick q56 q60 (cb false)) .b, .jn p56 [p0, p2, p8, p9, p61]] l170_13) c170_16))
def l170_12 : XL := (XL.of [.mv p40 q49 .b])
def c170_e : XC := (.sO [.mv p6 (.c (.int .u64 (.ofNat 0))) (.i .u64), .mv p7 (.c .nili) .v] (.seq (.seq (.oX [.mv p18 q0 .s, .bn p19 .eql q18 (.c (.str [])) .b]) (.cond q19 (.seq (.oX [.P p20 (.mkif 221 (ci 2)) .v, .mv p6 (.c (.int .u64 (.ofNat 0))) (.i .u64), .mv p7 q20 .v]) .ret) .skip)) (.sO [.mv p21 q1 tI, .bn p22 .eql q21 (ci 0) .b, .mv p8 q22 .b] (.sO [.mv p23 q0 .s, .mv p9 q23 .s] (.sj v170_0 (.block 0 (.sO [.mv p26 q1 tI, .bn p27 .leq (ci 2) q26 .b, .mv p28 q27 .b, .ge p28 (XL.of [.G p28 true p29 (.mov q1) tI, .G p28 true p30 (.bin .leq q29 (ci 36)) .b, .P p31 (.pick q28 q30 (cb false)) .b]) p31 .b, .mv p25 q31 .b] (.cond q25 (.s .skip) (.sO [.mv p33 q1 tI, .bn p34 .eql q33 (ci 0) .b, .mv p32 q34 .b] (.cond q32 (.sO [.mv p1 (ci 10) tI] (.sO [.mv p35 q0 .s, .P p36 (.idxs q35 (ci 0)) tC, .bn p37 .eql q36 (.c (.int .u8 (.ofNat 48))) .b] (.cond q37 (.block 1 (.opq false (XL.pre [.mv p41 q0 .s, .P p42 (.lens q41) tI, .bn p43 .geq q42 (ci 3) .b, .mv p44 q43 .b, .sp p44, .G p44 true p45 (.mov q0) .s, .G p44 true p46 (.idxs q45 (ci 1)) tC, .o ⟨(some p47), (.call (.fn 186) [q46]), (some (p44, true)), []⟩ tC, .G p44 true p48 (.bin .eql q47 (.c (.int .u8 (.ofNat 98)))) .b, .P p49 (.pick q44 q48 (cb false)) .b, .jn p44 [p0, p2, p8, p9, p49]] l170_12) c170_17)) (.s .skip)))) (.sO [.P p24 (.mkif 221 (ci 3)) .v, .mv p6 (.c (.int .u64 (.ofNat 0))) (.i .u64), .mv p7 q24 .v] (.s .ret))))))) c170_0)))))
def x170 : XFn := ⟨[.s, tI, tI], false, [(.tmp p6), (.tmp p7)], c170_e⟩
def e170_4 (k t13 h) := kN k [(p13, (AV.int .u64 t13))] h
def S170_4 (D : CallD) (m : Nat) (t13 : Int) (h : HP) : Res2 :=
 some (.ret (.tup [(AV.int .u64 t13), (.nili : AV)]) h, .no)
def e170_5 (k t13 t169 h) := kN k [(p13, (AV.int .u64 t13)), (p169, (vB t169))] h
def S170_5 (D : CallD) (m : Nat) (t13 : Int) (t169 : Bool) (h : HP) : Res2 :=
 br t169 (
 let t170 := (AV.iface 221 (vI (Int.ofNat 2)))
 some (.ret (.tup [(AV.int .u64 (Int.ofNat 0)), t170]) h, .no)) (
 S170_4 D m t13 h)
def e170_3 (k t9 t12 t13 h) := kN k [(p9, (vS t9)), (p12, (vB t12)), (p13, (AV.int .u64 t13))] h
def S170_3 (D : CallD) (m : Nat) (t9 : LN) (t12 : Bool) (t13 : Int) (h : HP) : Res2 :=
 br t12 (
 cal D 187 [(vS t9)] h fun t167 h19 =>
 asB t167 fun t167a =>
 let t168 := !t167a
 S170_5 D m t13 t168 h19) (
 S170_5 D m t13 false h)
def e170_8 (k t1 t8 t9 t10 t11 t12 t13 t99 t100 t101 h) := kN k [(p1, (vI t1)), (p8, (vB t8)), (p9, (vS t9)), (p10, (AV.int .u64 t10)), (p11, (AV.int .u64 t11)), (p12, (vB t12)), (p13, (AV.int .u64 t13)), (p99, t99), (p100, (vI t100)), (p101, (vI t101))] h
def S170_8 (D : CallD) (m : Nat) (g7 : Int → Bool → LN → Int → Int → Bool → Int → AV → Int → Int → HP → Res2) (t1 : Int) (t8 : Bool) (t9 : LN) (t10 t11 : Int) (t12 : Bool) (t13 : Int) (t99 : AV) (t100 t101 : Int) (h : HP) : Res2 :=
 let t163 := wrQ .i64 (addQ t101 (Int.ofNat 1))
 g7 t1 t8 t9 t10 t11 t12 t13 t99 t100 t163 h
def e170_9 (k t1 t8 t9 t10 t11 t12 t13 t16 t99 t100 t101 h) := kN k [(p1, (vI t1)), (p8, (vB t8)), (p9, (vS t9)), (p10, (AV.int .u64 t10)), (p11, (AV.int .u64 t11)), (p12, (vB t12)), (p13, (AV.int .u64 t13)), (p16, (vC t16)), (p99, t99), (p100, (vI t100)), (p101, (vI t101))] h
def S170_9 (D : CallD) (m : Nat) (g7 : Int → Bool → LN → Int → Int → Bool → Int → AV → Int → Int → HP → Res2) (t1 : Int) (t8 : Bool) (t9 : LN) (t10 t11 : Int) (t12 : Bool) (t13 t16 : Int) (t99 : AV) (t100 t101 : Int) (h : HP) : Res2 :=
 let t136 := wrapF .u8 t1
 let t137 := leQ t136 t16
 br t137 (
 let t138 := (AV.iface 221 (vI (Int.ofNat 2)))
 some (.ret (.tup [(AV.int .u64 (Int.ofNat 0)), t138]) h, .no)) (
 let t141 := leQ t10 t13
 br t141 (
 let t143 := (AV.iface 221 (vI (Int.ofNat 1)))
 some (.ret (.tup [(AV.int .u64 t11), t143]) h, .no)) (
 let t146 := wrapF .u64 t1
 let t147 := wrQ .u64 (t13 * t146)
 let t150 := wrapF .u64 t16
 let t151 := wrQ .u64 (addQ t147 t150)
 let t154 := ltQ t151 t147
 obB (brV t154 (
 some (vB true)) (
 let t158 := ltQ t11 t151
 some (vB t158))) fun t159 =>
 br t159 (
 let t161 := (AV.iface 221 (vI (Int.ofNat 1)))
 some (.ret (.tup [(AV.int .u64 t11), t161]) h, .no)) (
 S170_8 D m g7 t1 t8 t9 t10 t11 t12 t151 t99 t100 t101 h)))
def e170_10 (k t1 t8 t9 t10 t11 t12 t13 t15 t99 t100 t101 t129 h) := kN k [(p1, (vI t1)), (p8, (vB t8)), (p9, (vS t9)), (p10, (AV.int .u64 t10)), (p11, (AV.int .u64 t11)), (p12, (vB t12)), (p13, (AV.int .u64 t13)), (p15, (vC t15)), (p99, t99), (p100, (vI t100)), (p101, (vI t101)), (p129, (vB t129))] h
def S170_10 (D : CallD) (m : Nat) (g7 : Int → Bool → LN → Int → Int → Bool → Int → AV → Int → Int → HP → Res2) (t1 : Int) (t8 : Bool) (t9 : LN) (t10 t11 : Int) (t12 : Bool) (t13 t15 : Int) (t99 : AV) (t100 t101 : Int) (t129 : Bool) (h : HP) : Res2 :=
 br t129 (
 cal D 186 [(vC t15)] h fun t131 h23 =>
 asI .u8 t131 fun t131a =>
 let t132 := wrQ .u8 (t131a - (Int.ofNat 97))
 let t133 := wrQ .u8 (addQ t132 (Int.ofNat 10))
 S170_9 D m g7 t1 t8 t9 t10 t11 t12 t13 t133 t99 t100 t101 h23) (
 let t105 := (AV.iface 221 (vI (Int.ofNat 2)))
 some (.ret (.tup [(AV.int .u64 (Int.ofNat 0)), t105]) h, .no))
def e170_7 (k t1 t8 t9 t10 t11 t12 t13 t99 t100 t101 h) := kN k [(p1, (vI t1)), (p8, (vB t8)), (p9, (vS t9)), (p10, (AV.int .u64 t10)), (p11, (AV.int .u64 t11)), (p12, (vB t12)), (p13, (AV.int .u64 t13)), (p99, t99), (p100, (vI t100)), (p101, (vI t101))] h
def S170_7b (D : CallD) (m : Nat) (g7 : Int → Bool → LN → Int → Int → Bool → Int → AV → Int → Int → HP → Res2) (t1 : Int) (t8 : Bool) (t9 : LN) (t10 t11 : Int) (t12 : Bool) (t13 : Int) (t99 : AV) (t100 t101 : Int) (h : HP) : Res2 :=
 let t102 := ltQ t101 t100
 br t102 (
 iasC 1 t99 (vI t101) fun t103 =>
 ldC t103 h fun t104 =>
 let t108 := eqQ t104 (Int.ofNat 95)
 obB (brV t108 (
 some (vB t8)) (
 some (vB false))) fun t111 =>
 br t111 (
 S170_8 D m g7 t1 t8 t9 t10 t11 true t13 t99 t100 t101 h) (
 let t114 := leQ (Int.ofNat 48) t104
 obB (brV t114 (
 let t117 := leQ t104 (Int.ofNat 57)
 some (vB t117)) (
 some (vB false))) fun t118 =>
 br t118 (
 let t120 := wrQ .u8 (t104 - (Int.ofNat 48))
 S170_9 D m g7 t1 t8 t9 t10 t11 t12 t13 t120 t99 t100 t101 h) (
 cal D 186 [(vC t104)] h fun t123 h21 =>
 asI .u8 t123 fun t123a =>
 let t124 := leQ (Int.ofNat 97) t123a
 br t124 (
 cal D 186 [(vC t104)] h21 fun t127 h22 =>
 asI .u8 t127 fun t127a =>
 let t128 := leQ t127a (Int.ofNat 122)
 S170_10 D m g7 t1 t8 t9 t10 t11 t12 t13 t104 t99 t100 t101 t128 h22) (
 S170_10 D m g7 t1 t8 t9 t10 t11 t12 t13 t104 t99 t100 t101 false h21)))) (
 S170_3 D m t9 t12 t13 h)
def S170_7 (D : CallD) (m : Nat) : Int → Bool → LN → Int → Int → Bool → Int → AV → Int → Int → HP → Res2 := nrec (fun _ _ _ _ _ _ _ _ _ _ _ => none) (fun _ g => S170_7b D m g) m
def e170_2 (k t0 t1 t2 t8 t9 t10 h) := kN k [(p0, (vS t0)), (p1, (vI t1)), (p2, (vI t2)), (p8, (vB t8)), (p9, (vS t9)), (p10, (AV.int .u64 t10))] h
def S170_2 (D : CallD) (m : Nat) (t0 : LN) (t1 t2 : Int) (t8 : Bool) (t9 : LN) (t10 : Int) (h : HP) : Res2 :=
 let t95 := wrapF .u64 t2
 obI .u64 (shiftF .shl .u64 (Int.ofNat 1) t95) fun t96 =>
 let t97 := wrQ .u64 (t96 - (Int.ofNat 1))
 eff (.sb (.c (vS t0))) h fun t99 h20 =>
 lenC t99 fun vt100 => asI .i64 vt100 fun t100 =>
 S170_7 D m t1 t8 t9 t10 t97 false (Int.ofNat 0) t99 t100 (Int.ofNat 0) h20
def e170_1 (k t0 t1 t2 t8 t9 h) := kN k [(p0, (vS t0)), (p1, (vI t1)), (p2, (vI t2)), (p8, (vB t8)), (p9, (vS t9))] h
def S170_1 (D : CallD) (m : Nat) (t0 : LN) (t1 t2 : Int) (t8 : Bool) (t9 : LN) (h : HP) : Res2 :=
 let t91 := eqQ t1 (Int.ofNat 10)
 br t91 (
 S170_2 D m t0 t1 t2 t8 t9 (Int.ofNat 1844674407370955162) h) (
 let t93 := eqQ t1 (Int.ofNat 16)
 br t93 (
 S170_2 D m t0 t1 t2 t8 t9 (Int.ofNat 1152921504606846976) h) (
 let t87 := wrapF .u64 t1
 obI .u64 (intBin .quo .u64 (Int.ofNat 18446744073709551615) t87) fun t88 =>
 let t89 := wrQ .u64 (addQ t88 (Int.ofNat 1))
 S170_2 D m t0 t1 t2 t8 t9 t89 h))
def e170_0 (k t0 t1 t2 t8 t9 h) := kN k [(p0, (vS t0)), (p1, (vI t1)), (p2, (vI t2)), (p8, (vB t8)), (p9, (vS t9))] h
def S170_0 (D : CallD) (m : Nat) (t0 : LN) (t1 t2 : Int) (t8 : Bool) (t9 : LN) (h : HP) : Res2 :=
 let t77 := eqQ t2 (Int.ofNat 0)
 br t77 (
 S170_1 D m t0 t1 (Int.ofNat 64) t8 t9 h) (
 let t79 := ltQ t2 (Int.ofNat 0)
 obB (brV t79 (
 some (vB true)) (
 let t82 := ltQ (Int.ofNat 64) t2
 some (vB t82))) fun t83 =>
 br t83 (
 let t84 := (AV.iface 221 (vI (Int.ofNat 4)))
 some (.ret (.tup [(AV.int .u64 (Int.ofNat 0)), t84]) h, .no)) (
 S170_1 D m t0 t1 t2 t8 t9 h))
def e170_14 (k t0 t2 t8 t9 t73 h) := kN k [(p0, (vS t0)), (p2, (vI t2)), (p8, (vB t8)), (p9, (vS t9)), (p73, (vB t73))] h
def S170_14 (D : CallD) (m : Nat) (t0 : LN) (t2 : Int) (t8 : Bool) (t9 : LN) (t73 : Bool) (h : HP) : Res2 :=
 br t73 (
 slC (vS t0) (some (vI (Int.ofNat 2))) none fun vt75 => asS vt75 fun t75 =>
 S170_0 D m t75 (Int.ofNat 16) t2 t8 t9 h) (
 slC (vS t0) (some (vI (Int.ofNat 1))) none fun vt39 => asS vt39 fun t39 =>
 S170_0 D m t39 (Int.ofNat 8) t2 t8 t9 h)
def e170_13 (k t0 t2 t8 t9 t61 h) := kN k [(p0, (vS t0)), (p2, (vI t2)), (p8, (vB t8)), (p9, (vS t9)), (p61, (vB t61))] h
def S170_13 (D : CallD) (m : Nat) (t0 : LN) (t2 : Int) (t8 : Bool) (t9 : LN) (t61 : Bool) (h : HP) : Res2 :=
 br t61 (
 slC (vS t0) (some (vI (Int.ofNat 2))) none fun vt63 => asS vt63 fun t63 =>
 S170_0 D m t63 (Int.ofNat 8) t2 t8 t9 h) (
 let t66 := Int.ofNat (lenL t0)
 let t67 := leQ (Int.ofNat 3) t66
 br t67 (
 ixC (vS t0) (vI (Int.ofNat 1)) fun vt70 => asI .u8 vt70 fun t70 =>
 cal D 186 [(vC t70)] h fun t71 h26 =>
 asI .u8 t71 fun t71a =>
 let t72 := eqQ t71a (Int.ofNat 120)
 S170_14 D m t0 t2 t8 t9 t72 h26) (
 S170_14 D m t0 t2 t8 t9 false h))
def e170_12 (k t0 t2 t8 t9 t49 h) := kN k [(p0, (vS t0)), (p2, (vI t2)), (p8, (vB t8)), (p9, (vS t9)), (p49, (vB t49))] h
def S170_12 (D : CallD) (m : Nat) (t0 : LN) (t2 : Int) (t8 : Bool) (t9 : LN) (t49 : Bool) (h : HP) : Res2 :=
 br t49 (
 slC (vS t0) (some (vI (Int.ofNat 2))) none fun vt51 => asS vt51 fun t51 =>
 S170_0 D m t51 (Int.ofNat 2) t2 t8 t9 h) (
 let t54 := Int.ofNat (lenL t0)
 let t55 := leQ (Int.ofNat 3) t54
 br t55 (
 ixC (vS t0) (vI (Int.ofNat 1)) fun vt58 => asI .u8 vt58 fun t58 =>
 cal D 186 [(vC t58)] h fun t59 h25 =>
 asI .u8 t59 fun t59a =>
 let t60 := eqQ t59a (Int.ofNat 111)
 S170_13 D m t0 t2 t8 t9 t60 h25) (
 S170_13 D m t0 t2 t8 t9 false h))
def e170_18 (k t0 t1 t2 h) := kN k [(p0, (vS t0)), (p1, (vI t1)), (p2, (vI t2))] h
def S170_18 (D : CallD) (m : Nat) (t0 : LN) (t1 t2 : Int) (h : HP) : Res2 :=
 let t19 := eqL t0 ([] : LN)
 br t19 (
 let t20 := (AV.iface 221 (vI (Int.ofNat 2)))
 some (.ret (.tup [(AV.int .u64 (Int.ofNat 0)), t20]) h, .no)) (
 let t22 := eqQ t1 (Int.ofNat 0)
 let t27 := leQ (Int.ofNat 2) t1
 obB (brV t27 (
 let t30 := leQ t1 (Int.ofNat 36)
 some (vB t30)) (
 some (vB false))) fun t31 =>
 br t31 (
 S170_0 D m t0 t1 t2 t22 t0 h) (
 let t34 := eqQ t1 (Int.ofNat 0)
 br t34 (
 ixC (vS t0) (vI (Int.ofNat 0)) fun vt36 => asI .u8 vt36 fun t36 =>
 let t37 := eqQ t36 (Int.ofNat 48)
 br t37 (
 let t42 := Int.ofNat (lenL t0)
 let t43 := leQ (Int.ofNat 3) t42
 br t43 (
 ixC (vS t0) (vI (Int.ofNat 1)) fun vt46 => asI .u8 vt46 fun t46 =>
 cal D 186 [(vC t46)] h fun t47 h24 =>
 asI .u8 t47 fun t47a =>
 let t48 := eqQ t47a (Int.ofNat 98)
 S170_12 D m t0 t2 t22 t0 t48 h24) (
 S170_12 D m t0 t2 t22 t0 false h)) (
 S170_0 D m t0 (Int.ofNat 10) t2 t22 t0 h)) (
 let t24 := (AV.iface 221 (vI (Int.ofNat 3)))
 some (.ret (.tup [(AV.int .u64 (Int.ofNat 0)), t24]) h, .no))))
def S170 : SFn := fun D m args h u => nou u <| popS args fun t0 args => popI .i64 args fun t1 args => popI .i64 args fun t2 args => endA args (S170_18 D m t0 t1 t2 h)
theorem T170_4 (hE : FX x170 D m E) : S170_4 D m = e170_4 (E c170_4 []) := by unfold S170_4; rw [hE c170_4]; kernel_rfl
theorem T170_5 (hE : FX x170 D m E) : S170_5 D m = e170_5 (E (.opq false l170_5 c170_6) [.sj v170_4 c170_4]) := by unfold S170_5; rw [T170_4 hE, hE (.opq false l170_5 c170_6)]; kernel_rfl
theorem T170_3 (hE : FX x170 D m E) : S170_3 D m = e170_3 (E c170_3 []) := by unfold S170_3; rw [T170_5 hE, hE c170_3]; kernel_rfl
theorem T170_8 (hE : FX x170 D m E) (G7) : S170_8 D m (e170_7 G7) = e170_8 (E c170_8 [.lp v170_7 G7, .blk 3, .sj v170_3 c170_3]) := by unfold S170_8; rw [hE c170_8]; kernel_rfl
theorem T170_9 (hE : FX x170 D m E) (G7) : S170_9 D m (e170_7 G7) = e170_9 (E c170_9 [.blk 4, .sj v170_8 c170_8, .lp v170_7 G7, .blk 3, .sj v170_3 c170_3]) := by unfold S170_9; rw [T170_8 hE G7, hE c170_9]; kernel_rfl
theorem T170_10 (hE : FX x170 D m E) (G7) : S170_10 D m (e170_7 G7) = e170_10 (E (.opq false l170_10 c170_11) [.blk 5, .sj v170_9 c170_9, .blk 4, .sj v170_8 c170_8, .lp v170_7 G7, .blk 3, .sj v170_3 c170_3]) := by unfold S170_10; rw [T170_9 hE G7, hE (.opq false l170_10 c170_11)]; kernel_rfl
theorem T170_7b (hE : FX x170 D m E) (G7) : S170_7b D m (e170_7 G7) = e170_7 (E c170_7b [.lp v170_7 G7, .blk 3, .sj v170_3 c170_3]) := by unfold S170_7b; rw [T170_8 hE G7, T170_9 hE G7, T170_10 hE G7, T170_3 hE, hE c170_7b]; kernel_rfl
theorem T170_7 (hE : FX x170 D m E) : S170_7 D m = e170_7 (nrec (fun _ => none) (fun _ G7 st => E c170_7b [.lp v170_7 G7, .blk 3, .sj v170_3 c170_3] st) m) :=
  nrec_emb e170_7 (fun _ _ _ _ _ _ _ _ _ _ _ => none) (fun g => S170_7b D m g) (fun G7 st => E c170_7b [.lp v170_7 G7, .blk 3, .sj v170_3 c170_3] st) rfl (fun g => T170_7b hE g) m
theorem T170_2 (hE : FX x170 D m E) : S170_2 D m = e170_2 (E c170_2 []) := by unfold S170_2; rw [T170_7 hE, hE c170_2]; kernel_rfl
theorem T170_1 (hE : FX x170 D m E) : S170_1 D m = e170_1 (E c170_1 []) := by unfold S170_1; rw [T170_2 hE, hE c170_1]; kernel_rfl
theorem T170_0 (hE : FX x170 D m E) : S170_0 D m = e170_0 (E c170_0 []) := by unfold S170_0; rw [T170_1 hE, hE c170_0]; kernel_rfl
theorem T170_14 (hE : FX x170 D m E) : S170_14 D m = e170_14 (E (.opq false l170_14 c170_15) [.blk 1, .blk 0, .sj v170_0 c170_0]) := by unfold S170_14; rw [T170_0 hE, hE (.opq false l170_14 c170_15)]; kernel_rfl
theorem T170_13 (hE : FX x170 D m E) : S170_13 D m = e170_13 (E (.opq false l170_13 c170_16) [.blk 1, .blk 0, .sj v170_0 c170_0]) := by unfold S170_13; rw [T170_0 hE, T170_14 hE, hE (.opq false l170_13 c170_16)]; kernel_rfl
theorem T170_12 (hE : FX x170 D m E) : S170_12 D m = e170_12 (E (.opq false l170_12 c170_17) [.blk 1, .blk 0, .sj v170_0 c170_0]) := by unfold S170_12; rw [T170_0 hE, T170_13 hE, hE (.opq false l170_12 c170_17)]; kernel_rfl
theorem T170_18 (hE : FX x170 D m E) : S170_18 D m = e170_18 (E c170_e []) := by unfold S170_18; rw [T170_0 hE, T170_12 hE, hE c170_e]; kernel_rfl
theorem X170 : XTie S170 x170 := X_of fun D m E hE args h u => by unfold S170; rw [T170_18 hE]; kernel_rfl
/- 176 -/
def c176_e : XC := (.s (.oX [.ld p1 q0 .v, .P p2 (.nilck q1) .v, .fa p3 2 q2, .ld p4 q3 tI, .bn p5 .sub q4 (ci 1) tI, .P p6 (.nilck q1) .v, .fa p7 2 q6, .st q7 q5]))
def x176 : XFn := ⟨[.v], true, [], c176_e⟩
def e176_0 (k : St → Res2) (t0 : AV) (h : HP) (u : AMode) : Res2 := k ⟨mkT [(p0, t0)], h, [], u⟩
def S176_0 (D : CallD) (m : Nat) (t0 : AV) (h : HP) (u : AMode) : Res2 :=
 cellC t0 h fun t1 =>
 nilckC t1 fun t2 =>
 faC 2 t2 fun t3 =>
 ldI t3 h fun t4 =>
 let t5 := wrQ .i64 (t4 - (Int.ofNat 1))
 nilckC t1 fun t6 =>
 faC 2 t6 fun t7 =>
 stoC t7 (vI t5) h fun h1 =>
 some (.ret (.tup []) h1, u)
def S176 : SFn := fun D m args h u => popV args fun t0 args => endA args (S176_0 D m t0 h u)
theorem T176_0 (hE : FX x176 D m E) : S176_0 D m = e176_0 (E c176_e []) := by unfold S176_0; rw [hE c176_e]; kernel_rfl
theorem X176 : XTie S176 x176 := X_of fun D m E hE args h u => by unfold S176; rw [T176_0 hE]; kernel_rfl
/- 177 -/
def v177_1 : List Pos := [p2, p4]
def c177_1 : XC := (.sO [.L p67 (.cells 8 q4) .v, .ss 8 q2 q67] (.s .ret))
def c177_3 : XC := (.cond q62 (.sO [.fa p63 0 q4, .st q63 (ci 7)] (.s (.oX [.mv p64 q0 .v, .cl p65 190 [q64] .v, .fa p66 5 q4, .st q66 q65]))) (.s .skip))
def l177_2 : XL := (XL.of [])
def v177_0 : List Pos := [p0, p2, p4]
def c177_0 : XC := (.sO [.mv p49 q0 .v, .P p50 (.nilck q49) .v, .fa p51 1 q50, .ld p52 q51 tI, .bn p53 .add q52 (ci 1) tI, .P p54 (.nilck q49) .v, .fa p55 1 q54, .st q55 q53] (.sj v177_1 (.opq false (XL.pre [.fa p56 0 q4, .ld p57 q56 tI, .bn p58 .eql q57 (ci 3) .b, .mv p59 q58 .b, .sp p59, .G p59 true p60 (.mov q0) .v, .o ⟨(some p61), (.call (.fn 71) [q60, (.c (.str [40]))]), (some (p59, true)), []⟩ .b, .P p62 (.pick q59 q61 (cb false)) .b, .jn p59 [p0, p2, p4, p62]] l177_2) c177_3) c177_1))
def c177_e : XC := (.sO [.al p2 (.new [(kI 0), (.str []), (.str []), (.int .u32 (.ofNat 0)), (.int .u64 (.ofNat 0)), .nils, (kI 0), (kI 0)])] (.sO [.mv p7 q0 .v, .cl p8 50 [q7] .v, .al p3 (.new [(kI 0), (.str []), (kI 0)]), .ss 3 q3 q8] (.sO [.fa p9 2 q3, .ld p10 q9 tI, .P p11 (.build [(kI 0), (.str []), (.str []), (.int .u32 (.ofNat 0)), (.int .u64 (.ofNat 0)), .nils, (kI 0), (kI 0)] [⟨7, 1, q10⟩]) .v, .al p4 (.new [(kI 0), (.str []), (.str []), (.int .u32 (.ofNat 0)), (.int .u64 (.ofNat 0)), .nils, (kI 0), (kI 0)]), .ss 8 q4 q11] (.sj v177_0 (.sO [.fa p12 0 q3, .ld p13 q12 tI] (.block 0 (.sO [.bn p22 .eql q13 (ci 2) .b, .mv p21 q22 .b] (.cond q21 (.sO [.fa p24 1 q3, .ld p25 q24 .s, .cl p26 139 [q25, (ci 10), (ci 32)] .v, .mv p23 q26 .v, .P p27 (.ext q23 0) (.i .u64), .P p28 (.ext q23 1) .v, .mv p5 q27 (.i .u64), .mv p6 q28 .v] (.s (.oX [.mv p29 q5 (.i .u64), .P p30 (.conv (.ii .u32) q29) tW, .fa p31 0 q4, .st q31 (ci 1), .fa p32 3 q4, .st q32 q30]))) (.sO [.bn p34 .eql q13 (ci 3) .b, .mv p33 q34 .b] (.cond q33 (.sO [.fa p35 0 q4, .st q35 (ci 2)] (.s (.oX [.fa p37 1 q3, .ld p38 q37 .s, .cl p39 138 [q38] .v, .mv p36 q39 .v, .P p40 (.ext q36 0) (.i .u64), .P p41 (.ext q36 1) tI, .fa p42 4 q4, .st q42 q40]))) (.sO [.bn p44 .eql q13 (ci 1) .b, .mv p43 q44 .b] (.cond q43 (.s (.ops true (XL.of [.fa p45 1 q3, .ld p46 q45 .s, .fa p47 0 q4, .o ⟨none, (.e (.store q47 (ci 3))), none, [⟨none, .cell q45, p46⟩]⟩ .v, .fa p48 2 q4, .st q48 q46]))) (.sO [.mv p14 q0 .v, .cl p15 77 [q14, (.c (.str [40]))] .v] (.sO [.mv p16 q0 .v, .cl p17 79 [q16] .v, .ss 8 q4 q17] (.sO [.mv p18 q0 .v, .cl p19 77 [q18, (.c (.str [41]))] .v] (.sO [.L p20 (.cells 8 q4) .v, .ss 8 q2 q20] (.s .ret))))))))))))) c177_0))))
def x177 : XFn := ⟨[.v], false, [(.cells 8 p2)], c177_e⟩
def e177_1 (k t2 t4 h) := kN k [(p2, t2), (p4, t4)] h
def S177_1 (D : CallD) (m : Nat) (t2 t4 : AV) (h : HP) : Res2 :=
 cellsC 8 t4 h fun t67 =>
 stsC 8 t2 t67 h fun h12 =>
 cellsC 8 t2 h12 fun t2a =>
 some (.ret t2a h12, .no)
def e177_2 (k t0 t2 t4 t62 h) := kN k [(p0, t0), (p2, t2), (p4, t4), (p62, (vB t62))] h
def S177_2 (D : CallD) (m : Nat) (t0 t2 t4 : AV) (t62 : Bool) (h : HP) : Res2 :=
 br t62 (
 faC 0 t4 fun t63 =>
 stoC t63 (vI (Int.ofNat 7)) h fun h14 =>
 cal D 190 [t0] h14 fun t65 h15 =>
 faC 5 t4 fun t66 =>
 stoC t66 t65 h15 fun h16 =>
 S177_1 D m t2 t4 h16) (
 S177_1 D m t2 t4 h)
def e177_0 (k t0 t2 t4 h) := kN k [(p0, t0), (p2, t2), (p4, t4)] h
def S177_0 (D : CallD) (m : Nat) (t0 t2 t4 : AV) (h : HP) : Res2 :=
 nilckC t0 fun t50 =>
 faC 1 t50 fun t51 =>
 ldI t51 h fun t52 =>
 let t53 := wrQ .i64 (addQ t52 (Int.ofNat 1))
 nilckC t0 fun t54 =>
 faC 1 t54 fun t55 =>
 stoC t55 (vI t53) h fun h11 =>
 faC 0 t4 fun t56 =>
 ldI t56 h11 fun t57 =>
 let t58 := eqQ t57 (Int.ofNat 3)
 br t58 (
 cal D 71 [t0, (vS ([40] : LN))] h11 fun t61 h13 =>
 asB t61 fun t61a =>
 S177_2 D m t0 t2 t4 t61a h13) (
 S177_2 D m t0 t2 t4 false h11)
def e177_4 (k t0 h) := kN k [(p0, t0)] h
def S177_4 (D : CallD) (m : Nat) (t0 : AV) (h : HP) : Res2 :=
 let t2 := AV.ptr (HP.nxQ h) 0
 let h5 := HP.newQ h (.cells true [(kI 0), (.str []), (.str []), (.int .u32 (.ofNat 0)), (.int .u64 (.ofNat 0)), .nils, (kI 0), (kI 0)])
 cal D 50 [t0] h5 fun t8 h6 =>
 let t3 := AV.ptr (HP.nxQ h6) 0
 let h7 := HP.newQ h6 (.cells true [(kI 0), (.str []), (kI 0)])
 stsC 3 t3 t8 h7 fun h8 =>
 let t9 := (AV.ptr (HP.nxQ h6) (Nat.add 0 2))
 ldI t9 h8 fun t10 =>
 let t11 := (AV.agg [(vI (Int.ofNat 0)), (vS ([] : LN)), (vS ([] : LN)), (vW (Int.ofNat 0)), (AV.int .u64 (Int.ofNat 0)), (.nils : AV), (vI (Int.ofNat 0)), (vI t10)])
 let t4 := AV.ptr (HP.nxQ h8) 0
 let h9 := HP.newQ h8 (.cells true [(kI 0), (.str []), (.str []), (.int .u32 (.ofNat 0)), (.int .u64 (.ofNat 0)), .nils, (kI 0), (kI 0)])
 stsC 8 t4 t11 h9 fun h10 =>
 let t12 := (AV.ptr (HP.nxQ h6) (Nat.add 0 0))
 ldI t12 h10 fun t13 =>
 let t22 := eqQ t13 (Int.ofNat 2)
 br t22 (
 let t24 := (AV.ptr (HP.nxQ h6) (Nat.add 0 1))
 ldS t24 h10 fun t25 =>
 cal D 139 [(vS t25), (vI (Int.ofNat 10)), (vI (Int.ofNat 32))] h10 fun t26 h17 =>
 extC t26 0 fun vt27 => asI .u64 vt27 fun t27 =>
 extC t26 1 fun t28 =>
 let t30 := wrapF .u32 t27
 let t31 := (AV.ptr (HP.nxQ h8) (Nat.add 0 0))
 stoC t31 (vI (Int.ofNat 1)) h17 fun h18 =>
 let t32 := (AV.ptr (HP.nxQ h8) (Nat.add 0 3))
 stoC t32 (vW t30) h18 fun h19 =>
 S177_0 D m t0 t2 t4 h19) (
 let t34 := eqQ t13 (Int.ofNat 3)
 br t34 (
 let t35 := (AV.ptr (HP.nxQ h8) (Nat.add 0 0))
 stoC t35 (vI (Int.ofNat 2)) h10 fun h20 =>
 let t37 := (AV.ptr (HP.nxQ h6) (Nat.add 0 1))
 ldS t37 h20 fun t38 =>
 cal D 138 [(vS t38)] h20 fun t39 h21 =>
 extC t39 0 fun vt40 => asI .u64 vt40 fun t40 =>
 extC t39 1 fun vt41 => asI .i64 vt41 fun t41 =>
 let t42 := (AV.ptr (HP.nxQ h8) (Nat.add 0 4))
 stoC t42 (AV.int .u64 t40) h21 fun h22 =>
 S177_0 D m t0 t2 t4 h22) (
 let t44 := eqQ t13 (Int.ofNat 1)
 br t44 (
 let t45 := (AV.ptr (HP.nxQ h6) (Nat.add 0 1))
 ldS t45 h10 fun t46 =>
 let t47 := (AV.ptr (HP.nxQ h8) (Nat.add 0 0))
 stoC t47 (vI (Int.ofNat 3)) h10 fun h23 =>
 br (againE (.store q47 (ci 3)) [⟨none, .cell q45, p46⟩] (mkT [(p47, t47), (p46, (vS t46)), (p45, t45)]) h23) (
 let t48 := (AV.ptr (HP.nxQ h8) (Nat.add 0 2))
 stoC t48 (vS t46) h23 fun h24 =>
 S177_0 D m t0 t2 t4 h24) none) (
 cal D 77 [t0, (vS ([40] : LN))] h10 fun t15 h25 =>
 cal D 79 [t0] h25 fun t17 h26 =>
 stsC 8 t4 t17 h26 fun h27 =>
 cal D 77 [t0, (vS ([41] : LN))] h27 fun t19 h28 =>
 cellsC 8 t4 h28 fun t20 =>
 stsC 8 t2 t20 h28 fun h29 =>
 cellsC 8 t2 h29 fun t2a =>
 some (.ret t2a h29, .no))))
def S177 : SFn := fun D m args h u => nou u <| popV args fun t0 args => endA args (S177_4 D m t0 h)
theorem T177_1 (hE : FX x177 D m E) : S177_1 D m = e177_1 (E c177_1 []) := by unfold S177_1; rw [hE c177_1]; kernel_rfl
theorem T177_2 (hE : FX x177 D m E) : S177_2 D m = e177_2 (E (.opq false l177_2 c177_3) [.sj v177_1 c177_1]) := by unfold S177_2; rw [T177_1 hE, hE (.opq false l177_2 c177_3)]; kernel_rfl
theorem T177_0 (hE : FX x177 D m E) : S177_0 D m = e177_0 (E c177_0 []) := by unfold S177_0; rw [T177_2 hE, hE c177_0]; kernel_rfl
theorem T177_4 (hE : FX x177 D m E) : S177_4 D m = e177_4 (E c177_e []) := by unfold S177_4; rw [T177_0 hE, hE c177_e]; kernel_rfl
theorem X177 : XTie S177 x177 := X_of fun D m E hE args h u => by unfold S177; rw [T177_4 hE]; kernel_rfl
end
end Go.Proofs.YtakcpnpeadkfpaaGreatDoor.Sx
