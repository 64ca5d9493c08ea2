/- Functions, printed by a program of ours: their code, what they do, and that it is so. -/
import Derived.Test.YtblciblkocameaaGreatSp
set_option maxRecDepth 8000
set_option linter.unusedVariables false
namespace Go.Proofs.YtblciblkocameaaGreat.Sx
open Go Go.Proofs.YtblciblkocameaaGreat.Ev
noncomputable section
/- 163 -/
def c163_e : XC := (.sO [.al p3 (.box q1), .al p4 (.new [(kI 0), (.int .u32 (.ofNat 0)), (.int .u64 (.ofNat 0)), (.str []), (kI 0), .nilp, (kI 0)])] (.sO [.mv p6 q0 .v, .P p7 (.nilck q6) .v, .fa p8 0 q7, .ld p9 q8 .v, .cl p10 134 [q9] .v] (.seq (.seq (.oX [.fa p11 0 q3, .ld p12 q11 tI]) (.block 0 (.seq (.oX [.bn p14 .eql q12 (ci 3) .b, .mv p13 q14 .b]) (.cond q13 (.seq (.oX [.mv p15 q0 .v, .fa p16 2 q3, .ld p17 q16 .s, .cl p18 161 [q15, q17] .v, .P p19 (.build [(kI 0), (.int .u32 (.ofNat 0)), (.int .u64 (.ofNat 0)), (.str []), (kI 0), .nilp, (kI 0)] [⟨5, 1, q18⟩]) .v, .ss 7 q4 q19]) .ret) (.seq (.oX [.bn p21 .eql q12 (ci 8) .b, .mv p20 q21 .b]) (.cond q20 (.seq (.oX [.mv p22 q0 .v, .fa p23 5 q3, .ld p24 q23 .v, .P p25 (.iaddr (.sl 8) q24 (ci 0)) .v, .L p26 (.cells 8 q25) .v, .cl p27 135 [q22, q26] .v, .al p5 (.new [(kI 0), (.int .u32 (.ofNat 0)), (.int .u64 (.ofNat 0)), (.str []), (kI 0), .nilp, (kI 0)]), .ss 7 q5 q27]) (.seq (.ops true (XL.of [.L p28 (.cells 7 q5) .v, .mv p29 q0 .v, .fa p30 5 q3, .ld p31 q30 .v, .P p32 (.iaddr (.sl 8) q31 (ci 1)) .v, .L p33 (.cells 8 q32) .v, .o ⟨(some p34), (.call (.fn 135) [q29, q33]), none, [⟨none, .cells 7 q5, p28⟩]⟩ .v, .P p35 (.field 0 5 true q34) .v, .P p36 (.field 1 1 false q35) tW, .o ⟨(some p37), (.call (.fn 157) [q36]), none, [⟨none, .cells 7 q5, p28⟩]⟩ tI, .cl p38 184 [q28, q37] .v, .ss 7 q4 q38])) .ret)) .skip)))))) (.sO [.mv p39 q0 .v, .fa p40 5 q3, .ld p41 q40 .v, .P p42 (.iaddr (.sl 8) q41 (ci 0)) .v, .L p43 (.cells 8 q42) .v, .cl p44 135 [q39, q43] .v, .ss 7 q4 q44] (.s .ret)))))
def x163 : XFn := ⟨[.v, .v], false, [(.cells 7 p4)], c163_e⟩
def e163_0 (k) (t0 : AV) (t1 : AV) (h) := kN k [(p0, t0), (p1, t1)] h
def S163_0 (D : CallD) (m : Nat) (t0 : AV) (t1 : AV) (h : HP) : Res2 :=
 let t3 : AV := AV.ptr (HP.nxQ h) 0
 let h1 : HP := HP.newQ h (.cells true (AV.cells t1))
 let t4 : AV := AV.ptr (HP.nxQ h1) 0
 let h2 : HP := HP.newQ h1 (.cells true [(kI 0), (.int .u32 (.ofNat 0)), (.int .u64 (.ofNat 0)), (.str []), (kI 0), .nilp, (kI 0)])
 nilckC t0 fun t7 =>
 faC 0 t7 fun t8 =>
 cellC t8 h2 fun t9 =>
 cal D 134 [t9] h2 fun t10 h3 =>
 let t11 : AV := (AV.ptr (HP.nxQ h) (Nat.add 0 0))
 ldI t11 h3 fun t12 =>
 let t14 : Bool := eqQ t12 (Int.ofNat 3)
 br t14 (
 let t16 : AV := (AV.ptr (HP.nxQ h) (Nat.add 0 2))
 ldS t16 h3 fun t17 =>
 cal D 161 [t0, (vS t17)] h3 fun t18 h4 =>
 obQ (evP (.build [(kI 0), (.int .u32 (.ofNat 0)), (.int .u64 (.ofNat 0)), (.str []), (kI 0), .nilp, (kI 0)] [⟨5, 1, (.c t18)⟩]) .leaf) fun t19 =>
 stsC 7 t4 t19 h4 fun h5 =>
 XFn.endOf x163 D (.ret ⟨(mkT [(p4, t4)]), h5, [], .no⟩)) (
 let t21 : Bool := eqQ t12 (Int.ofNat 8)
 br t21 (
 let t23 : AV := (AV.ptr (HP.nxQ h) (Nat.add 0 5))
 cellC t23 h3 fun t24 =>
 iasC 8 t24 (vI (Int.ofNat 0)) fun t25 =>
 cellsC 8 t25 h3 fun t26 =>
 cal D 135 [t0, t26] h3 fun t27 h6 =>
 let t5 : AV := AV.ptr (HP.nxQ h6) 0
 let h7 : HP := HP.newQ h6 (.cells true [(kI 0), (.int .u32 (.ofNat 0)), (.int .u64 (.ofNat 0)), (.str []), (kI 0), .nilp, (kI 0)])
 stsC 7 t5 t27 h7 fun h8 =>
 cellsC 7 t5 h8 fun t28 =>
 let t30 : AV := (AV.ptr (HP.nxQ h) (Nat.add 0 5))
 cellC t30 h8 fun t31 =>
 iasC 8 t31 (vI (Int.ofNat 1)) fun t32 =>
 cellsC 8 t32 h8 fun t33 =>
 cal D 135 [t0, t33] h8 fun t34 h9 =>
 br (again [⟨none, .cells 7 q5, p28⟩] (mkT [(p28, t28), (p5, t5)]) h9) (
 fldC 0 5 true t34 fun t35 =>
 fldC 1 1 false t35 fun vt36 => asI .u32 vt36 fun t36 =>
 cal D 157 [(vW t36)] h9 fun t37 h10 =>
 br (again [⟨none, .cells 7 q5, p28⟩] (mkT [(p28, t28), (p5, t5)]) h10) (
 asI .i64 t37 fun t37a =>
 cal D 184 [t28, (vI t37a)] h10 fun t38 h11 =>
 stsC 7 t4 t38 h11 fun h12 =>
 XFn.endOf x163 D (.ret ⟨(mkT [(p4, t4)]), h12, [], .no⟩)) none) none) (
 let t40 : AV := (AV.ptr (HP.nxQ h) (Nat.add 0 5))
 cellC t40 h3 fun t41 =>
 iasC 8 t41 (vI (Int.ofNat 0)) fun t42 =>
 cellsC 8 t42 h3 fun t43 =>
 cal D 135 [t0, t43] h3 fun t44 h13 =>
 stsC 7 t4 t44 h13 fun h14 =>
 XFn.endOf x163 D (.ret ⟨(mkT [(p4, t4)]), h14, [], .no⟩)))
def S163 : SFn := fun D m args h u => nou u <| popV args fun t0 args => popV args fun t1 args => endA args (S163_0 D m t0 t1 h)
theorem T163_0 {D m E} (hE : FX x163 D m E) : S163_0 D m = e163_0 (E c163_e []) := by unfold S163_0; rw [hE c163_e]; kernel_rfl
theorem X163 (D m args h u) : S163 D m args h u = evFX x163 D m args h u := by unfold S163; rw [T163_0 (fix_ok D m (x163.endOf D))]; show _ = evFXE x163 (evE2 D m (x163.endOf D)) args h u; generalize evE2 D m (x163.endOf D) = E; kernel_rfl
/- 164 -/
def v164_0 : List Pos := [p3, p4, p5, p6]
def c164_0 : XC := (.seq (.seq (.oX [.fa p97 1 q3, .ld p98 q97 .s, .bn p99 .eql q98 (.c (.str [38, 38])) .b, .mv p100 q99 .b, .ge p100 (XL.of [.G p100 false p101 (.faddr 1 q3) .v, .o ⟨(some p102), (.l (.cell q101)), (some (p100, false)), []⟩ .s, .G p100 false p103 (.bin .eql q102 (.c (.str [124, 124]))) .b, .P p104 (.pick q100 (cb true) q103) .b]) p104 .b]) (.cond q104 (.seq (.oX [.fa p105 0 q6, .fa p106 1 q105, .ld p107 q106 tW, .P p108 (.mm false [q107, (.c (.int .u32 (.ofNat 1)))]) tW, .P p109 (.build [(kI 0), (.int .u32 (.ofNat 0)), (.int .u64 (.ofNat 0)), (.str []), (kI 0)] [⟨0, 1, (ci 1)⟩, ⟨1, 1, q108⟩]) .v, .P p110 (.build [(kI 0), (.int .u32 (.ofNat 0)), (.int .u64 (.ofNat 0)), (.str []), (kI 0), .nilp, (kI 0)] [⟨0, 5, q109⟩]) .v, .ss 7 q4 q110]) .ret) .skip)) (.sO [.fa p112 1 q3, .ld p113 q112 .s, .fa p114 0 q5, .L p115 (.cells 5 q114) .v, .fa p116 0 q6, .L p117 (.cells 5 q116) .v, .cl p118 132 [q113, q115, q117] .v, .mv p111 q118 .v, .P p119 (.ext q111 0) .v, .P p120 (.ext q111 1) tI, .al p8 (.new [(kI 0), (.int .u32 (.ofNat 0)), (.int .u64 (.ofNat 0)), (.str []), (kI 0)]), .ss 5 q8 q119, .mv p9 q120 tI] (.sO [.L p121 (.cells 5 q8) .v, .P p122 (.build [(kI 0), (.int .u32 (.ofNat 0)), (.int .u64 (.ofNat 0)), (.str []), (kI 0), .nilp, (kI 0)] [⟨0, 5, q121⟩]) .v, .ss 7 q4 q122] (.s .ret))))
def v164_1 : List Pos := [p4, p7]
def c164_1 : XC := (.sO [.L p95 (.cells 5 q7) .v, .P p96 (.build [(kI 0), (.int .u32 (.ofNat 0)), (.int .u64 (.ofNat 0)), (.str []), (kI 0), .nilp, (kI 0)] [⟨0, 5, q95⟩]) .v, .ss 7 q4 q96] (.s .ret))
def c164_e : XC := (.sO [.al p3 (.box q1), .al p4 (.new [(kI 0), (.int .u32 (.ofNat 0)), (.int .u64 (.ofNat 0)), (.str []), (kI 0), .nilp, (kI 0)])] (.sO [.mv p10 q0 .v, .fa p11 5 q3, .ld p12 q11 .v, .P p13 (.iaddr (.sl 8) q12 (ci 0)) .v, .L p14 (.cells 8 q13) .v, .cl p15 135 [q10, q14] .v, .al p5 (.new [(kI 0), (.int .u32 (.ofNat 0)), (.int .u64 (.ofNat 0)), (.str []), (kI 0), .nilp, (kI 0)]), .ss 7 q5 q15] (.seq (.seq (.oX [.fa p16 1 q3, .ld p17 q16 .s, .bn p18 .eql q17 (.c (.str [38, 38])) .b, .mv p19 q18 .b, .ge p19 (XL.of [.G p19 true p20 (.faddr 0 q5) .v, .G p19 true p21 (.faddr 1 q20) .v, .o ⟨(some p22), (.l (.cell q21)), (some (p19, true)), []⟩ tW, .G p19 true p23 (.bin .eql q22 (.c (.int .u32 (.ofNat 0)))) .b, .P p24 (.pick q19 q23 (cb false)) .b]) p24 .b, .mv p25 q24 .b, .ge p25 (XL.of [.G p25 false p26 (.faddr 1 q3) .v, .o ⟨(some p27), (.l (.cell q26)), (some (p25, false)), []⟩ .s, .G p25 false p28 (.bin .eql q27 (.c (.str [124, 124]))) .b, .G p25 false p29 (.mov q28) .b, .ge p29 (XL.of [.G p29 true p30 (.faddr 0 q5) .v, .G p29 true p31 (.faddr 1 q30) .v, .o ⟨(some p32), (.l (.cell q31)), (some (p29, true)), []⟩ tW, .G p29 true p33 (.bin .neq q32 (.c (.int .u32 (.ofNat 0)))) .b, .G p25 false p34 (.pick q29 q33 (cb false)) .b]) p34 .b, .P p35 (.pick q25 (cb true) q34) .b]) p35 .b]) (.cond q35 (.seq (.oX [.fa p36 0 q5, .fa p37 1 q36, .ld p38 q37 tW, .P p39 (.mm false [q38, (.c (.int .u32 (.ofNat 1)))]) tW, .P p40 (.build [(kI 0), (.int .u32 (.ofNat 0)), (.int .u64 (.ofNat 0)), (.str []), (kI 0)] [⟨0, 1, (ci 1)⟩, ⟨1, 1, q39⟩]) .v, .P p41 (.build [(kI 0), (.int .u32 (.ofNat 0)), (.int .u64 (.ofNat 0)), (.str []), (kI 0), .nilp, (kI 0)] [⟨0, 5, q40⟩]) .v, .ss 7 q4 q41]) .ret) .skip)) (.sO [.mv p42 q0 .v, .fa p43 5 q3, .ld p44 q43 .v, .P p45 (.iaddr (.sl 8) q44 (ci 1)) .v, .L p46 (.cells 8 q45) .v, .cl p47 135 [q42, q46] .v, .al p6 (.new [(kI 0), (.int .u32 (.ofNat 0)), (.int .u64 (.ofNat 0)), (.str []), (kI 0), .nilp, (kI 0)]), .ss 7 q6 q47] (.sj v164_0 (.block 0 (.sO [.fa p49 0 q5, .fa p50 0 q49, .ld p51 q50 tI, .cl p52 185 [q51] .b, .mv p53 q52 .b, .ge p53 (XL.of [.G p53 true p54 (.faddr 1 q3) .v, .o ⟨(some p55), (.l (.cell q54)), (some (p53, true)), []⟩ .s, .G p53 true p56 (.bin .eql q55 (.c (.str [43]))) .b, .P p57 (.pick q53 q56 (cb false)) .b]) p57 .b, .mv p48 q57 .b] (.cond q48 (.seq (.ops true (XL.of [.L p58 (.cells 7 q5) .v, .fa p59 0 q6, .fa p60 1 q59, .ld p61 q60 tW, .o ⟨(some p62), (.call (.fn 157) [q61]), none, [⟨none, .cells 7 q5, p58⟩]⟩ tI, .cl p63 184 [q58, q62] .v, .ss 7 q4 q63])) (.s .ret)) (.sO [.fa p65 0 q5, .fa p66 0 q65, .ld p67 q66 tI, .cl p68 185 [q67] .b, .mv p69 q68 .b, .ge p69 (XL.of [.G p69 true p70 (.faddr 1 q3) .v, .o ⟨(some p71), (.l (.cell q70)), (some (p69, true)), []⟩ .s, .G p69 true p72 (.bin .eql q71 (.c (.str [45]))) .b, .P p73 (.pick q69 q72 (cb false)) .b]) p73 .b, .mv p64 q73 .b] (.cond q64 (.seq (.ops true (XL.of [.L p74 (.cells 7 q5) .v, .fa p75 0 q6, .fa p76 1 q75, .ld p77 q76 tW, .o ⟨(some p78), (.call (.fn 157) [q77]), none, [⟨none, .cells 7 q5, p74⟩]⟩ tI, .P p79 (.un .neg q78) tI, .cl p80 184 [q74, q79] .v, .ss 7 q4 q80])) (.s .ret)) (.sO [.fa p82 0 q5, .fa p83 0 q82, .ld p84 q83 tI, .cl p85 185 [q84] .b, .mv p81 q85 .b] (.cond q81 (.sO [.P p86 (.build [(kI 0), (.int .u32 (.ofNat 0)), (.int .u64 (.ofNat 0)), (.str []), (kI 0)] [⟨0, 1, (ci 1)⟩]) .v, .al p7 (.new [(kI 0), (.int .u32 (.ofNat 0)), (.int .u64 (.ofNat 0)), (.str []), (kI 0)]), .ss 5 q7 q86] (.sj v164_1 (.seq (.ops true (XL.of [.L p87 (.cells 7 q5) .v, .L p88 (.cells 7 q6) .v, .fa p90 1 q3, .ld p91 q90 .s, .bn p92 .eql q91 (.c (.str [61, 61])) .b, .o ⟨(some p89), (.call (.fn 186) [q87, q88]), none, [⟨none, .cell q90, p91⟩]⟩ .b, .P p93 (.eqb false q89 q92) .b])) (.cond q93 (.s (.oX [.fa p94 1 q7, .st q94 (.c (.int .u32 (.ofNat 1)))])) (.s .skip))) c164_1)) (.s .skip)))))))) c164_0)))))
def x164 : XFn := ⟨[.v, .v], false, [(.cells 7 p4)], c164_e⟩
def e164_0 (k) (t3 : AV) (t4 : AV) (t5 : AV) (t6 : AV) (h) := kN k [(p3, t3), (p4, t4), (p5, t5), (p6, t6)] h
def S164_0 (D : CallD) (m : Nat) (t3 : AV) (t4 : AV) (t5 : AV) (t6 : AV) (h : HP) : Res2 :=
 faC 1 t3 fun t97 =>
 ldS t97 h fun t98 =>
 let t99 : Bool := eqL t98 ([38, 38] : LN)
 obB (brV t99 (
 some (vB true)) (
 faCV 1 t3 fun t101 =>
 ldSV t101 h fun t102 =>
 let t103 : Bool := eqL t102 ([124, 124] : LN)
 some (vB t103))) fun t104 =>
 br t104 (
 faC 0 t6 fun t105 =>
 faC 1 t105 fun t106 =>
 ldW t106 h fun t107 =>
 let t108 : Int := mmI false t107 (Int.ofNat 1)
 let t109 : AV := (AV.agg [(vI (Int.ofNat 1)), (vW t108), (AV.int .u64 (Int.ofNat 0)), (vS ([] : LN)), (vI (Int.ofNat 0))])
 let t110 : AV := (AV.agg [(vI (Int.ofNat 1)), (vW t108), (AV.int .u64 (Int.ofNat 0)), (vS ([] : LN)), (vI (Int.ofNat 0)), (.nilp : AV), (vI (Int.ofNat 0))])
 stsC 7 t4 t110 h fun h12 =>
 XFn.endOf x164 D (.ret ⟨(mkT [(p4, t4)]), h12, [], .no⟩)) (
 faC 1 t3 fun t112 =>
 ldS t112 h fun t113 =>
 faC 0 t5 fun t114 =>
 cellsC 5 t114 h fun t115 =>
 faC 0 t6 fun t116 =>
 cellsC 5 t116 h fun t117 =>
 cal D 132 [(vS t113), t115, t117] h fun t118 h13 =>
 extC t118 0 fun t119 =>
 extC t118 1 fun vt120 => asI .i64 vt120 fun t120 =>
 let t8 : AV := AV.ptr (HP.nxQ h13) 0
 let h14 : HP := HP.newQ h13 (.cells true [(kI 0), (.int .u32 (.ofNat 0)), (.int .u64 (.ofNat 0)), (.str []), (kI 0)])
 stsC 5 t8 t119 h14 fun h15 =>
 cellsC 5 t8 h15 fun t121 =>
 obQ (evP (.build [(kI 0), (.int .u32 (.ofNat 0)), (.int .u64 (.ofNat 0)), (.str []), (kI 0), .nilp, (kI 0)] [⟨0, 5, (.c t121)⟩]) .leaf) fun t122 =>
 stsC 7 t4 t122 h15 fun h16 =>
 XFn.endOf x164 D (.ret ⟨(mkT [(p4, t4)]), h16, [], .no⟩))
def e164_1 (k) (t4 : AV) (t7 : AV) (h) := kN k [(p4, t4), (p7, t7)] h
def S164_1 (D : CallD) (m : Nat) (t4 : AV) (t7 : AV) (h : HP) : Res2 :=
 cellsC 5 t7 h fun t95 =>
 obQ (evP (.build [(kI 0), (.int .u32 (.ofNat 0)), (.int .u64 (.ofNat 0)), (.str []), (kI 0), .nilp, (kI 0)] [⟨0, 5, (.c t95)⟩]) .leaf) fun t96 =>
 stsC 7 t4 t96 h fun h28 =>
 XFn.endOf x164 D (.ret ⟨(mkT [(p4, t4)]), h28, [], .no⟩)
def e164_2 (k) (t0 : AV) (t1 : AV) (h) := kN k [(p0, t0), (p1, t1)] h
def S164_2 (D : CallD) (m : Nat) (t0 : AV) (t1 : AV) (h : HP) : Res2 :=
 let t3 : AV := AV.ptr (HP.nxQ h) 0
 let h3 : HP := HP.newQ h (.cells true (AV.cells t1))
 let t4 : AV := AV.ptr (HP.nxQ h3) 0
 let h4 : HP := HP.newQ h3 (.cells true [(kI 0), (.int .u32 (.ofNat 0)), (.int .u64 (.ofNat 0)), (.str []), (kI 0), .nilp, (kI 0)])
 let t11 : AV := (AV.ptr (HP.nxQ h) (Nat.add 0 5))
 cellC t11 h4 fun t12 =>
 iasC 8 t12 (vI (Int.ofNat 0)) fun t13 =>
 cellsC 8 t13 h4 fun t14 =>
 cal D 135 [t0, t14] h4 fun t15 h5 =>
 let t5 : AV := AV.ptr (HP.nxQ h5) 0
 let h6 : HP := HP.newQ h5 (.cells true [(kI 0), (.int .u32 (.ofNat 0)), (.int .u64 (.ofNat 0)), (.str []), (kI 0), .nilp, (kI 0)])
 stsC 7 t5 t15 h6 fun h7 =>
 let t16 : AV := (AV.ptr (HP.nxQ h) (Nat.add 0 1))
 ldS t16 h7 fun t17 =>
 let t18 : Bool := eqL t17 ([38, 38] : LN)
 obB (brV t18 (
 let t20 : AV := (AV.ptr (HP.nxQ h5) (Nat.add 0 0))
 let t21 : AV := (AV.ptr (HP.nxQ h5) (Nat.add (Nat.add 0 0) 1))
 ldWV t21 h7 fun t22 =>
 let t23 : Bool := eqQ t22 (Int.ofNat 0)
 some (vB t23)) (
 some (vB false))) fun t24 =>
 obB (brV t24 (
 some (vB true)) (
 let t26 : AV := (AV.ptr (HP.nxQ h) (Nat.add 0 1))
 ldSV t26 h7 fun t27 =>
 let t28 : Bool := eqL t27 ([124, 124] : LN)
 obBV (brV t28 (
 let t30 : AV := (AV.ptr (HP.nxQ h5) (Nat.add 0 0))
 let t31 : AV := (AV.ptr (HP.nxQ h5) (Nat.add (Nat.add 0 0) 1))
 ldWV t31 h7 fun t32 =>
 let t33 : Bool := notQ (eqQ t32 (Int.ofNat 0))
 some (vB t33)) (
 some (vB false))) fun t34 =>
 some (vB t34))) fun t35 =>
 br t35 (
 let t36 : AV := (AV.ptr (HP.nxQ h5) (Nat.add 0 0))
 let t37 : AV := (AV.ptr (HP.nxQ h5) (Nat.add (Nat.add 0 0) 1))
 ldW t37 h7 fun t38 =>
 let t39 : Int := mmI false t38 (Int.ofNat 1)
 let t40 : AV := (AV.agg [(vI (Int.ofNat 1)), (vW t39), (AV.int .u64 (Int.ofNat 0)), (vS ([] : LN)), (vI (Int.ofNat 0))])
 let t41 : AV := (AV.agg [(vI (Int.ofNat 1)), (vW t39), (AV.int .u64 (Int.ofNat 0)), (vS ([] : LN)), (vI (Int.ofNat 0)), (.nilp : AV), (vI (Int.ofNat 0))])
 stsC 7 t4 t41 h7 fun h8 =>
 XFn.endOf x164 D (.ret ⟨(mkT [(p4, t4)]), h8, [], .no⟩)) (
 let t43 : AV := (AV.ptr (HP.nxQ h) (Nat.add 0 5))
 cellC t43 h7 fun t44 =>
 iasC 8 t44 (vI (Int.ofNat 1)) fun t45 =>
 cellsC 8 t45 h7 fun t46 =>
 cal D 135 [t0, t46] h7 fun t47 h9 =>
 let t6 : AV := AV.ptr (HP.nxQ h9) 0
 let h10 : HP := HP.newQ h9 (.cells true [(kI 0), (.int .u32 (.ofNat 0)), (.int .u64 (.ofNat 0)), (.str []), (kI 0), .nilp, (kI 0)])
 stsC 7 t6 t47 h10 fun h11 =>
 let t49 : AV := (AV.ptr (HP.nxQ h5) (Nat.add 0 0))
 let t50 : AV := (AV.ptr (HP.nxQ h5) (Nat.add (Nat.add 0 0) 0))
 ldI t50 h11 fun t51 =>
 cal D 185 [(vI t51)] h11 fun t52 h17 =>
 asB t52 fun t52a =>
 obB (brV t52a (
 let t54 : AV := (AV.ptr (HP.nxQ h) (Nat.add 0 1))
 ldSV t54 h17 fun t55 =>
 let t56 : Bool := eqL t55 ([43] : LN)
 some (vB t56)) (
 some (vB false))) fun t57 =>
 br t57 (
 cellsC 7 t5 h17 fun t58 =>
 let t59 : AV := (AV.ptr (HP.nxQ h9) (Nat.add 0 0))
 let t60 : AV := (AV.ptr (HP.nxQ h9) (Nat.add (Nat.add 0 0) 1))
 ldW t60 h17 fun t61 =>
 cal D 157 [(vW t61)] h17 fun t62 h18 =>
 br (again [⟨none, .cells 7 q5, p58⟩] (mkT [(p58, t58), (p5, t5)]) h18) (
 asI .i64 t62 fun t62a =>
 cal D 184 [t58, (vI t62a)] h18 fun t63 h19 =>
 stsC 7 t4 t63 h19 fun h20 =>
 XFn.endOf x164 D (.ret ⟨(mkT [(p4, t4)]), h20, [], .no⟩)) none) (
 let t65 : AV := (AV.ptr (HP.nxQ h5) (Nat.add 0 0))
 let t66 : AV := (AV.ptr (HP.nxQ h5) (Nat.add (Nat.add 0 0) 0))
 ldI t66 h17 fun t67 =>
 cal D 185 [(vI t67)] h17 fun t68 h21 =>
 asB t68 fun t68a =>
 obB (brV t68a (
 let t70 : AV := (AV.ptr (HP.nxQ h) (Nat.add 0 1))
 ldSV t70 h21 fun t71 =>
 let t72 : Bool := eqL t71 ([45] : LN)
 some (vB t72)) (
 some (vB false))) fun t73 =>
 br t73 (
 cellsC 7 t5 h21 fun t74 =>
 let t75 : AV := (AV.ptr (HP.nxQ h9) (Nat.add 0 0))
 let t76 : AV := (AV.ptr (HP.nxQ h9) (Nat.add (Nat.add 0 0) 1))
 ldW t76 h21 fun t77 =>
 cal D 157 [(vW t77)] h21 fun t78 h22 =>
 br (again [⟨none, .cells 7 q5, p74⟩] (mkT [(p74, t74), (p5, t5)]) h22) (
 asI .i64 t78 fun t78a =>
 let t79 : Int := IntKind.wrap .i64 (0 - t78a)
 cal D 184 [t74, (vI t79)] h22 fun t80 h23 =>
 stsC 7 t4 t80 h23 fun h24 =>
 XFn.endOf x164 D (.ret ⟨(mkT [(p4, t4)]), h24, [], .no⟩)) none) (
 let t82 : AV := (AV.ptr (HP.nxQ h5) (Nat.add 0 0))
 let t83 : AV := (AV.ptr (HP.nxQ h5) (Nat.add (Nat.add 0 0) 0))
 ldI t83 h21 fun t84 =>
 cal D 185 [(vI t84)] h21 fun t85 h25 =>
 asB t85 fun t85a =>
 br t85a (
 let t86 : AV := (AV.agg [(vI (Int.ofNat 1)), (vW (Int.ofNat 0)), (AV.int .u64 (Int.ofNat 0)), (vS ([] : LN)), (vI (Int.ofNat 0))])
 let t7 : AV := AV.ptr (HP.nxQ h25) 0
 let h26 : HP := HP.newQ h25 (.cells true [(kI 0), (.int .u32 (.ofNat 0)), (.int .u64 (.ofNat 0)), (.str []), (kI 0)])
 stsC 5 t7 t86 h26 fun h27 =>
 cellsC 7 t5 h27 fun t87 =>
 cellsC 7 t6 h27 fun t88 =>
 let t90 : AV := (AV.ptr (HP.nxQ h) (Nat.add 0 1))
 ldS t90 h27 fun t91 =>
 let t92 : Bool := eqL t91 ([61, 61] : LN)
 cal D 186 [t87, t88] h27 fun t89 h29 =>
 br (again [⟨none, .cell q90, p91⟩] (mkT [(p91, (vS t91)), (p90, t90)]) h29) (
 asB t89 fun t89a =>
 let t93 : Bool := ((t89a == t92) != false)
 br t93 (
 let t94 : AV := (AV.ptr (HP.nxQ h25) (Nat.add 0 1))
 stoC t94 (vW (Int.ofNat 1)) h29 fun h30 =>
 S164_1 D m t4 t7 h30) (
 S164_1 D m t4 t7 h29)) none) (
 S164_0 D m t3 t4 t5 t6 h25))))
def S164 : SFn := fun D m args h u => nou u <| popV args fun t0 args => popV args fun t1 args => endA args (S164_2 D m t0 t1 h)
theorem T164_0 {D m E} (hE : FX x164 D m E) : S164_0 D m = e164_0 (E c164_0 []) := by unfold S164_0; rw [hE c164_0]; kernel_rfl
theorem T164_1 {D m E} (hE : FX x164 D m E) : S164_1 D m = e164_1 (E c164_1 [.blk 0, .sj v164_0 c164_0]) := by unfold S164_1; rw [hE c164_1]; kernel_rfl
theorem T164_2 {D m E} (hE : FX x164 D m E) : S164_2 D m = e164_2 (E c164_e []) := by unfold S164_2; rw [T164_1 hE, T164_0 hE, hE c164_e]; kernel_rfl
theorem X164 (D m args h u) : S164 D m args h u = evFX x164 D m args h u := by unfold S164; rw [T164_2 (fix_ok D m (x164.endOf D))]; show _ = evFXE x164 (evE2 D m (x164.endOf D)) args h u; generalize evE2 D m (x164.endOf D) = E; kernel_rfl
/- 166 -/
def v166_1 : List Pos := [p0, p3, p4, p5]
def c166_1 : XC := (.seq (.ops true (XL.of [.mv p114 q0 .v, .P p115 (.nilck q114) .v, .fa p116 0 q115, .ld p117 q116 .v, .P p118 (.nilck q117) .v, .fa p119 0 q118, .ld p120 q119 .v, .fa p121 2 q3, .ld p122 q121 .s, .L p123 (.look .str (.agg [(.bool false), (.bool false), (.bool false), (.str []), (kI 0), (kI 0), .nils, (.bool false), .nils, (kI 0), .nils, .nils, (.str []), (kI 0), (kI 0), (kI 0), (kI 0)]) true q120 q122) .v, .mv p113 q123 .v, .P p124 (.ext q113 0) .v, .P p125 (.ext q113 1) .b, .al p9 (.new [(.bool false), (.bool false), (.bool false), (.str []), (kI 0), (kI 0), .nils, (.bool false), .nils, (kI 0), .nils, .nils, (.str []), (kI 0), (kI 0), (kI 0), (kI 0)]), .ss 17 q9 q124, .mv p10 q125 .b])) (.sO [.mv p126 q10 .b, .cl p127 46 [q126] .v] (.seq (.ops true (XL.of [.mv p128 q0 .v, .P p129 (.nilck q128) .v, .fa p130 0 q129, .ld p131 q130 .v, .L p132 (.cells 17 q9) .v, .mv p133 q5 .v, .cl p134 47 [q131, q132, q133] .v, .ss 7 q4 q134])) (.s .ret))))
def v166_2 : List Pos := [p4, p8]
def c166_2 : XC := (.sO [.L p112 (.cells 7 q8) .v, .ss 7 q4 q112] (.s .ret))
def v166_0 : List Pos := [p0, p3, p4, p5]
def c166_0 : XC := (.sj v166_1 (.sO [.fa p25 2 q3, .ld p26 q25 .s] (.block 2 (.sO [.bn p28 .eql q26 (.c (.str [112, 117, 116, 119])) .b, .mv p27 q28 .b] (.cond q27 (.seq (.ops true (XL.of [.mv p29 q0 .v, .P p30 (.nilck q29) .v, .fa p31 0 q30, .ld p32 q31 .v, .mv p33 q0 .v, .P p34 (.nilck q33) .v, .fa p35 0 q34, .ld p36 q35 .v, .P p37 (.nilck q36) .v, .fa p38 3 q37, .ld p39 q38 .v, .mv p40 q5 .v, .P p41 (.iaddr (.sl 7) q40 (ci 0)) .v, .fa p42 0 q41, .fa p43 1 q42, .ld p44 q43 tW, .P p45 (.build [(kI 0), (.int .u32 (.ofNat 0)), (.int .u64 (.ofNat 0))] [⟨0, 1, (ci 1)⟩, ⟨1, 1, q44⟩]) .v, .al p46 (.bsl [(kI 0), (.int .u32 (.ofNat 0)), (.int .u64 (.ofNat 0))] 1 [⟨0, 3, q45⟩]), .o ⟨(some p47), (.e (.app 3 24 q39 q46)), none, [⟨none, .cell q31, p32⟩]⟩ .v, .P p48 (.nilck q32) .v, .fa p49 3 q48, .st q49 q47])) (.sO [.P p50 (.build [(kI 0), (.int .u32 (.ofNat 0)), (.int .u64 (.ofNat 0)), (.str []), (kI 0), .nilp, (kI 0)] []) .v, .ss 7 q4 q50] (.s .ret))) (.sO [.bn p52 .eql q26 (.c (.str [112, 117, 116, 100])) .b, .mv p51 q52 .b] (.cond q51 (.seq (.ops true (XL.of [.mv p53 q0 .v, .P p54 (.nilck q53) .v, .fa p55 0 q54, .ld p56 q55 .v, .mv p57 q0 .v, .P p58 (.nilck q57) .v, .fa p59 0 q58, .ld p60 q59 .v, .P p61 (.nilck q60) .v, .fa p62 3 q61, .ld p63 q62 .v, .mv p64 q5 .v, .P p65 (.iaddr (.sl 7) q64 (ci 0)) .v, .fa p66 0 q65, .fa p67 2 q66, .ld p68 q67 (.i .u64), .P p69 (.build [(kI 0), (.int .u32 (.ofNat 0)), (.int .u64 (.ofNat 0))] [⟨0, 1, (ci 2)⟩, ⟨2, 1, q68⟩]) .v, .al p70 (.bsl [(kI 0), (.int .u32 (.ofNat 0)), (.int .u64 (.ofNat 0))] 1 [⟨0, 3, q69⟩]), .o ⟨(some p71), (.e (.app 3 24 q63 q70)), none, [⟨none, .cell q55, p56⟩]⟩ .v, .P p72 (.nilck q56) .v, .fa p73 3 q72, .st q73 q71])) (.sO [.P p74 (.build [(kI 0), (.int .u32 (.ofNat 0)), (.int .u64 (.ofNat 0)), (.str []), (kI 0), .nilp, (kI 0)] []) .v, .ss 7 q4 q74] (.s .ret))) (.sO [.bn p76 .eql q26 (.c (.str [103, 101, 116, 119])) .b, .mv p75 q76 .b] (.cond q75 (.sO [.cl p77 68 [(ci 1)] .v, .al p8 (.new [(kI 0), (.int .u32 (.ofNat 0)), (.int .u64 (.ofNat 0)), (.str []), (kI 0), .nilp, (kI 0)]), .ss 7 q8 q77] (.sj v166_2 (.sO [.mv p78 q0 .v, .P p79 (.nilck q78) .v, .fa p80 0 q79, .ld p81 q80 .v, .P p82 (.nilck q81) .v, .fa p83 2 q82, .ld p84 q83 .v, .P p85 (.lenl q84) tI, .bn p86 .gtr q85 (ci 0) .b] (.cond q86 (.s (.ops true (XL.of [.mv p87 q0 .v, .P p88 (.nilck q87) .v, .fa p89 0 q88, .ld p90 q89 .v, .mv p91 q0 .v, .P p92 (.nilck q91) .v, .fa p93 0 q92, .ld p94 q93 .v, .P p95 (.nilck q94) .v, .fa p96 2 q95, .ld p97 q96 .v, .P p98 (.iaddr (.sl 1) q97 (ci 0)) .v, .ld p99 q98 tW, .mv p100 q0 .v, .P p101 (.nilck q100) .v, .fa p102 0 q101, .ld p103 q102 .v, .P p104 (.nilck q103) .v, .fa p105 2 q104, .ld p106 q105 .v, .P p107 (.slice (.sl 1) q106 (some (ci 1)) none none) .v, .fa p108 0 q8, .fa p109 1 q108, .o ⟨none, (.e (.store q109 q99)), none, [⟨none, .cell q89, p90⟩, ⟨none, .cell q102, p103⟩, ⟨none, .cell q105, p106⟩]⟩ .v, .P p110 (.nilck q90) .v, .fa p111 2 q110, .st q111 q107]))) (.s .skip))) c166_2)) (.s .skip))))))))) c166_1)
def v166_3 : List Pos := [p0, p3, p4, p5, p12, p13, p14]
def c166_3b : XC := (.sO [.bn p15 .lss q14 q13 .b] (.seq (.cond q15 .skip (.exit 0)) (.seq (.block 1 (.seq (.oX [.P p16 (.iaddr (.sl 8) q12 q14) .v, .L p17 (.cells 8 q16) .v, .al p7 (.new [(kI 0), (.str []), (.str []), (.int .u32 (.ofNat 0)), (.int .u64 (.ofNat 0)), .nils, (kI 0), (kI 0)]), .ss 8 q7 q17]) (.oX [.mv p18 q5 .v, .mv p19 q0 .v, .L p20 (.cells 8 q7) .v, .cl p21 135 [q19, q20] .v, .al p22 (.bsl [(kI 0), (.int .u32 (.ofNat 0)), (.int .u64 (.ofNat 0)), (.str []), (kI 0), .nilp, (kI 0)] 1 [⟨0, 7, q21⟩]), .o ⟨(some p23), (.e (.app 7 64 q18 q22)), none, []⟩ .v, .mv p5 q23 .v]))) (.s (.oX [.bn p24 .add q14 (ci 1) tI, .mv p14 q24 tI])))))
def c166_e : XC := (.sO [.al p3 (.box q1), .al p4 (.new [(kI 0), (.int .u32 (.ofNat 0)), (.int .u64 (.ofNat 0)), (.str []), (kI 0), .nilp, (kI 0)])] (.sO [.mv p5 (.c .nils) .v] (.sj v166_0 (.sO [.fa p11 5 q3, .ld p12 q11 .v, .P p13 (.lenl q12) tI, .mv p14 (ci 0) tI] (.block 0 (.loop v166_3 c166_3b))) c166_0)))
def x166 : XFn := ⟨[.v, .v], false, [(.cells 7 p4)], c166_e⟩
def e166_1 (k) (t0 : AV) (t3 : AV) (t4 : AV) (t5 : AV) (h) := kN k [(p0, t0), (p3, t3), (p4, t4), (p5, t5)] h
def S166_1 (D : CallD) (m : Nat) (t0 : AV) (t3 : AV) (t4 : AV) (t5 : AV) (h : HP) : Res2 :=
 nilckC t0 fun t115 =>
 faC 0 t115 fun t116 =>
 cellC t116 h fun t117 =>
 nilckC t117 fun t118 =>
 faC 0 t118 fun t119 =>
 cellC t119 h fun t120 =>
 faC 2 t3 fun t121 =>
 ldS t121 h fun t122 =>
 obQ (evL (.look .str (.agg [(.bool false), (.bool false), (.bool false), (.str []), (kI 0), (kI 0), .nils, (.bool false), .nils, (kI 0), .nils, .nils, (.str []), (kI 0), (kI 0), (kI 0), (kI 0)]) true (.c t120) (.c (vS t122))) .leaf h) fun t123 =>
 extC t123 0 fun t124 =>
 extC t123 1 fun vt125 => asB vt125 fun t125 =>
 let t9 : AV := AV.ptr (HP.nxQ h) 0
 let h7 : HP := HP.newQ h (.cells true [(.bool false), (.bool false), (.bool false), (.str []), (kI 0), (kI 0), .nils, (.bool false), .nils, (kI 0), .nils, .nils, (.str []), (kI 0), (kI 0), (kI 0), (kI 0)])
 stsC 17 t9 t124 h7 fun h8 =>
 cal D 46 [(vB t125)] h8 fun t127 h9 =>
 nilckC t0 fun t129 =>
 faC 0 t129 fun t130 =>
 cellC t130 h9 fun t131 =>
 cellsC 17 t9 h9 fun t132 =>
 cal D 47 [t131, t132, t5] h9 fun t134 h10 =>
 stsC 7 t4 t134 h10 fun h11 =>
 XFn.endOf x166 D (.ret ⟨(mkT [(p4, t4)]), h11, [], .no⟩)
def e166_2 (k) (t4 : AV) (t8 : AV) (h) := kN k [(p4, t4), (p8, t8)] h
def S166_2 (D : CallD) (m : Nat) (t4 : AV) (t8 : AV) (h : HP) : Res2 :=
 cellsC 7 t8 h fun t112 =>
 stsC 7 t4 t112 h fun h23 =>
 XFn.endOf x166 D (.ret ⟨(mkT [(p4, t4)]), h23, [], .no⟩)
def e166_0 (k) (t0 : AV) (t3 : AV) (t4 : AV) (t5 : AV) (h) := kN k [(p0, t0), (p3, t3), (p4, t4), (p5, t5)] h
def S166_0 (D : CallD) (m : Nat) (t0 : AV) (t3 : AV) (t4 : AV) (t5 : AV) (h : HP) : Res2 :=
 faC 2 t3 fun t25 =>
 ldS t25 h fun t26 =>
 let t28 : Bool := eqL t26 ([112, 117, 116, 119] : LN)
 br t28 (
 nilckC t0 fun t30 =>
 faC 0 t30 fun t31 =>
 cellC t31 h fun t32 =>
 nilckC t0 fun t34 =>
 faC 0 t34 fun t35 =>
 cellC t35 h fun t36 =>
 nilckC t36 fun t37 =>
 faC 3 t37 fun t38 =>
 cellC t38 h fun t39 =>
 iasC 7 t5 (vI (Int.ofNat 0)) fun t41 =>
 faC 0 t41 fun t42 =>
 faC 1 t42 fun t43 =>
 ldW t43 h fun t44 =>
 let t45 : AV := (AV.agg [(vI (Int.ofNat 1)), (vW t44), (AV.int .u64 (Int.ofNat 0))])
 let t46 : AV := AV.slice (HP.nxQ h) 0 1 (.exact 1)
 let h12 : HP := HP.newQ h (.cells true [(vI (Int.ofNat 1)), (vW t44), (AV.int .u64 (Int.ofNat 0))])
 eff (.app 3 24 (.c t39) (.c t46)) h12 fun t47 h13 =>
 br (again [⟨none, .cell q31, p32⟩] (mkT [(p32, t32), (p31, t31)]) h13) (
 nilckC t32 fun t48 =>
 faC 3 t48 fun t49 =>
 stoC t49 t47 h13 fun h14 =>
 let t50 : AV := (AV.agg [(vI (Int.ofNat 0)), (vW (Int.ofNat 0)), (AV.int .u64 (Int.ofNat 0)), (vS ([] : LN)), (vI (Int.ofNat 0)), (.nilp : AV), (vI (Int.ofNat 0))])
 stsC 7 t4 t50 h14 fun h15 =>
 XFn.endOf x166 D (.ret ⟨(mkT [(p4, t4)]), h15, [], .no⟩)) none) (
 let t52 : Bool := eqL t26 ([112, 117, 116, 100] : LN)
 br t52 (
 nilckC t0 fun t54 =>
 faC 0 t54 fun t55 =>
 cellC t55 h fun t56 =>
 nilckC t0 fun t58 =>
 faC 0 t58 fun t59 =>
 cellC t59 h fun t60 =>
 nilckC t60 fun t61 =>
 faC 3 t61 fun t62 =>
 cellC t62 h fun t63 =>
 iasC 7 t5 (vI (Int.ofNat 0)) fun t65 =>
 faC 0 t65 fun t66 =>
 faC 2 t66 fun t67 =>
 cellC t67 h fun vt68 => asI .u64 vt68 fun t68 =>
 let t69 : AV := (AV.agg [(vI (Int.ofNat 2)), (vW (Int.ofNat 0)), (AV.int .u64 t68)])
 let t70 : AV := AV.slice (HP.nxQ h) 0 1 (.exact 1)
 let h16 : HP := HP.newQ h (.cells true [(vI (Int.ofNat 2)), (vW (Int.ofNat 0)), (AV.int .u64 t68)])
 eff (.app 3 24 (.c t63) (.c t70)) h16 fun t71 h17 =>
 br (again [⟨none, .cell q55, p56⟩] (mkT [(p56, t56), (p55, t55)]) h17) (
 nilckC t56 fun t72 =>
 faC 3 t72 fun t73 =>
 stoC t73 t71 h17 fun h18 =>
 let t74 : AV := (AV.agg [(vI (Int.ofNat 0)), (vW (Int.ofNat 0)), (AV.int .u64 (Int.ofNat 0)), (vS ([] : LN)), (vI (Int.ofNat 0)), (.nilp : AV), (vI (Int.ofNat 0))])
 stsC 7 t4 t74 h18 fun h19 =>
 XFn.endOf x166 D (.ret ⟨(mkT [(p4, t4)]), h19, [], .no⟩)) none) (
 let t76 : Bool := eqL t26 ([103, 101, 116, 119] : LN)
 br t76 (
 cal D 68 [(vI (Int.ofNat 1))] h fun t77 h20 =>
 let t8 : AV := AV.ptr (HP.nxQ h20) 0
 let h21 : HP := HP.newQ h20 (.cells true [(kI 0), (.int .u32 (.ofNat 0)), (.int .u64 (.ofNat 0)), (.str []), (kI 0), .nilp, (kI 0)])
 stsC 7 t8 t77 h21 fun h22 =>
 nilckC t0 fun t79 =>
 faC 0 t79 fun t80 =>
 cellC t80 h22 fun t81 =>
 nilckC t81 fun t82 =>
 faC 2 t82 fun t83 =>
 cellC t83 h22 fun t84 =>
 lenC t84 fun vt85 => asI .i64 vt85 fun t85 =>
 let t86 : Bool := ltQ (Int.ofNat 0) t85
 br t86 (
 nilckC t0 fun t88 =>
 faC 0 t88 fun t89 =>
 cellC t89 h22 fun t90 =>
 nilckC t0 fun t92 =>
 faC 0 t92 fun t93 =>
 cellC t93 h22 fun t94 =>
 nilckC t94 fun t95 =>
 faC 2 t95 fun t96 =>
 cellC t96 h22 fun t97 =>
 iasC 1 t97 (vI (Int.ofNat 0)) fun t98 =>
 ldW t98 h22 fun t99 =>
 nilckC t0 fun t101 =>
 faC 0 t101 fun t102 =>
 cellC t102 h22 fun t103 =>
 nilckC t103 fun t104 =>
 faC 2 t104 fun t105 =>
 cellC t105 h22 fun t106 =>
 obQ (evP (.slice (.sl 1) (.c t106) (some (.c (vI (Int.ofNat 1)))) none none) .leaf) fun t107 =>
 let t108 : AV := (AV.ptr (HP.nxQ h20) (Nat.add 0 0))
 let t109 : AV := (AV.ptr (HP.nxQ h20) (Nat.add (Nat.add 0 0) 1))
 stoC t109 (vW t99) h22 fun h24 =>
 br (again [⟨none, .cell q89, p90⟩, ⟨none, .cell q102, p103⟩, ⟨none, .cell q105, p106⟩] (mkT [(p106, t106), (p105, t105), (p103, t103), (p102, t102), (p90, t90), (p89, t89)]) h24) (
 nilckC t90 fun t110 =>
 faC 2 t110 fun t111 =>
 stoC t111 t107 h24 fun h25 =>
 S166_2 D m t4 t8 h25) none) (
 S166_2 D m t4 t8 h22)) (
 S166_1 D m t0 t3 t4 t5 h)))
def e166_3 (k) (t0 : AV) (t3 : AV) (t4 : AV) (t5 : AV) (t12 : AV) (t13 : Int) (t14 : Int) (h) := kN k [(p0, t0), (p3, t3), (p4, t4), (p5, t5), (p12, t12), (p13, (vI t13)), (p14, (vI t14))] h
def S166_3b (D : CallD) (m : Nat) (g3 : AV → AV → AV → AV → AV → Int → Int → HP → Res2) (t0 : AV) (t3 : AV) (t4 : AV) (t5 : AV) (t12 : AV) (t13 : Int) (t14 : Int) (h : HP) : Res2 :=
 let t15 : Bool := ltQ t14 t13
 br t15 (
 iasC 8 t12 (vI t14) fun t16 =>
 cellsC 8 t16 h fun t17 =>
 let t7 : AV := AV.ptr (HP.nxQ h) 0
 let h26 : HP := HP.newQ h (.cells true [(kI 0), (.str []), (.str []), (.int .u32 (.ofNat 0)), (.int .u64 (.ofNat 0)), .nils, (kI 0), (kI 0)])
 stsC 8 t7 t17 h26 fun h27 =>
 cellsC 8 t7 h27 fun t20 =>
 cal D 135 [t0, t20] h27 fun t21 h28 =>
 obQ (evA (.bsl [(kI 0), (.int .u32 (.ofNat 0)), (.int .u64 (.ofNat 0)), (.str []), (kI 0), .nilp, (kI 0)] 1 [⟨0, 7, (.c t21)⟩]) .leaf) fun r29 =>
 let t22 : AV := vkV r29.2 (HP.nxQ h28)
 let h30 : HP := HP.newQ h28 r29.1
 eff (.app 7 64 (.c t5) (.c t22)) h30 fun t23 h31 =>
 let t24 : Int := wrQ .i64 (addQ t14 (Int.ofNat 1))
 g3 t0 t3 t4 t23 t12 t13 t24 h31) (
 S166_0 D m t0 t3 t4 t5 h)
def S166_3 (D : CallD) (m : Nat) : AV → AV → AV → AV → AV → Int → Int → HP → Res2 := nrec (fun _ _ _ _ _ _ _ _ => none) (fun _ g => S166_3b D m g) m
def e166_4 (k) (t0 : AV) (t1 : AV) (h) := kN k [(p0, t0), (p1, t1)] h
def S166_4 (D : CallD) (m : Nat) (t0 : AV) (t1 : AV) (h : HP) : Res2 :=
 let t3 : AV := AV.ptr (HP.nxQ h) 0
 let h5 : HP := HP.newQ h (.cells true (AV.cells t1))
 let t4 : AV := AV.ptr (HP.nxQ h5) 0
 let h6 : HP := HP.newQ h5 (.cells true [(kI 0), (.int .u32 (.ofNat 0)), (.int .u64 (.ofNat 0)), (.str []), (kI 0), .nilp, (kI 0)])
 let t11 : AV := (AV.ptr (HP.nxQ h) (Nat.add 0 5))
 cellC t11 h6 fun t12 =>
 lenC t12 fun vt13 => asI .i64 vt13 fun t13 =>
 S166_3 D m t0 t3 t4 (.nils : AV) t12 t13 (Int.ofNat 0) h6
def S166 : SFn := fun D m args h u => nou u <| popV args fun t0 args => popV args fun t1 args => endA args (S166_4 D m t0 t1 h)
theorem T166_1 {D m E} (hE : FX x166 D m E) : S166_1 D m = e166_1 (E c166_1 []) := by unfold S166_1; rw [hE c166_1]; kernel_rfl
theorem T166_2 {D m E} (hE : FX x166 D m E) : S166_2 D m = e166_2 (E c166_2 [.blk 2, .sj v166_1 c166_1]) := by unfold S166_2; rw [hE c166_2]; kernel_rfl
theorem T166_0 {D m E} (hE : FX x166 D m E) : S166_0 D m = e166_0 (E c166_0 []) := by unfold S166_0; rw [T166_2 hE, T166_1 hE, hE c166_0]; kernel_rfl
theorem T166_3b {D m E} (hE : FX x166 D m E) (G3) : S166_3b D m (e166_3 G3) = e166_3 (E c166_3b [.lp v166_3 G3, .blk 0, .sj v166_0 c166_0]) := by unfold S166_3b; rw [T166_0 hE, hE c166_3b]; kernel_rfl
theorem T166_3 {D m E} (hE : FX x166 D m E) : S166_3 D m = e166_3 (nrec (fun _ => none) (fun _ G3 st => E c166_3b [.lp v166_3 G3, .blk 0, .sj v166_0 c166_0] st) m) :=
  nrec_emb e166_3 (fun _ _ _ _ _ _ _ _ => none) (fun g => S166_3b D m g) (fun G3 st => E c166_3b [.lp v166_3 G3, .blk 0, .sj v166_0 c166_0] st) rfl (fun g => T166_3b hE g) m
theorem T166_4 {D m E} (hE : FX x166 D m E) : S166_4 D m = e166_4 (E c166_e []) := by unfold S166_4; rw [T166_3 hE, hE c166_e]; kernel_rfl
theorem X166 (D m args h u) : S166 D m args h u = evFX x166 D m args h u := by unfold S166; rw [T166_4 (fix_ok D m (x166.endOf D))]; show _ = evFXE x166 (evE2 D m (x166.endOf D)) args h u; generalize evE2 D m (x166.endOf D) = E; kernel_rfl
/- 167 -/
def v167_0 : List Pos := [p1]
def c167_0 : XC := (.sO [.mv p23 q1 tI, .mv p4 q23 tI] (.s .ret))
def v167_1 : List Pos := [p0, p1]
def c167_1b : XC := (.seq (.seq (.oX [.mv p5 q1 tI, .mv p6 q0 .s, .P p7 (.lens q6) tI, .bn p8 .lss q5 q7 .b, .mv p9 q8 .b, .ge p9 (XL.of [.G p9 true p10 (.mov q0) .s, .G p9 true p11 (.mov q1) tI, .G p9 true p12 (.idxs q10 q11) tC, .G p9 true p13 (.bin .geq q12 (.c (.int .u8 (.ofNat 48)))) .b, .P p14 (.pick q9 q13 (cb false)) .b]) p14 .b, .mv p15 q14 .b, .ge p15 (XL.of [.G p15 true p16 (.mov q0) .s, .G p15 true p17 (.mov q1) tI, .G p15 true p18 (.idxs q16 q17) tC, .G p15 true p19 (.bin .leq q18 (.c (.int .u8 (.ofNat 57)))) .b, .P p20 (.pick q15 q19 (cb false)) .b]) p20 .b]) (.cond q20 .skip (.exit 0))) (.block 1 (.s (.oX [.mv p21 q1 tI, .bn p22 .add q21 (ci 1) tI, .mv p1 q22 tI]))))
def c167_e : XC := (.sO [.mv p4 (ci 0) tI] (.sj v167_0 (.block 0 (.loop v167_1 c167_1b)) c167_0))
def x167 : XFn := ⟨[.s, tI], false, [(.tmp p4)], c167_e⟩
def e167_0 (k) (t1 : Int) (h) := kN k [(p1, (vI t1))] h
def S167_0 (D : CallD) (m : Nat) (t1 : Int) (h : HP) : Res2 :=
 some (.ret (vI t1) h, .no)
def e167_1 (k) (t0 : LN) (t1 : Int) (h) := kN k [(p0, (vS t0)), (p1, (vI t1))] h
def S167_1b (D : CallD) (m : Nat) (g1 : LN → Int → HP → Res2) (t0 : LN) (t1 : Int) (h : HP) : Res2 :=
 let t7 : Int := Int.ofNat (lenL t0)
 let t8 : Bool := ltQ t1 t7
 obB (brV t8 (
 ixCV (vS t0) (vI t1) fun vt12 => asIV .u8 vt12 fun t12 =>
 let t13 : Bool := leQ (Int.ofNat 48) t12
 some (vB t13)) (
 some (vB false))) fun t14 =>
 obB (brV t14 (
 ixCV (vS t0) (vI t1) fun vt18 => asIV .u8 vt18 fun t18 =>
 let t19 : Bool := leQ t18 (Int.ofNat 57)
 some (vB t19)) (
 some (vB false))) fun t20 =>
 br t20 (
 let t22 : Int := wrQ .i64 (addQ t1 (Int.ofNat 1))
 g1 t0 t22 h) (
 S167_0 D m t1 h)
def S167_1 (D : CallD) (m : Nat) : LN → Int → HP → Res2 := nrec (fun _ _ _ => none) (fun _ g => S167_1b D m g) m
def e167_2 (k) (t0 : LN) (t1 : Int) (h) := kN k [(p0, (vS t0)), (p1, (vI t1))] h
def S167_2 (D : CallD) (m : Nat) (t0 : LN) (t1 : Int) (h : HP) : Res2 :=
 S167_1 D m t0 t1 h
def S167 : SFn := fun D m args h u => nou u <| popS args fun t0 args => popI .i64 args fun t1 args => endA args (S167_2 D m t0 t1 h)
theorem T167_0 {D m E} (hE : FX x167 D m E) : S167_0 D m = e167_0 (E c167_0 []) := by unfold S167_0; rw [hE c167_0]; kernel_rfl
theorem T167_1b {D m E} (hE : FX x167 D m E) (G1) : S167_1b D m (e167_1 G1) = e167_1 (E c167_1b [.lp v167_1 G1, .blk 0, .sj v167_0 c167_0]) := by unfold S167_1b; rw [T167_0 hE, hE c167_1b]; kernel_rfl
theorem T167_1 {D m E} (hE : FX x167 D m E) : S167_1 D m = e167_1 (nrec (fun _ => none) (fun _ G1 st => E c167_1b [.lp v167_1 G1, .blk 0, .sj v167_0 c167_0] st) m) :=
  nrec_emb e167_1 (fun _ _ _ => none) (fun g => S167_1b D m g) (fun G1 st => E c167_1b [.lp v167_1 G1, .blk 0, .sj v167_0 c167_0] st) rfl (fun g => T167_1b hE g) m
theorem T167_2 {D m E} (hE : FX x167 D m E) : S167_2 D m = e167_2 (E c167_e []) := by unfold S167_2; rw [T167_1 hE, hE c167_e]; kernel_rfl
theorem X167 (D m args h u) : S167 D m args h u = evFX x167 D m args h u := by unfold S167; rw [T167_2 (fix_ok D m (x167.endOf D))]; show _ = evFXE x167 (evE2 D m (x167.endOf D)) args h u; generalize evE2 D m (x167.endOf D) = E; kernel_rfl
/- 168 -/
def v168_1 : List Pos := [p1, p2, p3, p5]
def c168_1 : XC := (.seq (.ops true (XL.of [.L p109 (.cells 5 q1) .v, .L p110 (.cells 8 q5) .v, .o ⟨none, (.e (.stores 5 q2 q109)), none, [⟨none, .cells 8 q5, p110⟩]⟩ .v, .ss 8 q3 q110])) (.s .ret))
def v168_2 : List Pos := [p1, p2, p3, p5]
def c168_2b : XC := (.seq (.seq (.oX [.L p92 (.cells 5 q1) .v, .cl p93 73 [q92, (.c (.str [91]))] .b]) (.cond q93 .skip (.exit 0))) (.block 1 (.sO [.P p94 (.build [(kI 0), (.str []), (.str []), (.int .u32 (.ofNat 0)), (.int .u64 (.ofNat 0)), .nils, (kI 0), (kI 0)] []) .v, .al p9 (.new [(kI 0), (.str []), (.str []), (.int .u32 (.ofNat 0)), (.int .u64 (.ofNat 0)), .nils, (kI 0), (kI 0)]), .ss 8 q9 q94] (.sO [.L p96 (.cells 5 q1) .v, .cl p97 74 [q96] .v, .cl p98 81 [q97] .v, .mv p95 q98 .v, .P p99 (.ext q95 0) .v, .P p100 (.ext q95 1) .v, .ss 5 q1 q99, .ss 8 q9 q100] (.sO [.L p101 (.cells 8 q5) .v, .L p102 (.cells 8 q9) .v, .al p103 (.bsl [(kI 0), (.str []), (.str []), (.int .u32 (.ofNat 0)), (.int .u64 (.ofNat 0)), .nils, (kI 0), (kI 0), (kI 0), (.str []), (.str []), (.int .u32 (.ofNat 0)), (.int .u64 (.ofNat 0)), .nils, (kI 0), (kI 0)] 2 [⟨0, 8, q101⟩, ⟨8, 8, q102⟩]), .fa p104 7 q5, .ld p105 q104 tI, .P p106 (.build [(kI 0), (.str []), (.str []), (.int .u32 (.ofNat 0)), (.int .u64 (.ofNat 0)), .nils, (kI 0), (kI 0)] [⟨0, 1, (ci 8)⟩, ⟨5, 1, q103⟩, ⟨7, 1, q105⟩]) .v, .ss 8 q5 q106] (.s (.oX [.L p107 (.cells 5 q1) .v, .cl p108 79 [q107, (.c (.str [93]))] .v, .ss 5 q1 q108])))))))
def v168_0 : List Pos := [p1, p2, p3, p4, p5]
def c168_0 : XC := (.seq (.seq (.oX [.L p53 (.cells 5 q1) .v, .cl p54 73 [q53, (.c (.str [40]))] .b, .mv p55 q54 .b, .ge p55 (XL.of [.G p55 true p56 (.faddr 0 q1) .v, .o ⟨(some p57), (.l (.cell q56)), (some (p55, true)), []⟩ .v, .G p55 true p58 (.faddr 1 q1) .v, .o ⟨(some p59), (.l (.cell q58)), (some (p55, true)), []⟩ tI, .G p55 true p60 (.bin .add q59 (ci 1)) tI, .G p55 true p61 (.iaddr (.sl 3) q57 q60) .v, .G p55 true p62 (.faddr 0 q61) .v, .o ⟨(some p63), (.l (.cell q62)), (some (p55, true)), []⟩ tI, .G p55 true p64 (.bin .eql q63 (ci 5)) .b, .P p65 (.pick q55 q64 (cb false)) .b]) p65 .b]) (.cond q65 (.seq (.oX [.P p66 (.build [(kI 0), (.str []), (.str []), (.int .u32 (.ofNat 0)), (.int .u64 (.ofNat 0)), .nils, (kI 0), (kI 0)] []) .v, .al p7 (.new [(kI 0), (.str []), (.str []), (.int .u32 (.ofNat 0)), (.int .u64 (.ofNat 0)), .nils, (kI 0), (kI 0)]), .ss 8 q7 q66]) (.seq (.oX [.mv p8 (ci 0) tI]) (.seq (.oX [.L p68 (.cells 5 q1) .v, .cl p69 74 [q68] .v, .cl p70 75 [q69] .v, .mv p67 q70 .v, .P p71 (.ext q67 0) .v, .P p72 (.ext q67 1) tI, .ss 5 q1 q71, .mv p8 q72 tI]) (.seq (.oX [.L p74 (.cells 5 q1) .v, .cl p75 79 [q74, (.c (.str [41]))] .v, .cl p76 139 [q75] .v, .mv p73 q76 .v, .P p77 (.ext q73 0) .v, .P p78 (.ext q73 1) .v, .ss 5 q1 q77, .ss 8 q7 q78]) (.seq (.ops true (XL.of [.L p79 (.cells 5 q1) .v, .mv p80 q8 tI, .P p81 (.conv (.ii .u32) q80) tW, .L p82 (.cells 8 q7) .v, .al p83 (.bsl [(kI 0), (.str []), (.str []), (.int .u32 (.ofNat 0)), (.int .u64 (.ofNat 0)), .nils, (kI 0), (kI 0)] 1 [⟨0, 8, q82⟩]), .fa p84 2 q4, .ld p85 q84 tI, .P p86 (.build [(kI 0), (.str []), (.str []), (.int .u32 (.ofNat 0)), (.int .u64 (.ofNat 0)), .nils, (kI 0), (kI 0)] [⟨0, 1, (ci 9)⟩, ⟨3, 1, q81⟩, ⟨5, 1, q83⟩, ⟨7, 1, q85⟩]) .v, .o ⟨none, (.e (.stores 5 q2 q79)), none, [⟨none, .cells 8 q7, p82⟩, ⟨none, .cell q84, p85⟩]⟩ .v, .ss 8 q3 q86])) .ret))))) .skip)) (.sO [.L p88 (.cells 5 q1) .v, .cl p89 187 [q88] .v, .mv p87 q89 .v, .P p90 (.ext q87 0) .v, .P p91 (.ext q87 1) .v, .ss 5 q1 q90, .ss 8 q5 q91] (.sj v168_1 (.block 0 (.loop v168_2 c168_2b)) c168_1)))
def c168_7 : XC := (.cond q37 (.sO [.P p38 (.build [(kI 0), (.str []), (.str []), (.int .u32 (.ofNat 0)), (.int .u64 (.ofNat 0)), .nils, (kI 0), (kI 0)] []) .v, .al p6 (.new [(kI 0), (.str []), (.str []), (.int .u32 (.ofNat 0)), (.int .u64 (.ofNat 0)), .nils, (kI 0), (kI 0)]), .ss 8 q6 q38] (.sO [.L p40 (.cells 5 q1) .v, .cl p41 74 [q40] .v, .cl p42 139 [q41] .v, .mv p39 q42 .v, .P p43 (.ext q39 0) .v, .P p44 (.ext q39 1) .v, .ss 5 q1 q43, .ss 8 q6 q44] (.seq (.ops true (XL.of [.L p45 (.cells 5 q1) .v, .fa p46 1 q4, .ld p47 q46 .s, .L p48 (.cells 8 q6) .v, .al p49 (.bsl [(kI 0), (.str []), (.str []), (.int .u32 (.ofNat 0)), (.int .u64 (.ofNat 0)), .nils, (kI 0), (kI 0)] 1 [⟨0, 8, q48⟩]), .fa p50 2 q4, .ld p51 q50 tI, .P p52 (.build [(kI 0), (.str []), (.str []), (.int .u32 (.ofNat 0)), (.int .u64 (.ofNat 0)), .nils, (kI 0), (kI 0)] [⟨0, 1, (ci 4)⟩, ⟨1, 1, q47⟩, ⟨5, 1, q49⟩, ⟨7, 1, q51⟩]) .v, .o ⟨none, (.e (.stores 5 q2 q45)), none, [⟨none, .cell q46, p47⟩, ⟨none, .cells 8 q6, p48⟩, ⟨none, .cell q50, p51⟩]⟩ .v, .ss 8 q3 q52])) (.s .ret)))) (.s .skip))
def l168_6 : XL := (XL.of [])
def l168_5 : XL := (XL.pre [.mv p34 q33 .b, .sp p34, .o ⟨(some p35), (.l (.cells 5 q1)), (some (p34, false)), []⟩ .v, .o ⟨(some p36), (.call (.fn 73) [q35, (.c (.str [38]))]), (some (p34, false)), []⟩ .b, .P p37 (.pick q34 (cb true) q36) .b, .jn p34 [p1, p2, p3, p4, p5, p37]] l168_6)
def l168_4 : XL := (XL.pre [.mv p30 q29 .b, .sp p30, .o ⟨(some p31), (.l (.cells 5 q1)), (some (p30, false)), []⟩ .v, .o ⟨(some p32), (.call (.fn 73) [q31, (.c (.str [42]))]), (some (p30, false)), []⟩ .b, .P p33 (.pick q30 (cb true) q32) .b, .jn p30 [p1, p2, p3, p4, p5, p33]] l168_5)
def l168_3 : XL := (XL.pre [.mv p26 q25 .b, .sp p26, .o ⟨(some p27), (.l (.cells 5 q1)), (some (p26, false)), []⟩ .v, .o ⟨(some p28), (.call (.fn 73) [q27, (.c (.str [126]))]), (some (p26, false)), []⟩ .b, .P p29 (.pick q26 (cb true) q28) .b, .jn p26 [p1, p2, p3, p4, p5, p29]] l168_4)
def c168_e : XC := (.sO [.al p1 (.box q0), .al p2 (.new [.nils, (kI 0), (kI 0), (kI 0), (kI 0)]), .al p3 (.new [(kI 0), (.str []), (.str []), (.int .u32 (.ofNat 0)), (.int .u64 (.ofNat 0)), .nils, (kI 0), (kI 0)])] (.sO [.L p10 (.cells 5 q1) .v, .cl p11 50 [q10] .v, .al p4 (.new [(kI 0), (.str []), (kI 0)]), .ss 3 q4 q11] (.sO [.fa p12 2 q4, .ld p13 q12 tI, .P p14 (.build [(kI 0), (.str []), (.str []), (.int .u32 (.ofNat 0)), (.int .u64 (.ofNat 0)), .nils, (kI 0), (kI 0)] [⟨7, 1, q13⟩]) .v, .al p5 (.new [(kI 0), (.str []), (.str []), (.int .u32 (.ofNat 0)), (.int .u64 (.ofNat 0)), .nils, (kI 0), (kI 0)]), .ss 8 q5 q14] (.seq (.seq (.oX [.fa p15 3 q1, .ld p16 q15 tI, .bn p17 .neq q16 (ci 0) .b]) (.cond q17 (.seq (.ops true (XL.of [.L p18 (.cells 5 q1) .v, .L p19 (.cells 8 q5) .v, .o ⟨none, (.e (.stores 5 q2 q18)), none, [⟨none, .cells 8 q5, p19⟩]⟩ .v, .ss 8 q3 q19])) .ret) .skip)) (.sj v168_0 (.opq false (XL.pre [.L p20 (.cells 5 q1) .v, .cl p21 73 [q20, (.c (.str [45]))] .b, .mv p22 q21 .b, .sp p22, .o ⟨(some p23), (.l (.cells 5 q1)), (some (p22, false)), []⟩ .v, .o ⟨(some p24), (.call (.fn 73) [q23, (.c (.str [33]))]), (some (p22, false)), []⟩ .b, .P p25 (.pick q22 (cb true) q24) .b, .jn p22 [p1, p2, p3, p4, p5, p25]] l168_3) c168_7) c168_0)))))
def x168 : XFn := ⟨[.v], false, [(.cells 5 p2), (.cells 8 p3)], c168_e⟩
def e168_1 (k) (t1 : AV) (t2 : AV) (t3 : AV) (t5 : AV) (h) := kN k [(p1, t1), (p2, t2), (p3, t3), (p5, t5)] h
def S168_1 (D : CallD) (m : Nat) (t1 : AV) (t2 : AV) (t3 : AV) (t5 : AV) (h : HP) : Res2 :=
 cellsC 5 t1 h fun t109 =>
 cellsC 8 t5 h fun t110 =>
 stsC 5 t2 t109 h fun h36 =>
 br (again [⟨none, .cells 8 q5, p110⟩] (mkT [(p110, t110), (p5, t5)]) h36) (
 stsC 8 t3 t110 h36 fun h37 =>
 XFn.endOf x168 D (.ret ⟨(mkT [(p2, t2), (p3, t3)]), h37, [], .no⟩)) none
def e168_2 (k) (t1 : AV) (t2 : AV) (t3 : AV) (t5 : AV) (h) := kN k [(p1, t1), (p2, t2), (p3, t3), (p5, t5)] h
def S168_2b (D : CallD) (m : Nat) (g2 : AV → AV → AV → AV → HP → Res2) (t1 : AV) (t2 : AV) (t3 : AV) (t5 : AV) (h : HP) : Res2 :=
 cellsC 5 t1 h fun t92 =>
 cal D 73 [t92, (vS ([91] : LN))] h fun t93 h38 =>
 asB t93 fun t93a =>
 br t93a (
 let t94 : AV := (AV.agg [(vI (Int.ofNat 0)), (vS ([] : LN)), (vS ([] : LN)), (vW (Int.ofNat 0)), (AV.int .u64 (Int.ofNat 0)), (.nils : AV), (vI (Int.ofNat 0)), (vI (Int.ofNat 0))])
 let t9 : AV := AV.ptr (HP.nxQ h38) 0
 let h39 : HP := HP.newQ h38 (.cells true [(kI 0), (.str []), (.str []), (.int .u32 (.ofNat 0)), (.int .u64 (.ofNat 0)), .nils, (kI 0), (kI 0)])
 stsC 8 t9 t94 h39 fun h40 =>
 cellsC 5 t1 h40 fun t96 =>
 cal D 74 [t96] h40 fun t97 h41 =>
 cal D 81 [t97] h41 fun t98 h42 =>
 extC t98 0 fun t99 =>
 extC t98 1 fun t100 =>
 stsC 5 t1 t99 h42 fun h43 =>
 stsC 8 t9 t100 h43 fun h44 =>
 cellsC 8 t5 h44 fun t101 =>
 cellsC 8 t9 h44 fun t102 =>
 obQ (evA (.bsl [(kI 0), (.str []), (.str []), (.int .u32 (.ofNat 0)), (.int .u64 (.ofNat 0)), .nils, (kI 0), (kI 0), (kI 0), (.str []), (.str []), (.int .u32 (.ofNat 0)), (.int .u64 (.ofNat 0)), .nils, (kI 0), (kI 0)] 2 [⟨0, 8, (.c t101)⟩, ⟨8, 8, (.c t102)⟩]) .leaf) fun r45 =>
 let t103 : AV := vkV r45.2 (HP.nxQ h44)
 let h46 : HP := HP.newQ h44 r45.1
 faC 7 t5 fun t104 =>
 ldI t104 h46 fun t105 =>
 obQ (evP (.build [(kI 0), (.str []), (.str []), (.int .u32 (.ofNat 0)), (.int .u64 (.ofNat 0)), .nils, (kI 0), (kI 0)] [⟨0, 1, (.c (vI (Int.ofNat 8)))⟩, ⟨5, 1, (.c t103)⟩, ⟨7, 1, (.c (vI t105))⟩]) .leaf) fun t106 =>
 stsC 8 t5 t106 h46 fun h47 =>
 cellsC 5 t1 h47 fun t107 =>
 cal D 79 [t107, (vS ([93] : LN))] h47 fun t108 h48 =>
 stsC 5 t1 t108 h48 fun h49 =>
 g2 t1 t2 t3 t5 h49) (
 S168_1 D m t1 t2 t3 t5 h38)
def S168_2 (D : CallD) (m : Nat) : AV → AV → AV → AV → HP → Res2 := nrec (fun _ _ _ _ _ => none) (fun _ g => S168_2b D m g) m
def e168_0 (k) (t1 : AV) (t2 : AV) (t3 : AV) (t4 : AV) (t5 : AV) (h) := kN k [(p1, t1), (p2, t2), (p3, t3), (p4, t4), (p5, t5)] h
def S168_0 (D : CallD) (m : Nat) (t1 : AV) (t2 : AV) (t3 : AV) (t4 : AV) (t5 : AV) (h : HP) : Res2 :=
 cellsC 5 t1 h fun t53 =>
 cal D 73 [t53, (vS ([40] : LN))] h fun t54 h19 =>
 asB t54 fun t54a =>
 obB (brV t54a (
 faCV 0 t1 fun t56 =>
 cellCV t56 h19 fun t57 =>
 faCV 1 t1 fun t58 =>
 ldIV t58 h19 fun t59 =>
 let t60 : Int := wrQ .i64 (addQ t59 (Int.ofNat 1))
 iasCV 3 t57 (vI t60) fun t61 =>
 faCV 0 t61 fun t62 =>
 ldIV t62 h19 fun t63 =>
 let t64 : Bool := eqQ t63 (Int.ofNat 5)
 some (vB t64)) (
 some (vB false))) fun t65 =>
 br t65 (
 let t66 : AV := (AV.agg [(vI (Int.ofNat 0)), (vS ([] : LN)), (vS ([] : LN)), (vW (Int.ofNat 0)), (AV.int .u64 (Int.ofNat 0)), (.nils : AV), (vI (Int.ofNat 0)), (vI (Int.ofNat 0))])
 let t7 : AV := AV.ptr (HP.nxQ h19) 0
 let h20 : HP := HP.newQ h19 (.cells true [(kI 0), (.str []), (.str []), (.int .u32 (.ofNat 0)), (.int .u64 (.ofNat 0)), .nils, (kI 0), (kI 0)])
 stsC 8 t7 t66 h20 fun h21 =>
 cellsC 5 t1 h21 fun t68 =>
 cal D 74 [t68] h21 fun t69 h22 =>
 cal D 75 [t69] h22 fun t70 h23 =>
 extC t70 0 fun t71 =>
 extC t70 1 fun vt72 => asI .i64 vt72 fun t72 =>
 stsC 5 t1 t71 h23 fun h24 =>
 cellsC 5 t1 h24 fun t74 =>
 cal D 79 [t74, (vS ([41] : LN))] h24 fun t75 h25 =>
 cal D 139 [t75] h25 fun t76 h26 =>
 extC t76 0 fun t77 =>
 extC t76 1 fun t78 =>
 stsC 5 t1 t77 h26 fun h27 =>
 stsC 8 t7 t78 h27 fun h28 =>
 cellsC 5 t1 h28 fun t79 =>
 let t81 : Int := wrapF .u32 t72
 cellsC 8 t7 h28 fun t82 =>
 obQ (evA (.bsl [(kI 0), (.str []), (.str []), (.int .u32 (.ofNat 0)), (.int .u64 (.ofNat 0)), .nils, (kI 0), (kI 0)] 1 [⟨0, 8, (.c t82)⟩]) .leaf) fun r29 =>
 let t83 : AV := vkV r29.2 (HP.nxQ h28)
 let h30 : HP := HP.newQ h28 r29.1
 faC 2 t4 fun t84 =>
 ldI t84 h30 fun t85 =>
 obQ (evP (.build [(kI 0), (.str []), (.str []), (.int .u32 (.ofNat 0)), (.int .u64 (.ofNat 0)), .nils, (kI 0), (kI 0)] [⟨0, 1, (.c (vI (Int.ofNat 9)))⟩, ⟨3, 1, (.c (vW t81))⟩, ⟨5, 1, (.c t83)⟩, ⟨7, 1, (.c (vI t85))⟩]) .leaf) fun t86 =>
 stsC 5 t2 t79 h30 fun h31 =>
 br (again [⟨none, .cells 8 q7, p82⟩, ⟨none, .cell q84, p85⟩] (mkT [(p85, (vI t85)), (p84, t84), (p82, t82), (p7, t7)]) h31) (
 stsC 8 t3 t86 h31 fun h32 =>
 XFn.endOf x168 D (.ret ⟨(mkT [(p2, t2), (p3, t3)]), h32, [], .no⟩)) none) (
 cellsC 5 t1 h19 fun t88 =>
 cal D 187 [t88] h19 fun t89 h33 =>
 extC t89 0 fun t90 =>
 extC t89 1 fun t91 =>
 stsC 5 t1 t90 h33 fun h34 =>
 stsC 8 t5 t91 h34 fun h35 =>
 S168_2 D m t1 t2 t3 t5 h35)
def e168_6 (k) (t1 : AV) (t2 : AV) (t3 : AV) (t4 : AV) (t5 : AV) (t37 : Bool) (h) := kN k [(p1, t1), (p2, t2), (p3, t3), (p4, t4), (p5, t5), (p37, (vB t37))] h
def S168_6 (D : CallD) (m : Nat) (t1 : AV) (t2 : AV) (t3 : AV) (t4 : AV) (t5 : AV) (t37 : Bool) (h : HP) : Res2 :=
 br t37 (
 let t38 : AV := (AV.agg [(vI (Int.ofNat 0)), (vS ([] : LN)), (vS ([] : LN)), (vW (Int.ofNat 0)), (AV.int .u64 (Int.ofNat 0)), (.nils : AV), (vI (Int.ofNat 0)), (vI (Int.ofNat 0))])
 let t6 : AV := AV.ptr (HP.nxQ h) 0
 let h51 : HP := HP.newQ h (.cells true [(kI 0), (.str []), (.str []), (.int .u32 (.ofNat 0)), (.int .u64 (.ofNat 0)), .nils, (kI 0), (kI 0)])
 stsC 8 t6 t38 h51 fun h52 =>
 cellsC 5 t1 h52 fun t40 =>
 cal D 74 [t40] h52 fun t41 h53 =>
 cal D 139 [t41] h53 fun t42 h54 =>
 extC t42 0 fun t43 =>
 extC t42 1 fun t44 =>
 stsC 5 t1 t43 h54 fun h55 =>
 stsC 8 t6 t44 h55 fun h56 =>
 cellsC 5 t1 h56 fun t45 =>
 faC 1 t4 fun t46 =>
 ldS t46 h56 fun t47 =>
 cellsC 8 t6 h56 fun t48 =>
 obQ (evA (.bsl [(kI 0), (.str []), (.str []), (.int .u32 (.ofNat 0)), (.int .u64 (.ofNat 0)), .nils, (kI 0), (kI 0)] 1 [⟨0, 8, (.c t48)⟩]) .leaf) fun r57 =>
 let t49 : AV := vkV r57.2 (HP.nxQ h56)
 let h58 : HP := HP.newQ h56 r57.1
 faC 2 t4 fun t50 =>
 ldI t50 h58 fun t51 =>
 obQ (evP (.build [(kI 0), (.str []), (.str []), (.int .u32 (.ofNat 0)), (.int .u64 (.ofNat 0)), .nils, (kI 0), (kI 0)] [⟨0, 1, (.c (vI (Int.ofNat 4)))⟩, ⟨1, 1, (.c (vS t47))⟩, ⟨5, 1, (.c t49)⟩, ⟨7, 1, (.c (vI t51))⟩]) .leaf) fun t52 =>
 stsC 5 t2 t45 h58 fun h59 =>
 br (again [⟨none, .cell q46, p47⟩, ⟨none, .cells 8 q6, p48⟩, ⟨none, .cell q50, p51⟩] (mkT [(p51, (vI t51)), (p50, t50), (p48, t48), (p6, t6), (p47, (vS t47)), (p46, t46)]) h59) (
 stsC 8 t3 t52 h59 fun h60 =>
 XFn.endOf x168 D (.ret ⟨(mkT [(p2, t2), (p3, t3)]), h60, [], .no⟩)) none) (
 S168_0 D m t1 t2 t3 t4 t5 h)
def e168_5 (k) (t1 : AV) (t2 : AV) (t3 : AV) (t4 : AV) (t5 : AV) (t33 : Bool) (h) := kN k [(p1, t1), (p2, t2), (p3, t3), (p4, t4), (p5, t5), (p33, (vB t33))] h
def S168_5 (D : CallD) (m : Nat) (t1 : AV) (t2 : AV) (t3 : AV) (t4 : AV) (t5 : AV) (t33 : Bool) (h : HP) : Res2 :=
 br t33 (
 S168_6 D m t1 t2 t3 t4 t5 true h) (
 cellsC 5 t1 h fun t35 =>
 cal D 73 [t35, (vS ([38] : LN))] h fun t36 h61 =>
 asB t36 fun t36a =>
 S168_6 D m t1 t2 t3 t4 t5 t36a h61)
def e168_4 (k) (t1 : AV) (t2 : AV) (t3 : AV) (t4 : AV) (t5 : AV) (t29 : Bool) (h) := kN k [(p1, t1), (p2, t2), (p3, t3), (p4, t4), (p5, t5), (p29, (vB t29))] h
def S168_4 (D : CallD) (m : Nat) (t1 : AV) (t2 : AV) (t3 : AV) (t4 : AV) (t5 : AV) (t29 : Bool) (h : HP) : Res2 :=
 br t29 (
 S168_5 D m t1 t2 t3 t4 t5 true h) (
 cellsC 5 t1 h fun t31 =>
 cal D 73 [t31, (vS ([42] : LN))] h fun t32 h62 =>
 asB t32 fun t32a =>
 S168_5 D m t1 t2 t3 t4 t5 t32a h62)
def e168_3 (k) (t1 : AV) (t2 : AV) (t3 : AV) (t4 : AV) (t5 : AV) (t25 : Bool) (h) := kN k [(p1, t1), (p2, t2), (p3, t3), (p4, t4), (p5, t5), (p25, (vB t25))] h
def S168_3 (D : CallD) (m : Nat) (t1 : AV) (t2 : AV) (t3 : AV) (t4 : AV) (t5 : AV) (t25 : Bool) (h : HP) : Res2 :=
 br t25 (
 S168_4 D m t1 t2 t3 t4 t5 true h) (
 cellsC 5 t1 h fun t27 =>
 cal D 73 [t27, (vS ([126] : LN))] h fun t28 h63 =>
 asB t28 fun t28a =>
 S168_4 D m t1 t2 t3 t4 t5 t28a h63)
def e168_8 (k) (t0 : AV) (h) := kN k [(p0, t0)] h
def S168_8 (D : CallD) (m : Nat) (t0 : AV) (h : HP) : Res2 :=
 let t1 : AV := AV.ptr (HP.nxQ h) 0
 let h9 : HP := HP.newQ h (.cells true (AV.cells t0))
 let t2 : AV := AV.ptr (HP.nxQ h9) 0
 let h10 : HP := HP.newQ h9 (.cells true [.nils, (kI 0), (kI 0), (kI 0), (kI 0)])
 let t3 : AV := AV.ptr (HP.nxQ h10) 0
 let h11 : HP := HP.newQ h10 (.cells true [(kI 0), (.str []), (.str []), (.int .u32 (.ofNat 0)), (.int .u64 (.ofNat 0)), .nils, (kI 0), (kI 0)])
 cellsC 5 t1 h11 fun t10 =>
 cal D 50 [t10] h11 fun t11 h12 =>
 let t4 : AV := AV.ptr (HP.nxQ h12) 0
 let h13 : HP := HP.newQ h12 (.cells true [(kI 0), (.str []), (kI 0)])
 stsC 3 t4 t11 h13 fun h14 =>
 let t12 : AV := (AV.ptr (HP.nxQ h12) (Nat.add 0 2))
 ldI t12 h14 fun t13 =>
 let t14 : AV := (AV.agg [(vI (Int.ofNat 0)), (vS ([] : LN)), (vS ([] : LN)), (vW (Int.ofNat 0)), (AV.int .u64 (Int.ofNat 0)), (.nils : AV), (vI (Int.ofNat 0)), (vI t13)])
 let t5 : AV := AV.ptr (HP.nxQ h14) 0
 let h15 : HP := HP.newQ h14 (.cells true [(kI 0), (.str []), (.str []), (.int .u32 (.ofNat 0)), (.int .u64 (.ofNat 0)), .nils, (kI 0), (kI 0)])
 stsC 8 t5 t14 h15 fun h16 =>
 let t15 : AV := (AV.ptr (HP.nxQ h) (Nat.add 0 3))
 ldI t15 h16 fun t16 =>
 let t17 : Bool := notQ (eqQ t16 (Int.ofNat 0))
 br t17 (
 cellsC 5 t1 h16 fun t18 =>
 cellsC 8 t5 h16 fun t19 =>
 stsC 5 t2 t18 h16 fun h17 =>
 br (again [⟨none, .cells 8 q5, p19⟩] (mkT [(p19, t19), (p5, t5)]) h17) (
 stsC 8 t3 t19 h17 fun h18 =>
 XFn.endOf x168 D (.ret ⟨(mkT [(p2, t2), (p3, t3)]), h18, [], .no⟩)) none) (
 cellsC 5 t1 h16 fun t20 =>
 cal D 73 [t20, (vS ([45] : LN))] h16 fun t21 h50 =>
 asB t21 fun t21a =>
 br t21a (
 S168_3 D m t1 t2 t3 t4 t5 true h50) (
 cellsC 5 t1 h50 fun t23 =>
 cal D 73 [t23, (vS ([33] : LN))] h50 fun t24 h64 =>
 asB t24 fun t24a =>
 S168_3 D m t1 t2 t3 t4 t5 t24a h64))
def S168 : SFn := fun D m args h u => nou u <| popV args fun t0 args => endA args (S168_8 D m t0 h)
theorem T168_1 {D m E} (hE : FX x168 D m E) : S168_1 D m = e168_1 (E c168_1 []) := by unfold S168_1; rw [hE c168_1]; kernel_rfl
theorem T168_2b {D m E} (hE : FX x168 D m E) (G2) : S168_2b D m (e168_2 G2) = e168_2 (E c168_2b [.lp v168_2 G2, .blk 0, .sj v168_1 c168_1]) := by unfold S168_2b; rw [T168_1 hE, hE c168_2b]; kernel_rfl
theorem T168_2 {D m E} (hE : FX x168 D m E) : S168_2 D m = e168_2 (nrec (fun _ => none) (fun _ G2 st => E c168_2b [.lp v168_2 G2, .blk 0, .sj v168_1 c168_1] st) m) :=
  nrec_emb e168_2 (fun _ _ _ _ _ => none) (fun g => S168_2b D m g) (fun G2 st => E c168_2b [.lp v168_2 G2, .blk 0, .sj v168_1 c168_1] st) rfl (fun g => T168_2b hE g) m
theorem T168_0 {D m E} (hE : FX x168 D m E) : S168_0 D m = e168_0 (E c168_0 []) := by unfold S168_0; rw [T168_2 hE, hE c168_0]; kernel_rfl
theorem T168_6 {D m E} (hE : FX x168 D m E) : S168_6 D m = e168_6 (E (.opq false l168_6 c168_7) [.sj v168_0 c168_0]) := by unfold S168_6; rw [T168_0 hE, hE (.opq false l168_6 c168_7)]; kernel_rfl
theorem T168_5 {D m E} (hE : FX x168 D m E) : S168_5 D m = e168_5 (E (.opq false l168_5 c168_7) [.sj v168_0 c168_0]) := by unfold S168_5; rw [T168_6 hE, hE (.opq false l168_5 c168_7)]; kernel_rfl
theorem T168_4 {D m E} (hE : FX x168 D m E) : S168_4 D m = e168_4 (E (.opq false l168_4 c168_7) [.sj v168_0 c168_0]) := by unfold S168_4; rw [T168_5 hE, hE (.opq false l168_4 c168_7)]; kernel_rfl
theorem T168_3 {D m E} (hE : FX x168 D m E) : S168_3 D m = e168_3 (E (.opq false l168_3 c168_7) [.sj v168_0 c168_0]) := by unfold S168_3; rw [T168_4 hE, hE (.opq false l168_3 c168_7)]; kernel_rfl
theorem T168_8 {D m E} (hE : FX x168 D m E) : S168_8 D m = e168_8 (E c168_e []) := by unfold S168_8; rw [T168_3 hE, hE c168_e]; kernel_rfl
theorem X168 (D m args h u) : S168 D m args h u = evFX x168 D m args h u := by unfold S168; rw [T168_8 (fix_ok D m (x168.endOf D))]; show _ = evFXE x168 (evE2 D m (x168.endOf D)) args h u; generalize evE2 D m (x168.endOf D) = E; kernel_rfl
/- 170 -/
def v170_0 : List Pos := []
def c170_0 : XC := (.sO [.mv p4 (cb false) .b] (.s .ret))
def v170_1 : List Pos := [p0, p1, p7, p8]
def c170_1b : XC := (.sO [.bn p9 .lss q8 q7 .b] (.seq (.cond q9 .skip (.exit 0)) (.seq (.block 1 (.seq (.oX [.mv p10 q8 tI, .mv p5 q10 tI]) (.seq (.oX [.mv p11 q0 .v, .mv p12 q5 tI, .P p13 (.iaddr (.sl 1) q11 q12) .v, .ld p14 q13 .s, .mv p15 q1 .s, .bn p16 .eql q14 q15 .b]) (.cond q16 (.seq (.oX [.mv p4 (cb true) .b]) .ret) .skip)))) (.s (.oX [.bn p17 .add q8 (ci 1) tI, .mv p8 q17 tI])))))
def c170_e : XC := (.sO [.mv p4 (cb false) .b] (.sj v170_0 (.sO [.mv p6 q0 .v, .P p7 (.lenl q6) tI, .mv p8 (ci 0) tI] (.block 0 (.loop v170_1 c170_1b))) c170_0))
def x170 : XFn := ⟨[.v, .s], false, [(.tmp p4)], c170_e⟩
def e170_0 (k) (h) := kN k [] h
def S170_0 (D : CallD) (m : Nat) (h : HP) : Res2 :=
 some (.ret (vB false) h, .no)
def e170_1 (k) (t0 : AV) (t1 : LN) (t7 : Int) (t8 : Int) (h) := kN k [(p0, t0), (p1, (vS t1)), (p7, (vI t7)), (p8, (vI t8))] h
def S170_1b (D : CallD) (m : Nat) (g1 : AV → LN → Int → Int → HP → Res2) (t0 : AV) (t1 : LN) (t7 : Int) (t8 : Int) (h : HP) : Res2 :=
 let t9 : Bool := ltQ t8 t7
 br t9 (
 iasC 1 t0 (vI t8) fun t13 =>
 ldS t13 h fun t14 =>
 let t16 : Bool := eqL t14 t1
 br t16 (
 some (.ret (vB true) h, .no)) (
 let t17 : Int := wrQ .i64 (addQ t8 (Int.ofNat 1))
 g1 t0 t1 t7 t17 h)) (
 S170_0 D m h)
def S170_1 (D : CallD) (m : Nat) : AV → LN → Int → Int → HP → Res2 := nrec (fun _ _ _ _ _ => none) (fun _ g => S170_1b D m g) m
def e170_2 (k) (t0 : AV) (t1 : LN) (h) := kN k [(p0, t0), (p1, (vS t1))] h
def S170_2 (D : CallD) (m : Nat) (t0 : AV) (t1 : LN) (h : HP) : Res2 :=
 lenC t0 fun vt7 => asI .i64 vt7 fun t7 =>
 S170_1 D m t0 t1 t7 (Int.ofNat 0) h
def S170 : SFn := fun D m args h u => nou u <| popV args fun t0 args => popS args fun t1 args => endA args (S170_2 D m t0 t1 h)
theorem T170_0 {D m E} (hE : FX x170 D m E) : S170_0 D m = e170_0 (E c170_0 []) := by unfold S170_0; rw [hE c170_0]; kernel_rfl
theorem T170_1b {D m E} (hE : FX x170 D m E) (G1) : S170_1b D m (e170_1 G1) = e170_1 (E c170_1b [.lp v170_1 G1, .blk 0, .sj v170_0 c170_0]) := by unfold S170_1b; rw [T170_0 hE, hE c170_1b]; kernel_rfl
theorem T170_1 {D m E} (hE : FX x170 D m E) : S170_1 D m = e170_1 (nrec (fun _ => none) (fun _ G1 st => E c170_1b [.lp v170_1 G1, .blk 0, .sj v170_0 c170_0] st) m) :=
  nrec_emb e170_1 (fun _ _ _ _ _ => none) (fun g => S170_1b D m g) (fun G1 st => E c170_1b [.lp v170_1 G1, .blk 0, .sj v170_0 c170_0] st) rfl (fun g => T170_1b hE g) m
theorem T170_2 {D m E} (hE : FX x170 D m E) : S170_2 D m = e170_2 (E c170_e []) := by unfold S170_2; rw [T170_1 hE, hE c170_e]; kernel_rfl
theorem X170 (D m args h u) : S170 D m args h u = evFX x170 D m args h u := by unfold S170; rw [T170_2 (fix_ok D m (x170.endOf D))]; show _ = evFXE x170 (evE2 D m (x170.endOf D)) args h u; generalize evE2 D m (x170.endOf D) = E; kernel_rfl
/- 175 -/
def v175_0 : List Pos := [p0, p3]
def c175_0 : XC := (.sO [.mv p18 q0 .v, .mv p19 q3 tI, .P p20 (.slice (.sl 1) q18 none (some q19) none) .v, .mv p2 q20 .v] (.s .ret))
def v175_1 : List Pos := [p0, p3]
def c175_1b : XC := (.seq (.seq (.oX [.mv p6 q3 tI, .bn p7 .gtr q6 (ci 0) .b, .mv p8 q7 .b, .ge p8 (XL.of [.G p8 true p9 (.mov q0) .v, .G p8 true p10 (.mov q3) tI, .G p8 true p11 (.bin .sub q10 (ci 1)) tI, .G p8 true p12 (.iaddr (.sl 1) q9 q11) .v, .o ⟨(some p13), (.l (.cell q12)), (some (p8, true)), []⟩ tI, .G p8 true p14 (.bin .eql q13 (ci 0)) .b, .P p15 (.pick q8 q14 (cb false)) .b]) p15 .b]) (.cond q15 .skip (.exit 0))) (.block 1 (.s (.oX [.mv p16 q3 tI, .bn p17 .sub q16 (ci 1) tI, .mv p3 q17 tI]))))
def c175_e : XC := (.sO [.mv p2 (.c .nils) .v] (.sO [.mv p4 q0 .v, .P p5 (.lenl q4) tI, .mv p3 q5 tI] (.sj v175_0 (.block 0 (.loop v175_1 c175_1b)) c175_0)))
def x175 : XFn := ⟨[.v], false, [(.tmp p2)], c175_e⟩
def e175_0 (k) (t0 : AV) (t3 : Int) (h) := kN k [(p0, t0), (p3, (vI t3))] h
def S175_0 (D : CallD) (m : Nat) (t0 : AV) (t3 : Int) (h : HP) : Res2 :=
 obQ (evP (.slice (.sl 1) (.c t0) none (some (.c (vI t3))) none) .leaf) fun t20 =>
 some (.ret t20 h, .no)
def e175_1 (k) (t0 : AV) (t3 : Int) (h) := kN k [(p0, t0), (p3, (vI t3))] h
def S175_1b (D : CallD) (m : Nat) (g1 : AV → Int → HP → Res2) (t0 : AV) (t3 : Int) (h : HP) : Res2 :=
 let t7 : Bool := ltQ (Int.ofNat 0) t3
 obB (brV t7 (
 let t11 : Int := wrQ .i64 (t3 - (Int.ofNat 1))
 iasCV 1 t0 (vI t11) fun t12 =>
 ldIV t12 h fun t13 =>
 let t14 : Bool := eqQ t13 (Int.ofNat 0)
 some (vB t14)) (
 some (vB false))) fun t15 =>
 br t15 (
 let t17 : Int := wrQ .i64 (t3 - (Int.ofNat 1))
 g1 t0 t17 h) (
 S175_0 D m t0 t3 h)
def S175_1 (D : CallD) (m : Nat) : AV → Int → HP → Res2 := nrec (fun _ _ _ => none) (fun _ g => S175_1b D m g) m
def e175_2 (k) (t0 : AV) (h) := kN k [(p0, t0)] h
def S175_2 (D : CallD) (m : Nat) (t0 : AV) (h : HP) : Res2 :=
 lenC t0 fun vt5 => asI .i64 vt5 fun t5 =>
 S175_1 D m t0 t5 h
def S175 : SFn := fun D m args h u => nou u <| popV args fun t0 args => endA args (S175_2 D m t0 h)
theorem T175_0 {D m E} (hE : FX x175 D m E) : S175_0 D m = e175_0 (E c175_0 []) := by unfold S175_0; rw [hE c175_0]; kernel_rfl
theorem T175_1b {D m E} (hE : FX x175 D m E) (G1) : S175_1b D m (e175_1 G1) = e175_1 (E c175_1b [.lp v175_1 G1, .blk 0, .sj v175_0 c175_0]) := by unfold S175_1b; rw [T175_0 hE, hE c175_1b]; kernel_rfl
theorem T175_1 {D m E} (hE : FX x175 D m E) : S175_1 D m = e175_1 (nrec (fun _ => none) (fun _ G1 st => E c175_1b [.lp v175_1 G1, .blk 0, .sj v175_0 c175_0] st) m) :=
  nrec_emb e175_1 (fun _ _ _ => none) (fun g => S175_1b D m g) (fun G1 st => E c175_1b [.lp v175_1 G1, .blk 0, .sj v175_0 c175_0] st) rfl (fun g => T175_1b hE g) m
theorem T175_2 {D m E} (hE : FX x175 D m E) : S175_2 D m = e175_2 (E c175_e []) := by unfold S175_2; rw [T175_1 hE, hE c175_e]; kernel_rfl
theorem X175 (D m args h u) : S175 D m args h u = evFX x175 D m args h u := by unfold S175; rw [T175_2 (fix_ok D m (x175.endOf D))]; show _ = evFXE x175 (evE2 D m (x175.endOf D)) args h u; generalize evE2 D m (x175.endOf D) = E; kernel_rfl
/- 176 -/
def c176_e : XC := (.sO [.mv p2 (.c (.int .u64 (.ofNat 0))) (.i .u64)] (.seq (.seq (.oX [.mv p3 q0 .v, .cl p4 182 [q3] .b]) (.cond q4 (.seq (.oX [.mv p2 (.c (.int .u64 (.ofNat 9221120237041090560))) (.i .u64)]) .ret) .skip)) (.sO [.mv p5 q0 .v, .P p6 (.xt .fbits [q5]) (.i .u64), .mv p2 q6 (.i .u64)] (.s .ret))))
def x176 : XFn := ⟨[.v], false, [(.tmp p2)], c176_e⟩
def e176_0 (k) (t0 : AV) (h) := kN k [(p0, t0)] h
def S176_0 (D : CallD) (m : Nat) (t0 : AV) (h : HP) : Res2 :=
 cal D 182 [t0] h fun t4 h1 =>
 asB t4 fun t4a =>
 br t4a (
 some (.ret (AV.int .u64 (Int.ofNat 9221120237041090560)) h1, .no)) (
 obI .u64 (evP (.xt .fbits [(.c t0)]) .leaf) fun t6 =>
 some (.ret (AV.int .u64 t6) h1, .no))
def S176 : SFn := fun D m args h u => nou u <| popV args fun t0 args => endA args (S176_0 D m t0 h)
theorem T176_0 {D m E} (hE : FX x176 D m E) : S176_0 D m = e176_0 (E c176_e []) := by unfold S176_0; rw [hE c176_e]; kernel_rfl
theorem X176 (D m args h u) : S176 D m args h u = evFX x176 D m args h u := by unfold S176; rw [T176_0 (fix_ok D m (x176.endOf D))]; show _ = evFXE x176 (evE2 D m (x176.endOf D)) args h u; generalize evE2 D m (x176.endOf D) = E; kernel_rfl
/- 177 -/
def c177_e : XC := (.sO [.mv p4 (.c (.flt .f64 0)) .v] (.sO [.mv p5 q0 .v, .P p6 (.xt .fbits [q5]) (.i .u64), .bn p7 .andNot q6 (.c (.int .u64 (.ofNat 9223372036854775808))) (.i .u64), .mv p8 q1 .v, .P p9 (.xt .fbits [q8]) (.i .u64), .bn p10 .and q9 (.c (.int .u64 (.ofNat 9223372036854775808))) (.i .u64), .bn p11 .or q7 q10 (.i .u64), .P p12 (.xt .ffrom [q11]) .v, .mv p4 q12 .v] (.s .ret)))
def x177 : XFn := ⟨[.v, .v], false, [(.tmp p4)], c177_e⟩
def e177_0 (k) (t0 : AV) (t1 : AV) (h) := kN k [(p0, t0), (p1, t1)] h
def S177_0 (D : CallD) (m : Nat) (t0 : AV) (t1 : AV) (h : HP) : Res2 :=
 obI .u64 (evP (.xt .fbits [(.c t0)]) .leaf) fun t6 =>
 let t7 : Int := IntKind.wrap .u64 (BitVec.ofInt (IntKind.bits .u64) t6 &&& ~~~ BitVec.ofInt (IntKind.bits .u64) (Int.ofNat 9223372036854775808)).toNat
 obI .u64 (evP (.xt .fbits [(.c t1)]) .leaf) fun t9 =>
 obI .u64 (intBin .and .u64 t9 (Int.ofNat 9223372036854775808)) fun t10 =>
 obI .u64 (intBin .or .u64 t7 t10) fun t11 =>
 obQ (evP (.xt .ffrom [(.c (AV.int .u64 t11))]) .leaf) fun t12 =>
 some (.ret t12 h, .no)
def S177 : SFn := fun D m args h u => nou u <| popV args fun t0 args => popV args fun t1 args => endA args (S177_0 D m t0 t1 h)
theorem T177_0 {D m E} (hE : FX x177 D m E) : S177_0 D m = e177_0 (E c177_e []) := by unfold S177_0; rw [hE c177_e]; kernel_rfl
theorem X177 (D m args h u) : S177 D m args h u = evFX x177 D m args h u := by unfold S177; rw [T177_0 (fix_ok D m (x177.endOf D))]; show _ = evFXE x177 (evE2 D m (x177.endOf D)) args h u; generalize evE2 D m (x177.endOf D) = E; kernel_rfl
/- 178 -/
def c178_e : XC := (.sO [.mv p2 (ci 0) tI] (.sO [.al p3 (.mkmap), .o ⟨none, (.e (.mset .str q3 (.c (.str [43])) (ci 1))), none, []⟩ .v, .o ⟨none, (.e (.mset .str q3 (.c (.str [45])) (ci 2))), none, []⟩ .v, .o ⟨none, (.e (.mset .str q3 (.c (.str [42])) (ci 11))), none, []⟩ .v, .o ⟨none, (.e (.mset .str q3 (.c (.str [47])) (ci 14))), none, []⟩ .v, .o ⟨none, (.e (.mset .str q3 (.c (.str [37])) (ci 16))), none, []⟩ .v, .o ⟨none, (.e (.mset .str q3 (.c (.str [60, 60])) (ci 3))), none, []⟩ .v, .o ⟨none, (.e (.mset .str q3 (.c (.str [62, 62])) (ci 8))), none, []⟩ .v, .o ⟨none, (.e (.mset .str q3 (.c (.str [38])) (ci 10))), none, []⟩ .v, .o ⟨none, (.e (.mset .str q3 (.c (.str [94])) (ci 6))), none, []⟩ .v, .o ⟨none, (.e (.mset .str q3 (.c (.str [124])) (ci 9))), none, []⟩ .v, .mv p4 q3 .v, .mv p5 q0 .s, .L p6 (.look .str (kI 0) false q4 q5) tI, .mv p2 q6 tI] (.s .ret)))
def x178 : XFn := ⟨[.s], false, [(.tmp p2)], c178_e⟩
def e178_0 (k) (t0 : LN) (h) := kN k [(p0, (vS t0))] h
def S178_0 (D : CallD) (m : Nat) (t0 : LN) (h : HP) : Res2 :=
 let t3 : AV := AV.map (HP.nxQ h)
 let h1 : HP := HP.newQ h (.map [] 0)
 eff (.mset .str (.c t3) (.c (vS ([43] : LN))) (.c (vI (Int.ofNat 1)))) h1 fun t0a h2 =>
 eff (.mset .str (.c t3) (.c (vS ([45] : LN))) (.c (vI (Int.ofNat 2)))) h2 fun t0aa h3 =>
 eff (.mset .str (.c t3) (.c (vS ([42] : LN))) (.c (vI (Int.ofNat 11)))) h3 fun t0aaa h4 =>
 eff (.mset .str (.c t3) (.c (vS ([47] : LN))) (.c (vI (Int.ofNat 14)))) h4 fun t0aaaa h5 =>
 eff (.mset .str (.c t3) (.c (vS ([37] : LN))) (.c (vI (Int.ofNat 16)))) h5 fun t0aaaaa h6 =>
 eff (.mset .str (.c t3) (.c (vS ([60, 60] : LN))) (.c (vI (Int.ofNat 3)))) h6 fun t0aaaaaa h7 =>
 eff (.mset .str (.c t3) (.c (vS ([62, 62] : LN))) (.c (vI (Int.ofNat 8)))) h7 fun t0aaaaaaa h8 =>
 eff (.mset .str (.c t3) (.c (vS ([38] : LN))) (.c (vI (Int.ofNat 10)))) h8 fun t0aaaaaaaa h9 =>
 eff (.mset .str (.c t3) (.c (vS ([94] : LN))) (.c (vI (Int.ofNat 6)))) h9 fun t0aaaaaaaaa h10 =>
 eff (.mset .str (.c t3) (.c (vS ([124] : LN))) (.c (vI (Int.ofNat 9)))) h10 fun t0aaaaaaaaaa h11 =>
 obI .i64 (evL (.look .str (kI 0) false (.c t3) (.c (vS t0))) .leaf h11) fun t6 =>
 some (.ret (vI t6) h11, .no)
def S178 : SFn := fun D m args h u => nou u <| popS args fun t0 args => endA args (S178_0 D m t0 h)
theorem T178_0 {D m E} (hE : FX x178 D m E) : S178_0 D m = e178_0 (E c178_e []) := by unfold S178_0; rw [hE c178_e]; kernel_rfl
theorem X178 (D m args h u) : S178 D m args h u = evFX x178 D m args h u := by unfold S178; rw [T178_0 (fix_ok D m (x178.endOf D))]; show _ = evFXE x178 (evE2 D m (x178.endOf D)) args h u; generalize evE2 D m (x178.endOf D) = E; kernel_rfl
/- 179 -/
def c179_e : XC := (.sO [.mv p6 (.c (.int .u32 (.ofNat 0))) tW, .mv p7 (ci 0) tI] (.sO [.mv p10 q1 tW, .P p11 (.conv (.ii .i32) q10) (.i .i32), .mv p12 q2 tW, .P p13 (.conv (.ii .i32) q12) (.i .i32), .mv p8 q11 (.i .i32), .mv p9 q13 (.i .i32)] (.seq (.seq (.oX [.mv p14 q0 tI]) (.block 0 (.seq (.oX [.bn p16 .eql q14 (ci 1) .b, .mv p15 q16 .b]) (.cond q15 (.seq (.oX [.mv p17 q1 tW, .mv p18 q2 tW, .bn p19 .add q17 q18 tW, .mv p6 q19 tW, .mv p7 (ci 0) tI]) .ret) (.seq (.oX [.bn p21 .eql q14 (ci 2) .b, .mv p20 q21 .b]) (.cond q20 (.seq (.oX [.mv p22 q1 tW, .mv p23 q2 tW, .bn p24 .sub q22 q23 tW, .mv p6 q24 tW, .mv p7 (ci 0) tI]) .ret) (.seq (.oX [.bn p26 .eql q14 (ci 3) .b, .mv p25 q26 .b]) (.cond q25 (.seq (.oX [.mv p27 q1 tW, .mv p28 q2 tW, .bn p29 .and q28 (.c (.int .u32 (.ofNat 31))) tW, .bn p30 .shl q27 q29 tW, .mv p6 q30 tW, .mv p7 (ci 0) tI]) .ret) (.seq (.oX [.bn p32 .eql q14 (ci 4) .b, .mv p31 q32 .b]) (.cond q31 (.seq (.oX [.mv p33 q8 (.i .i32), .mv p34 q9 (.i .i32), .bn p35 .lss q33 q34 .b, .cl p36 190 [q35] tW, .mv p6 q36 tW, .mv p7 (ci 0) tI]) .ret) (.seq (.oX [.bn p38 .eql q14 (ci 5) .b, .mv p37 q38 .b]) (.cond q37 (.seq (.oX [.mv p39 q1 tW, .mv p40 q2 tW, .bn p41 .lss q39 q40 .b, .cl p42 190 [q41] tW, .mv p6 q42 tW, .mv p7 (ci 0) tI]) .ret) (.seq (.oX [.bn p44 .eql q14 (ci 6) .b, .mv p43 q44 .b]) (.cond q43 (.seq (.oX [.mv p45 q1 tW, .mv p46 q2 tW, .bn p47 .xor q45 q46 tW, .mv p6 q47 tW, .mv p7 (ci 0) tI]) .ret) (.seq (.oX [.bn p49 .eql q14 (ci 7) .b, .mv p48 q49 .b]) (.cond q48 (.seq (.oX [.mv p50 q1 tW, .mv p51 q2 tW, .bn p52 .and q51 (.c (.int .u32 (.ofNat 31))) tW, .bn p53 .shr q50 q52 tW, .mv p6 q53 tW, .mv p7 (ci 0) tI]) .ret) (.seq (.oX [.bn p55 .eql q14 (ci 8) .b, .mv p54 q55 .b]) (.cond q54 (.seq (.oX [.mv p56 q8 (.i .i32), .mv p57 q2 tW, .bn p58 .and q57 (.c (.int .u32 (.ofNat 31))) tW, .bn p59 .shr q56 q58 (.i .i32), .P p60 (.conv (.ii .u32) q59) tW, .mv p6 q60 tW, .mv p7 (ci 0) tI]) .ret) (.seq (.oX [.bn p62 .eql q14 (ci 9) .b, .mv p61 q62 .b]) (.cond q61 (.seq (.oX [.mv p63 q1 tW, .mv p64 q2 tW, .bn p65 .or q63 q64 tW, .mv p6 q65 tW, .mv p7 (ci 0) tI]) .ret) (.seq (.oX [.bn p67 .eql q14 (ci 10) .b, .mv p66 q67 .b]) (.cond q66 (.seq (.oX [.mv p68 q1 tW, .mv p69 q2 tW, .bn p70 .and q68 q69 tW, .mv p6 q70 tW, .mv p7 (ci 0) tI]) .ret) .skip)))))))))))))))))))))) (.sO [.mv p71 q0 tI, .mv p72 q1 tW, .mv p73 q2 tW, .cl p74 191 [q71, q72, q73] .v, .P p75 (.ext q74 0) tW, .P p76 (.ext q74 1) tI, .mv p6 q75 tW, .mv p7 q76 tI] (.s .ret)))))
def x179 : XFn := ⟨[tI, tW, tW], false, [(.tmp p6), (.tmp p7)], c179_e⟩
def e179_0 (k) (t0 : Int) (t1 : Int) (t2 : Int) (h) := kN k [(p0, (vI t0)), (p1, (vW t1)), (p2, (vW t2))] h
def S179_0 (D : CallD) (m : Nat) (t0 : Int) (t1 : Int) (t2 : Int) (h : HP) : Res2 :=
 let t11 : Int := wrapF .i32 t1
 let t13 : Int := wrapF .i32 t2
 let t16 : Bool := eqQ t0 (Int.ofNat 1)
 br t16 (
 let t19 : Int := wrQ .u32 (addQ t1 t2)
 some (.ret (.tup [(vW t19), (vI (Int.ofNat 0))]) h, .no)) (
 let t21 : Bool := eqQ t0 (Int.ofNat 2)
 br t21 (
 let t24 : Int := wrQ .u32 (t1 - t2)
 some (.ret (.tup [(vW t24), (vI (Int.ofNat 0))]) h, .no)) (
 let t26 : Bool := eqQ t0 (Int.ofNat 3)
 br t26 (
 obI .u32 (intBin .and .u32 t2 (Int.ofNat 31)) fun t29 =>
 obI .u32 (shiftF .shl .u32 t1 t29) fun t30 =>
 some (.ret (.tup [(vW t30), (vI (Int.ofNat 0))]) h, .no)) (
 let t32 : Bool := eqQ t0 (Int.ofNat 4)
 br t32 (
 let t35 : Bool := ltQ t11 t13
 cal D 190 [(vB t35)] h fun t36 h1 =>
 asI .u32 t36 fun t36a =>
 some (.ret (.tup [(vW t36a), (vI (Int.ofNat 0))]) h1, .no)) (
 let t38 : Bool := eqQ t0 (Int.ofNat 5)
 br t38 (
 let t41 : Bool := ltQ t1 t2
 cal D 190 [(vB t41)] h fun t42 h2 =>
 asI .u32 t42 fun t42a =>
 some (.ret (.tup [(vW t42a), (vI (Int.ofNat 0))]) h2, .no)) (
 let t44 : Bool := eqQ t0 (Int.ofNat 6)
 br t44 (
 obI .u32 (intBin .xor .u32 t1 t2) fun t47 =>
 some (.ret (.tup [(vW t47), (vI (Int.ofNat 0))]) h, .no)) (
 let t49 : Bool := eqQ t0 (Int.ofNat 7)
 br t49 (
 obI .u32 (intBin .and .u32 t2 (Int.ofNat 31)) fun t52 =>
 obI .u32 (shiftF .shr .u32 t1 t52) fun t53 =>
 some (.ret (.tup [(vW t53), (vI (Int.ofNat 0))]) h, .no)) (
 let t55 : Bool := eqQ t0 (Int.ofNat 8)
 br t55 (
 obI .u32 (intBin .and .u32 t2 (Int.ofNat 31)) fun t58 =>
 obI .i32 (shiftF .shr .i32 t11 t58) fun t59 =>
 let t60 : Int := wrapF .u32 t59
 some (.ret (.tup [(vW t60), (vI (Int.ofNat 0))]) h, .no)) (
 let t62 : Bool := eqQ t0 (Int.ofNat 9)
 br t62 (
 obI .u32 (intBin .or .u32 t1 t2) fun t65 =>
 some (.ret (.tup [(vW t65), (vI (Int.ofNat 0))]) h, .no)) (
 let t67 : Bool := eqQ t0 (Int.ofNat 10)
 br t67 (
 obI .u32 (intBin .and .u32 t1 t2) fun t70 =>
 some (.ret (.tup [(vW t70), (vI (Int.ofNat 0))]) h, .no)) (
 cal D 191 [(vI t0), (vW t1), (vW t2)] h fun t74 h3 =>
 extC t74 0 fun vt75 => asI .u32 vt75 fun t75 =>
 extC t74 1 fun vt76 => asI .i64 vt76 fun t76 =>
 some (.ret (.tup [(vW t75), (vI t76)]) h3, .no)))))))))))
def S179 : SFn := fun D m args h u => nou u <| popI .i64 args fun t0 args => popI .u32 args fun t1 args => popI .u32 args fun t2 args => endA args (S179_0 D m t0 t1 t2 h)
theorem T179_0 {D m E} (hE : FX x179 D m E) : S179_0 D m = e179_0 (E c179_e []) := by unfold S179_0; rw [hE c179_e]; kernel_rfl
theorem X179 (D m args h u) : S179 D m args h u = evFX x179 D m args h u := by unfold S179; rw [T179_0 (fix_ok D m (x179.endOf D))]; show _ = evFXE x179 (evE2 D m (x179.endOf D)) args h u; generalize evE2 D m (x179.endOf D) = E; kernel_rfl
/- 180 -/
def c180_e : XC := (.sO [.mv p6 (.c (.int .u64 (.ofNat 0))) (.i .u64), .mv p7 (ci 0) tI] (.sO [.mv p10 q1 (.i .u64), .cl p11 33 [q10] .v, .mv p12 q2 (.i .u64), .cl p13 33 [q12] .v, .mv p8 q11 .v, .mv p9 q13 .v] (.seq (.seq (.oX [.mv p14 q0 tI]) (.block 0 (.seq (.oX [.bn p16 .eql q14 (ci 45) .b, .mv p15 q16 .b]) (.cond q15 (.seq (.oX [.mv p17 q8 .v, .mv p18 q9 .v, .bn p19 .add q17 q18 .v, .cl p20 176 [q19] (.i .u64), .mv p6 q20 (.i .u64), .mv p7 (ci 0) tI]) .ret) (.seq (.oX [.bn p22 .eql q14 (ci 46) .b, .mv p21 q22 .b]) (.cond q21 (.seq (.oX [.mv p23 q8 .v, .mv p24 q9 .v, .bn p25 .sub q23 q24 .v, .cl p26 176 [q25] (.i .u64), .mv p6 q26 (.i .u64), .mv p7 (ci 0) tI]) .ret) (.seq (.oX [.bn p28 .eql q14 (ci 47) .b, .mv p27 q28 .b]) (.cond q27 (.seq (.oX [.mv p29 q8 .v, .mv p30 q9 .v, .bn p31 .mul q29 q30 .v, .cl p32 176 [q31] (.i .u64), .mv p6 q32 (.i .u64), .mv p7 (ci 0) tI]) .ret) (.seq (.oX [.bn p34 .eql q14 (ci 48) .b, .mv p33 q34 .b]) (.cond q33 (.seq (.oX [.mv p35 q8 .v, .mv p36 q9 .v, .bn p37 .quo q35 q36 .v, .cl p38 176 [q37] (.i .u64), .mv p6 q38 (.i .u64), .mv p7 (ci 0) tI]) .ret) .skip)))))))))) (.sO [.mv p6 (.c (.int .u64 (.ofNat 0))) (.i .u64), .mv p7 (ci 1) tI] (.s .ret)))))
def x180 : XFn := ⟨[tI, (.i .u64), (.i .u64)], false, [(.tmp p6), (.tmp p7)], c180_e⟩
def e180_0 (k) (t0 : Int) (t1 : Int) (t2 : Int) (h) := kN k [(p0, (vI t0)), (p1, (AV.int .u64 t1)), (p2, (AV.int .u64 t2))] h
def S180_0 (D : CallD) (m : Nat) (t0 : Int) (t1 : Int) (t2 : Int) (h : HP) : Res2 :=
 cal D 33 [(AV.int .u64 t1)] h fun t11 h1 =>
 cal D 33 [(AV.int .u64 t2)] h1 fun t13 h2 =>
 let t16 : Bool := eqQ t0 (Int.ofNat 45)
 br t16 (
 binC .add t11 t13 fun t19 =>
 cal D 176 [t19] h2 fun t20 h3 =>
 asI .u64 t20 fun t20a =>
 some (.ret (.tup [(AV.int .u64 t20a), (vI (Int.ofNat 0))]) h3, .no)) (
 let t22 : Bool := eqQ t0 (Int.ofNat 46)
 br t22 (
 binC .sub t11 t13 fun t25 =>
 cal D 176 [t25] h2 fun t26 h4 =>
 asI .u64 t26 fun t26a =>
 some (.ret (.tup [(AV.int .u64 t26a), (vI (Int.ofNat 0))]) h4, .no)) (
 let t28 : Bool := eqQ t0 (Int.ofNat 47)
 br t28 (
 binC .mul t11 t13 fun t31 =>
 cal D 176 [t31] h2 fun t32 h5 =>
 asI .u64 t32 fun t32a =>
 some (.ret (.tup [(AV.int .u64 t32a), (vI (Int.ofNat 0))]) h5, .no)) (
 let t34 : Bool := eqQ t0 (Int.ofNat 48)
 br t34 (
 binC .quo t11 t13 fun t37 =>
 cal D 176 [t37] h2 fun t38 h6 =>
 asI .u64 t38 fun t38a =>
 some (.ret (.tup [(AV.int .u64 t38a), (vI (Int.ofNat 0))]) h6, .no)) (
 some (.ret (.tup [(AV.int .u64 (Int.ofNat 0)), (vI (Int.ofNat 1))]) h2, .no)))))
def S180 : SFn := fun D m args h u => nou u <| popI .i64 args fun t0 args => popI .u64 args fun t1 args => popI .u64 args fun t2 args => endA args (S180_0 D m t0 t1 t2 h)
theorem T180_0 {D m E} (hE : FX x180 D m E) : S180_0 D m = e180_0 (E c180_e []) := by unfold S180_0; rw [hE c180_e]; kernel_rfl
theorem X180 (D m args h u) : S180 D m args h u = evFX x180 D m args h u := by unfold S180; rw [T180_0 (fix_ok D m (x180.endOf D))]; show _ = evFXE x180 (evE2 D m (x180.endOf D)) args h u; generalize evE2 D m (x180.endOf D) = E; kernel_rfl
/- 182 -/
def c182_e : XC := (.sO [.mv p2 (cb false) .b] (.sO [.mv p3 q0 .v, .mv p4 q0 .v, .bn p5 .neq q3 q4 .b, .mv p2 q5 .b] (.s .ret)))
def x182 : XFn := ⟨[.v], false, [(.tmp p2)], c182_e⟩
def e182_0 (k) (t0 : AV) (h) := kN k [(p0, t0)] h
def S182_0 (D : CallD) (m : Nat) (t0 : AV) (h : HP) : Res2 :=
 binC .neq t0 t0 fun vt5 => asB vt5 fun t5 =>
 some (.ret (vB t5) h, .no)
def S182 : SFn := fun D m args h u => nou u <| popV args fun t0 args => endA args (S182_0 D m t0 h)
theorem T182_0 {D m E} (hE : FX x182 D m E) : S182_0 D m = e182_0 (E c182_e []) := by unfold S182_0; rw [hE c182_e]; kernel_rfl
theorem X182 (D m args h u) : S182 D m args h u = evFX x182 D m args h u := by unfold S182; rw [T182_0 (fix_ok D m (x182.endOf D))]; show _ = evFXE x182 (evE2 D m (x182.endOf D)) args h u; generalize evE2 D m (x182.endOf D) = E; kernel_rfl
/- 185 -/
def c185_e : XC := (.sO [.mv p2 (cb false) .b] (.sO [.mv p3 q0 tI, .bn p4 .eql q3 (ci 3) .b, .mv p5 q4 .b, .ge p5 (XL.of [.G p5 false p6 (.mov q0) tI, .G p5 false p7 (.bin .eql q6 (ci 4)) .b, .P p8 (.pick q5 (cb true) q7) .b]) p8 .b, .mv p2 q8 .b] (.s .ret)))
def x185 : XFn := ⟨[tI], false, [(.tmp p2)], c185_e⟩
def e185_0 (k) (t0 : Int) (h) := kN k [(p0, (vI t0))] h
def S185_0 (D : CallD) (m : Nat) (t0 : Int) (h : HP) : Res2 :=
 let t4 : Bool := eqQ t0 (Int.ofNat 3)
 obB (brV t4 (
 some (vB true)) (
 let t7 : Bool := eqQ t0 (Int.ofNat 4)
 some (vB t7))) fun t8 =>
 some (.ret (vB t8) h, .no)
def S185 : SFn := fun D m args h u => nou u <| popI .i64 args fun t0 args => endA args (S185_0 D m t0 h)
theorem T185_0 {D m E} (hE : FX x185 D m E) : S185_0 D m = e185_0 (E c185_e []) := by unfold S185_0; rw [hE c185_e]; kernel_rfl
theorem X185 (D m args h u) : S185 D m args h u = evFX x185 D m args h u := by unfold S185; rw [T185_0 (fix_ok D m (x185.endOf D))]; show _ = evFXE x185 (evE2 D m (x185.endOf D)) args h u; generalize evE2 D m (x185.endOf D) = E; kernel_rfl
/- 187 -/
def c187_e : XC := (.sO [.al p1 (.box q0), .al p2 (.new [.nils, (kI 0), (kI 0), (kI 0), (kI 0)]), .al p3 (.new [(kI 0), (.str []), (.str []), (.int .u32 (.ofNat 0)), (.int .u64 (.ofNat 0)), .nils, (kI 0), (kI 0)])] (.sO [.L p9 (.cells 5 q1) .v, .cl p10 50 [q9] .v, .al p4 (.new [(kI 0), (.str []), (kI 0)]), .ss 3 q4 q10] (.seq (.seq (.oX [.fa p11 0 q4, .ld p12 q11 tI]) (.block 0 (.seq (.oX [.bn p14 .eql q12 (ci 2) .b, .mv p13 q14 .b]) (.cond q13 (.seq (.ops true (XL.of [.L p15 (.cells 5 q1) .v, .fa p17 1 q4, .ld p18 q17 .s, .fa p21 2 q4, .ld p22 q21 tI, .o ⟨(some p16), (.call (.fn 74) [q15]), none, [⟨none, .cell q17, p18⟩, ⟨none, .cell q21, p22⟩]⟩ .v, .o ⟨(some p19), (.call (.fn 113) [q18]), none, [⟨none, .cell q21, p22⟩]⟩ tI, .P p20 (.conv (.ii .u32) q19) tW, .P p23 (.build [(kI 0), (.str []), (.str []), (.int .u32 (.ofNat 0)), (.int .u64 (.ofNat 0)), .nils, (kI 0), (kI 0)] [⟨0, 1, (ci 1)⟩, ⟨3, 1, q20⟩, ⟨7, 1, q22⟩]) .v, .o ⟨none, (.e (.stores 5 q2 q16)), none, [⟨none, .cell q21, p22⟩]⟩ .v, .ss 8 q3 q23])) .ret) (.seq (.oX [.bn p25 .eql q12 (ci 3) .b, .mv p24 q25 .b]) (.cond q24 (.seq (.oX [.fa p27 1 q4, .ld p28 q27 .s, .cl p29 194 [q28] .v, .mv p26 q29 .v, .P p30 (.ext q26 0) (.i .u64), .P p31 (.ext q26 1) .b, .mv p5 q30 (.i .u64), .mv p6 q31 .b]) (.seq (.ops true (XL.of [.L p32 (.cells 5 q1) .v, .mv p34 q5 (.i .u64), .fa p35 2 q4, .ld p36 q35 tI, .P p37 (.build [(kI 0), (.str []), (.str []), (.int .u32 (.ofNat 0)), (.int .u64 (.ofNat 0)), .nils, (kI 0), (kI 0)] [⟨0, 1, (ci 2)⟩, ⟨4, 1, q34⟩, ⟨7, 1, q36⟩]) .v, .o ⟨(some p33), (.call (.fn 74) [q32]), none, [⟨none, .cell q35, p36⟩]⟩ .v, .o ⟨none, (.e (.stores 5 q2 q33)), none, [⟨none, .cell q35, p36⟩]⟩ .v, .ss 8 q3 q37])) .ret)) (.seq (.oX [.bn p39 .eql q12 (ci 1) .b, .mv p38 q39 .b]) (.cond q38 (.seq (.oX [.L p40 (.cells 5 q1) .v, .cl p41 74 [q40] .v, .ss 5 q1 q41]) (.seq (.seq (.oX [.L p42 (.cells 5 q1) .v, .cl p43 73 [q42, (.c (.str [40]))] .b, .P p44 (.un .not q43) .b]) (.cond q44 (.seq (.ops true (XL.of [.L p45 (.cells 5 q1) .v, .fa p46 1 q4, .ld p47 q46 .s, .fa p48 2 q4, .ld p49 q48 tI, .P p50 (.build [(kI 0), (.str []), (.str []), (.int .u32 (.ofNat 0)), (.int .u64 (.ofNat 0)), .nils, (kI 0), (kI 0)] [⟨0, 1, (ci 3)⟩, ⟨2, 1, q47⟩, ⟨7, 1, q49⟩]) .v, .o ⟨none, (.e (.stores 5 q2 q45)), none, [⟨none, .cell q46, p47⟩, ⟨none, .cell q48, p49⟩]⟩ .v, .ss 8 q3 q50])) .ret) .skip)) (.seq (.oX [.fa p51 1 q4, .ld p52 q51 .s, .fa p53 2 q4, .ld p54 q53 tI, .P p55 (.build [(kI 0), (.str []), (.str []), (.int .u32 (.ofNat 0)), (.int .u64 (.ofNat 0)), .nils, (kI 0), (kI 0)] [⟨0, 1, (ci 7)⟩, ⟨2, 1, q52⟩, ⟨7, 1, q54⟩]) .v, .al p7 (.new [(kI 0), (.str []), (.str []), (.int .u32 (.ofNat 0)), (.int .u64 (.ofNat 0)), .nils, (kI 0), (kI 0)]), .ss 8 q7 q55]) (.seq (.oX [.L p57 (.cells 5 q1) .v, .cl p58 74 [q57] .v, .cl p59 195 [q58] .v, .mv p56 q59 .v, .P p60 (.ext q56 0) .v, .P p61 (.ext q56 1) .v, .ss 5 q1 q60, .fa p62 5 q7, .st q62 q61]) (.seq (.ops true (XL.of [.L p63 (.cells 5 q1) .v, .L p64 (.cells 8 q7) .v, .o ⟨none, (.e (.stores 5 q2 q63)), none, [⟨none, .cells 8 q7, p64⟩]⟩ .v, .ss 8 q3 q64])) .ret))))) .skip)))))))) (.sO [.P p65 (.build [(kI 0), (.str []), (.str []), (.int .u32 (.ofNat 0)), (.int .u64 (.ofNat 0)), .nils, (kI 0), (kI 0)] []) .v, .al p8 (.new [(kI 0), (.str []), (.str []), (.int .u32 (.ofNat 0)), (.int .u64 (.ofNat 0)), .nils, (kI 0), (kI 0)]), .ss 8 q8 q65] (.sO [.L p67 (.cells 5 q1) .v, .cl p68 79 [q67, (.c (.str [40]))] .v, .cl p69 81 [q68] .v, .mv p66 q69 .v, .P p70 (.ext q66 0) .v, .P p71 (.ext q66 1) .v, .ss 5 q1 q70, .ss 8 q8 q71] (.seq (.ops true (XL.of [.L p72 (.cells 5 q1) .v, .L p74 (.cells 8 q8) .v, .o ⟨(some p73), (.call (.fn 79) [q72, (.c (.str [41]))]), none, [⟨none, .cells 8 q8, p74⟩]⟩ .v, .o ⟨none, (.e (.stores 5 q2 q73)), none, [⟨none, .cells 8 q8, p74⟩]⟩ .v, .ss 8 q3 q74])) (.s .ret)))))))
def x187 : XFn := ⟨[.v], false, [(.cells 5 p2), (.cells 8 p3)], c187_e⟩
def e187_0 (k) (t0 : AV) (h) := kN k [(p0, t0)] h
def S187_0 (D : CallD) (m : Nat) (t0 : AV) (h : HP) : Res2 :=
 let t1 : AV := AV.ptr (HP.nxQ h) 0
 let h1 : HP := HP.newQ h (.cells true (AV.cells t0))
 let t2 : AV := AV.ptr (HP.nxQ h1) 0
 let h2 : HP := HP.newQ h1 (.cells true [.nils, (kI 0), (kI 0), (kI 0), (kI 0)])
 let t3 : AV := AV.ptr (HP.nxQ h2) 0
 let h3 : HP := HP.newQ h2 (.cells true [(kI 0), (.str []), (.str []), (.int .u32 (.ofNat 0)), (.int .u64 (.ofNat 0)), .nils, (kI 0), (kI 0)])
 cellsC 5 t1 h3 fun t9 =>
 cal D 50 [t9] h3 fun t10 h4 =>
 let t4 : AV := AV.ptr (HP.nxQ h4) 0
 let h5 : HP := HP.newQ h4 (.cells true [(kI 0), (.str []), (kI 0)])
 stsC 3 t4 t10 h5 fun h6 =>
 let t11 : AV := (AV.ptr (HP.nxQ h4) (Nat.add 0 0))
 ldI t11 h6 fun t12 =>
 let t14 : Bool := eqQ t12 (Int.ofNat 2)
 br t14 (
 cellsC 5 t1 h6 fun t15 =>
 let t17 : AV := (AV.ptr (HP.nxQ h4) (Nat.add 0 1))
 ldS t17 h6 fun t18 =>
 let t21 : AV := (AV.ptr (HP.nxQ h4) (Nat.add 0 2))
 ldI t21 h6 fun t22 =>
 cal D 74 [t15] h6 fun t16 h7 =>
 br (again [⟨none, .cell q17, p18⟩, ⟨none, .cell q21, p22⟩] (mkT [(p22, (vI t22)), (p21, t21), (p18, (vS t18)), (p17, t17)]) h7) (
 cal D 113 [(vS t18)] h7 fun t19 h8 =>
 br (again [⟨none, .cell q21, p22⟩] (mkT [(p22, (vI t22)), (p21, t21)]) h8) (
 asI .i64 t19 fun t19a =>
 let t20 : Int := wrapF .u32 t19a
 let t23 : AV := (AV.agg [(vI (Int.ofNat 1)), (vS ([] : LN)), (vS ([] : LN)), (vW t20), (AV.int .u64 (Int.ofNat 0)), (.nils : AV), (vI (Int.ofNat 0)), (vI t22)])
 stsC 5 t2 t16 h8 fun h9 =>
 br (again [⟨none, .cell q21, p22⟩] (mkT [(p22, (vI t22)), (p21, t21)]) h9) (
 stsC 8 t3 t23 h9 fun h10 =>
 XFn.endOf x187 D (.ret ⟨(mkT [(p2, t2), (p3, t3)]), h10, [], .no⟩)) none) none) none) (
 let t25 : Bool := eqQ t12 (Int.ofNat 3)
 br t25 (
 let t27 : AV := (AV.ptr (HP.nxQ h4) (Nat.add 0 1))
 ldS t27 h6 fun t28 =>
 cal D 194 [(vS t28)] h6 fun t29 h11 =>
 extC t29 0 fun vt30 => asI .u64 vt30 fun t30 =>
 extC t29 1 fun vt31 => asB vt31 fun t31 =>
 cellsC 5 t1 h11 fun t32 =>
 let t35 : AV := (AV.ptr (HP.nxQ h4) (Nat.add 0 2))
 ldI t35 h11 fun t36 =>
 let t37 : AV := (AV.agg [(vI (Int.ofNat 2)), (vS ([] : LN)), (vS ([] : LN)), (vW (Int.ofNat 0)), (AV.int .u64 t30), (.nils : AV), (vI (Int.ofNat 0)), (vI t36)])
 cal D 74 [t32] h11 fun t33 h12 =>
 br (again [⟨none, .cell q35, p36⟩] (mkT [(p36, (vI t36)), (p35, t35)]) h12) (
 stsC 5 t2 t33 h12 fun h13 =>
 br (again [⟨none, .cell q35, p36⟩] (mkT [(p36, (vI t36)), (p35, t35)]) h13) (
 stsC 8 t3 t37 h13 fun h14 =>
 XFn.endOf x187 D (.ret ⟨(mkT [(p2, t2), (p3, t3)]), h14, [], .no⟩)) none) none) (
 let t39 : Bool := eqQ t12 (Int.ofNat 1)
 br t39 (
 cellsC 5 t1 h6 fun t40 =>
 cal D 74 [t40] h6 fun t41 h15 =>
 stsC 5 t1 t41 h15 fun h16 =>
 cellsC 5 t1 h16 fun t42 =>
 cal D 73 [t42, (vS ([40] : LN))] h16 fun t43 h17 =>
 asB t43 fun t43a =>
 let t44 : Bool := !t43a
 br t44 (
 cellsC 5 t1 h17 fun t45 =>
 let t46 : AV := (AV.ptr (HP.nxQ h4) (Nat.add 0 1))
 ldS t46 h17 fun t47 =>
 let t48 : AV := (AV.ptr (HP.nxQ h4) (Nat.add 0 2))
 ldI t48 h17 fun t49 =>
 let t50 : AV := (AV.agg [(vI (Int.ofNat 3)), (vS ([] : LN)), (vS t47), (vW (Int.ofNat 0)), (AV.int .u64 (Int.ofNat 0)), (.nils : AV), (vI (Int.ofNat 0)), (vI t49)])
 stsC 5 t2 t45 h17 fun h18 =>
 br (again [⟨none, .cell q46, p47⟩, ⟨none, .cell q48, p49⟩] (mkT [(p49, (vI t49)), (p48, t48), (p47, (vS t47)), (p46, t46)]) h18) (
 stsC 8 t3 t50 h18 fun h19 =>
 XFn.endOf x187 D (.ret ⟨(mkT [(p2, t2), (p3, t3)]), h19, [], .no⟩)) none) (
 let t51 : AV := (AV.ptr (HP.nxQ h4) (Nat.add 0 1))
 ldS t51 h17 fun t52 =>
 let t53 : AV := (AV.ptr (HP.nxQ h4) (Nat.add 0 2))
 ldI t53 h17 fun t54 =>
 let t55 : AV := (AV.agg [(vI (Int.ofNat 7)), (vS ([] : LN)), (vS t52), (vW (Int.ofNat 0)), (AV.int .u64 (Int.ofNat 0)), (.nils : AV), (vI (Int.ofNat 0)), (vI t54)])
 let t7 : AV := AV.ptr (HP.nxQ h17) 0
 let h20 : HP := HP.newQ h17 (.cells true [(kI 0), (.str []), (.str []), (.int .u32 (.ofNat 0)), (.int .u64 (.ofNat 0)), .nils, (kI 0), (kI 0)])
 stsC 8 t7 t55 h20 fun h21 =>
 cellsC 5 t1 h21 fun t57 =>
 cal D 74 [t57] h21 fun t58 h22 =>
 cal D 195 [t58] h22 fun t59 h23 =>
 extC t59 0 fun t60 =>
 extC t59 1 fun t61 =>
 stsC 5 t1 t60 h23 fun h24 =>
 let t62 : AV := (AV.ptr (HP.nxQ h17) (Nat.add 0 5))
 stoC t62 t61 h24 fun h25 =>
 cellsC 5 t1 h25 fun t63 =>
 cellsC 8 t7 h25 fun t64 =>
 stsC 5 t2 t63 h25 fun h26 =>
 br (again [⟨none, .cells 8 q7, p64⟩] (mkT [(p64, t64), (p7, t7)]) h26) (
 stsC 8 t3 t64 h26 fun h27 =>
 XFn.endOf x187 D (.ret ⟨(mkT [(p2, t2), (p3, t3)]), h27, [], .no⟩)) none)) (
 let t65 : AV := (AV.agg [(vI (Int.ofNat 0)), (vS ([] : LN)), (vS ([] : LN)), (vW (Int.ofNat 0)), (AV.int .u64 (Int.ofNat 0)), (.nils : AV), (vI (Int.ofNat 0)), (vI (Int.ofNat 0))])
 let t8 : AV := AV.ptr (HP.nxQ h6) 0
 let h28 : HP := HP.newQ h6 (.cells true [(kI 0), (.str []), (.str []), (.int .u32 (.ofNat 0)), (.int .u64 (.ofNat 0)), .nils, (kI 0), (kI 0)])
 stsC 8 t8 t65 h28 fun h29 =>
 cellsC 5 t1 h29 fun t67 =>
 cal D 79 [t67, (vS ([40] : LN))] h29 fun t68 h30 =>
 cal D 81 [t68] h30 fun t69 h31 =>
 extC t69 0 fun t70 =>
 extC t69 1 fun t71 =>
 stsC 5 t1 t70 h31 fun h32 =>
 stsC 8 t8 t71 h32 fun h33 =>
 cellsC 5 t1 h33 fun t72 =>
 cellsC 8 t8 h33 fun t74 =>
 cal D 79 [t72, (vS ([41] : LN))] h33 fun t73 h34 =>
 br (again [⟨none, .cells 8 q8, p74⟩] (mkT [(p74, t74), (p8, t8)]) h34) (
 stsC 5 t2 t73 h34 fun h35 =>
 br (again [⟨none, .cells 8 q8, p74⟩] (mkT [(p74, t74), (p8, t8)]) h35) (
 stsC 8 t3 t74 h35 fun h36 =>
 XFn.endOf x187 D (.ret ⟨(mkT [(p2, t2), (p3, t3)]), h36, [], .no⟩)) none) none)))
def S187 : SFn := fun D m args h u => nou u <| popV args fun t0 args => endA args (S187_0 D m t0 h)
theorem T187_0 {D m E} (hE : FX x187 D m E) : S187_0 D m = e187_0 (E c187_e []) := by unfold S187_0; rw [hE c187_e]; kernel_rfl
theorem X187 (D m args h u) : S187 D m args h u = evFX x187 D m args h u := by unfold S187; rw [T187_0 (fix_ok D m (x187.endOf D))]; show _ = evFXE x187 (evE2 D m (x187.endOf D)) args h u; generalize evE2 D m (x187.endOf D) = E; kernel_rfl
/- 188 -/
def v188_0 : List Pos := [p5]
def c188_0 : XC := (.sO [.mv p41 q5 .v, .cl p42 175 [q41] .v, .mv p4 q42 .v] (.s .ret))
def v188_1 : List Pos := [p0, p1, p5, p6, p7]
def c188_1b : XC := (.seq (.seq (.oX [.mv p9 q7 tI, .mv p10 q0 .v, .P p11 (.lenl q10) tI, .bn p12 .lss q9 q11 .b, .mv p13 q12 .b, .ge p13 (XL.of [.G p13 false p14 (.mov q7) tI, .G p13 false p15 (.mov q1) .v, .G p13 false p16 (.lenl q15) tI, .G p13 false p17 (.bin .lss q14 q16) .b, .P p18 (.pick q13 (cb true) q17) .b]) p18 .b, .mv p19 q18 .b, .ge p19 (XL.of [.G p19 false p20 (.mov q6) tI, .G p19 false p21 (.bin .gtr q20 (ci 0)) .b, .P p22 (.pick q19 (cb true) q21) .b]) p22 .b]) (.cond q22 .skip (.exit 0))) (.seq (.block 1 (.seq (.oX [.mv p25 q0 .v, .mv p26 q7 tI, .cl p27 149 [q25, q26] tI, .mv p28 q1 .v, .mv p29 q7 tI, .cl p30 149 [q28, q29] tI, .bn p31 .add q27 q30 tI, .mv p32 q6 tI, .bn p33 .add q31 q32 tI, .mv p8 q33 tI]) (.seq (.oX [.mv p34 q5 .v, .mv p35 q8 tI, .bn p36 .rem q35 (ci 65536) tI, .al p37 (.bsl [(kI 0)] 1 [⟨0, 1, q36⟩]), .o ⟨(some p38), (.e (.app 1 8 q34 q37)), none, []⟩ .v, .mv p5 q38 .v]) (.oX [.mv p39 q8 tI, .bn p40 .quo q39 (ci 65536) tI, .mv p6 q40 tI])))) (.s (.oX [.mv p23 q7 tI, .bn p24 .add q23 (ci 1) tI, .mv p7 q24 tI]))))
def c188_e : XC := (.sO [.mv p4 (.c .nils) .v] (.sO [.mv p5 (.c .nils) .v] (.sO [.mv p6 (ci 0) tI] (.sj v188_0 (.sO [.mv p7 (ci 0) tI] (.block 0 (.loop v188_1 c188_1b))) c188_0))))
def x188 : XFn := ⟨[.v, .v], false, [(.tmp p4)], c188_e⟩
def e188_0 (k) (t5 : AV) (h) := kN k [(p5, t5)] h
def S188_0 (D : CallD) (m : Nat) (t5 : AV) (h : HP) : Res2 :=
 cal D 175 [t5] h fun t42 h3 =>
 some (.ret t42 h3, .no)
def e188_1 (k) (t0 : AV) (t1 : AV) (t5 : AV) (t6 : Int) (t7 : Int) (h) := kN k [(p0, t0), (p1, t1), (p5, t5), (p6, (vI t6)), (p7, (vI t7))] h
def S188_1b (D : CallD) (m : Nat) (g1 : AV → AV → AV → Int → Int → HP → Res2) (t0 : AV) (t1 : AV) (t5 : AV) (t6 : Int) (t7 : Int) (h : HP) : Res2 :=
 lenC t0 fun vt11 => asI .i64 vt11 fun t11 =>
 let t12 : Bool := ltQ t7 t11
 obB (brV t12 (
 some (vB true)) (
 lenCV t1 fun vt16 => asIV .i64 vt16 fun t16 =>
 let t17 : Bool := ltQ t7 t16
 some (vB t17))) fun t18 =>
 obB (brV t18 (
 some (vB true)) (
 let t21 : Bool := ltQ (Int.ofNat 0) t6
 some (vB t21))) fun t22 =>
 br t22 (
 cal D 149 [t0, (vI t7)] h fun t27 h4 =>
 asI .i64 t27 fun t27a =>
 cal D 149 [t1, (vI t7)] h4 fun t30 h5 =>
 asI .i64 t30 fun t30a =>
 let t31 : Int := wrQ .i64 (addQ t27a t30a)
 let t33 : Int := wrQ .i64 (addQ t31 t6)
 let t36 : Int := Int.tmod t33 (Int.ofNat 65536)
 let t37 : AV := AV.slice (HP.nxQ h5) 0 1 (.exact 1)
 let h6 : HP := HP.newQ h5 (.cells true [(vI t36)])
 eff (.app 1 8 (.c t5) (.c t37)) h6 fun t38 h7 =>
 let t40 : Int := wrapF .i64 (Int.tdiv t33 (Int.ofNat 65536))
 let t24 : Int := wrQ .i64 (addQ t7 (Int.ofNat 1))
 g1 t0 t1 t38 t40 t24 h7) (
 S188_0 D m t5 h)
def S188_1 (D : CallD) (m : Nat) : AV → AV → AV → Int → Int → HP → Res2 := nrec (fun _ _ _ _ _ _ => none) (fun _ g => S188_1b D m g) m
def e188_2 (k) (t0 : AV) (t1 : AV) (h) := kN k [(p0, t0), (p1, t1)] h
def S188_2 (D : CallD) (m : Nat) (t0 : AV) (t1 : AV) (h : HP) : Res2 :=
 S188_1 D m t0 t1 (.nils : AV) (Int.ofNat 0) (Int.ofNat 0) h
def S188 : SFn := fun D m args h u => nou u <| popV args fun t0 args => popV args fun t1 args => endA args (S188_2 D m t0 t1 h)
theorem T188_0 {D m E} (hE : FX x188 D m E) : S188_0 D m = e188_0 (E c188_0 []) := by unfold S188_0; rw [hE c188_0]; kernel_rfl
theorem T188_1b {D m E} (hE : FX x188 D m E) (G1) : S188_1b D m (e188_1 G1) = e188_1 (E c188_1b [.lp v188_1 G1, .blk 0, .sj v188_0 c188_0]) := by unfold S188_1b; rw [T188_0 hE, hE c188_1b]; kernel_rfl
theorem T188_1 {D m E} (hE : FX x188 D m E) : S188_1 D m = e188_1 (nrec (fun _ => none) (fun _ G1 st => E c188_1b [.lp v188_1 G1, .blk 0, .sj v188_0 c188_0] st) m) :=
  nrec_emb e188_1 (fun _ _ _ _ _ _ => none) (fun g => S188_1b D m g) (fun G1 st => E c188_1b [.lp v188_1 G1, .blk 0, .sj v188_0 c188_0] st) rfl (fun g => T188_1b hE g) m
theorem T188_2 {D m E} (hE : FX x188 D m E) : S188_2 D m = e188_2 (E c188_e []) := by unfold S188_2; rw [T188_1 hE, hE c188_e]; kernel_rfl
theorem X188 (D m args h u) : S188 D m args h u = evFX x188 D m args h u := by unfold S188; rw [T188_2 (fix_ok D m (x188.endOf D))]; show _ = evFXE x188 (evE2 D m (x188.endOf D)) args h u; generalize evE2 D m (x188.endOf D) = E; kernel_rfl
/- 194 -/
def v194_3 : List Pos := [p4, p10]
def c194_3 : XC := (.sO [.mv p100 q4 .v, .mv p101 q10 .v, .cl p102 98 [q100, q101, (ci 0)] (.i .u64), .mv p2 q102 (.i .u64), .mv p3 (cb true) .b] (.s .ret))
def v194_4 : List Pos := [p4, p6, p10]
def c194_4b : XC := (.seq (.seq (.oX [.mv p94 q6 tI, .bn p95 .lss q94 (ci 0) .b]) (.cond q95 .skip (.exit 6))) (.seq (.block 7 (.oX [.mv p98 q10 .v, .cl p99 146 [q98, (ci 10)] .v, .mv p10 q99 .v])) (.s (.oX [.mv p96 q6 tI, .bn p97 .add q96 (ci 1) tI, .mv p6 q97 tI]))))
def v194_2 : List Pos := [p4, p6, p10]
def c194_2 : XC := (.sj v194_3 (.block 6 (.loop v194_4 c194_4b)) c194_3)
def v194_5 : List Pos := [p4, p6, p10]
def c194_5b : XC := (.seq (.seq (.oX [.mv p88 q6 tI, .bn p89 .gtr q88 (ci 0) .b]) (.cond q89 .skip (.exit 4))) (.seq (.block 5 (.oX [.mv p92 q4 .v, .cl p93 146 [q92, (ci 10)] .v, .mv p4 q93 .v])) (.s (.oX [.mv p90 q6 tI, .bn p91 .sub q90 (ci 1) tI, .mv p6 q91 tI]))))
def v194_1 : List Pos := [p4, p6, p7, p9]
def c194_1 : XC := (.sO [.mv p73 q7 tI, .mv p74 q6 tI, .bn p75 .mul q73 q74 tI, .mv p76 q9 tI, .bn p77 .sub q75 q76 tI, .mv p6 q77 tI] (.seq (.seq (.oX [.mv p78 q4 .v, .P p79 (.lenl q78) tI, .bn p80 .eql q79 (ci 0) .b, .mv p81 q80 .b, .ge p81 (XL.of [.G p81 false p82 (.mov q6) tI, .G p81 false p83 (.bin .lss q82 (.c (.int .i64 (.negSucc 499)))) .b, .P p84 (.pick q81 (cb true) q83) .b]) p84 .b]) (.cond q84 (.seq (.oX [.mv p2 (.c (.int .u64 (.ofNat 0))) (.i .u64), .mv p3 (cb true) .b]) .ret) .skip)) (.seq (.seq (.oX [.mv p85 q6 tI, .bn p86 .gtr q85 (ci 500) .b]) (.cond q86 (.seq (.oX [.mv p2 (.c (.int .u64 (.ofNat 9218868437227405312))) (.i .u64), .mv p3 (cb true) .b]) .ret) .skip)) (.sO [.cl p87 99 [(ci 1)] .v, .mv p10 q87 .v] (.sj v194_2 (.block 4 (.loop v194_5 c194_5b)) c194_2)))))
def v194_7 : List Pos := [p0, p4, p6, p7, p8, p9]
def c194_7 : XC := (.s (.oX [.mv p51 q8 tI, .bn p52 .add q51 (ci 1) tI, .mv p8 q52 tI]))
def v194_6 : List Pos := [p0, p4, p6, p7, p8, p9]
def c194_6b : XC := (.seq (.seq (.oX [.mv p47 q8 tI, .mv p48 q0 .s, .P p49 (.lens q48) tI, .bn p50 .lss q47 q49 .b]) (.cond q50 .skip (.exit 2))) (.sj v194_7 (.block 3 (.sO [.mv p53 q0 .s, .mv p54 q8 tI, .P p55 (.idxs q53 q54) tC, .bn p56 .eql q55 (.c (.int .u8 (.ofNat 45))) .b] (.cond q56 (.s (.oX [.mv p7 (.c (.int .i64 (.negSucc 0))) tI])) (.sO [.mv p57 q0 .s, .mv p58 q8 tI, .P p59 (.idxs q57 q58) tC, .bn p60 .neq q59 (.c (.int .u8 (.ofNat 43))) .b, .mv p61 q60 .b, .ge p61 (XL.of [.G p61 true p62 (.mov q6) tI, .G p61 true p63 (.bin .lss q62 (ci 10000)) .b, .P p64 (.pick q61 q63 (cb false)) .b]) p64 .b] (.cond q64 (.s (.oX [.mv p65 q6 tI, .bn p66 .mul q65 (ci 10) tI, .mv p67 q0 .s, .mv p68 q8 tI, .P p69 (.idxs q67 q68) tC, .bn p70 .sub q69 (.c (.int .u8 (.ofNat 48))) tC, .P p71 (.conv (.ii .i64) q70) tI, .bn p72 .add q66 q71 tI, .mv p6 q72 tI])) (.s .skip)))))) c194_7))
def v194_0 : List Pos := [p0, p4, p5, p6, p7, p8]
def c194_0 : XC := (.sO [.mv p42 q8 tI, .mv p43 q5 tI, .bn p44 .sub q42 q43 tI, .mv p9 q44 tI] (.sj v194_1 (.sO [.mv p45 q8 tI, .bn p46 .add q45 (ci 1) tI, .mv p8 q46 tI] (.block 2 (.loop v194_6 c194_6b))) c194_1))
def v194_9 : List Pos := [p0, p4, p5, p6, p7, p8]
def c194_9 : XC := (.s (.oX [.mv p40 q8 tI, .bn p41 .add q40 (ci 1) tI, .mv p8 q41 tI]))
def v194_8 : List Pos := [p0, p4, p5, p6, p7, p8]
def c194_8b : XC := (.seq (.seq (.oX [.mv p15 q8 tI, .mv p16 q0 .s, .P p17 (.lens q16) tI, .bn p18 .lss q15 q17 .b, .mv p19 q18 .b, .ge p19 (XL.of [.G p19 true p20 (.mov q0) .s, .G p19 true p21 (.mov q8) tI, .G p19 true p22 (.idxs q20 q21) tC, .G p19 true p23 (.bin .neq q22 (.c (.int .u8 (.ofNat 101)))) .b, .P p24 (.pick q19 q23 (cb false)) .b]) p24 .b]) (.cond q24 .skip (.exit 0))) (.block 1 (.sj v194_9 (.sO [.mv p25 q0 .s, .mv p26 q8 tI, .P p27 (.idxs q25 q26) tC, .bn p28 .eql q27 (.c (.int .u8 (.ofNat 46))) .b] (.cond q28 (.s (.oX [.mv p29 q8 tI, .bn p30 .add q29 (ci 1) tI, .mv p5 q30 tI])) (.s (.ops true (XL.of [.mv p31 q4 .v, .mv p33 q0 .s, .mv p34 q8 tI, .P p35 (.idxs q33 q34) tC, .bn p36 .sub q35 (.c (.int .u8 (.ofNat 48))) tC, .P p37 (.conv (.ii .i64) q36) tI, .cl p32 146 [q31, (ci 10)] .v, .cl p38 99 [q37] .v, .cl p39 188 [q32, q38] .v, .mv p4 q39 .v]))))) c194_9)))
def c194_e : XC := (.sO [.mv p2 (.c (.int .u64 (.ofNat 0))) (.i .u64), .mv p3 (cb false) .b] (.seq (.seq (.oX [.mv p11 q0 .s, .cl p12 137 [q11] .b, .P p13 (.un .not q12) .b]) (.cond q13 (.seq (.oX [.mv p2 (.c (.int .u64 (.ofNat 0))) (.i .u64), .mv p3 (cb false) .b]) .ret) .skip)) (.sO [.cl p14 99 [(ci 0)] .v, .mv p4 q14 .v] (.sO [.mv p5 (ci 0) tI, .mv p6 (ci 0) tI, .mv p7 (ci 1) tI] (.sO [.mv p8 (ci 0) tI] (.sj v194_0 (.block 0 (.loop v194_8 c194_8b)) c194_0))))))
def x194 : XFn := ⟨[.s], false, [(.tmp p2), (.tmp p3)], c194_e⟩
def e194_3 (k) (t4 : AV) (t10 : AV) (h) := kN k [(p4, t4), (p10, t10)] h
def S194_3 (D : CallD) (m : Nat) (t4 : AV) (t10 : AV) (h : HP) : Res2 :=
 cal D 98 [t4, t10, (vI (Int.ofNat 0))] h fun t102 h14 =>
 asI .u64 t102 fun t102a =>
 some (.ret (.tup [(AV.int .u64 t102a), (vB true)]) h14, .no)
def e194_4 (k) (t4 : AV) (t6 : Int) (t10 : AV) (h) := kN k [(p4, t4), (p6, (vI t6)), (p10, t10)] h
def S194_4b (D : CallD) (m : Nat) (g4 : AV → Int → AV → HP → Res2) (t4 : AV) (t6 : Int) (t10 : AV) (h : HP) : Res2 :=
 let t95 : Bool := ltQ t6 (Int.ofNat 0)
 br t95 (
 cal D 146 [t10, (vI (Int.ofNat 10))] h fun t99 h15 =>
 let t97 : Int := wrQ .i64 (addQ t6 (Int.ofNat 1))
 g4 t4 t97 t99 h15) (
 S194_3 D m t4 t10 h)
def S194_4 (D : CallD) (m : Nat) : AV → Int → AV → HP → Res2 := nrec (fun _ _ _ _ => none) (fun _ g => S194_4b D m g) m
def e194_2 (k) (t4 : AV) (t6 : Int) (t10 : AV) (h) := kN k [(p4, t4), (p6, (vI t6)), (p10, t10)] h
def S194_2 (D : CallD) (m : Nat) (t4 : AV) (t6 : Int) (t10 : AV) (h : HP) : Res2 :=
 S194_4 D m t4 t6 t10 h
def e194_5 (k) (t4 : AV) (t6 : Int) (t10 : AV) (h) := kN k [(p4, t4), (p6, (vI t6)), (p10, t10)] h
def S194_5b (D : CallD) (m : Nat) (g5 : AV → Int → AV → HP → Res2) (t4 : AV) (t6 : Int) (t10 : AV) (h : HP) : Res2 :=
 let t89 : Bool := ltQ (Int.ofNat 0) t6
 br t89 (
 cal D 146 [t4, (vI (Int.ofNat 10))] h fun t93 h16 =>
 let t91 : Int := wrQ .i64 (t6 - (Int.ofNat 1))
 g5 t93 t91 t10 h16) (
 S194_2 D m t4 t6 t10 h)
def S194_5 (D : CallD) (m : Nat) : AV → Int → AV → HP → Res2 := nrec (fun _ _ _ _ => none) (fun _ g => S194_5b D m g) m
def e194_1 (k) (t4 : AV) (t6 : Int) (t7 : Int) (t9 : Int) (h) := kN k [(p4, t4), (p6, (vI t6)), (p7, (vI t7)), (p9, (vI t9))] h
def S194_1 (D : CallD) (m : Nat) (t4 : AV) (t6 : Int) (t7 : Int) (t9 : Int) (h : HP) : Res2 :=
 let t75 : Int := wrQ .i64 (t7 * t6)
 let t77 : Int := wrQ .i64 (t75 - t9)
 lenC t4 fun vt79 => asI .i64 vt79 fun t79 =>
 let t80 : Bool := eqQ t79 (Int.ofNat 0)
 obB (brV t80 (
 some (vB true)) (
 let t83 : Bool := ltQ t77 (Int.negSucc 499)
 some (vB t83))) fun t84 =>
 br t84 (
 some (.ret (.tup [(AV.int .u64 (Int.ofNat 0)), (vB true)]) h, .no)) (
 let t86 : Bool := ltQ (Int.ofNat 500) t77
 br t86 (
 some (.ret (.tup [(AV.int .u64 (Int.ofNat 9218868437227405312)), (vB true)]) h, .no)) (
 cal D 99 [(vI (Int.ofNat 1))] h fun t87 h13 =>
 S194_5 D m t4 t77 t87 h13))
def e194_7 (k) (t0 : LN) (t4 : AV) (t6 : Int) (t7 : Int) (t8 : Int) (t9 : Int) (h) := kN k [(p0, (vS t0)), (p4, t4), (p6, (vI t6)), (p7, (vI t7)), (p8, (vI t8)), (p9, (vI t9))] h
def S194_7 (D : CallD) (m : Nat) (g6 : LN → AV → Int → Int → Int → Int → HP → Res2) (t0 : LN) (t4 : AV) (t6 : Int) (t7 : Int) (t8 : Int) (t9 : Int) (h : HP) : Res2 :=
 let t52 : Int := wrQ .i64 (addQ t8 (Int.ofNat 1))
 g6 t0 t4 t6 t7 t52 t9 h
def e194_6 (k) (t0 : LN) (t4 : AV) (t6 : Int) (t7 : Int) (t8 : Int) (t9 : Int) (h) := kN k [(p0, (vS t0)), (p4, t4), (p6, (vI t6)), (p7, (vI t7)), (p8, (vI t8)), (p9, (vI t9))] h
def S194_6b (D : CallD) (m : Nat) (g6 : LN → AV → Int → Int → Int → Int → HP → Res2) (t0 : LN) (t4 : AV) (t6 : Int) (t7 : Int) (t8 : Int) (t9 : Int) (h : HP) : Res2 :=
 let t49 : Int := Int.ofNat (lenL t0)
 let t50 : Bool := ltQ t8 t49
 br t50 (
 ixC (vS t0) (vI t8) fun vt55 => asI .u8 vt55 fun t55 =>
 let t56 : Bool := eqQ t55 (Int.ofNat 45)
 br t56 (
 S194_7 D m g6 t0 t4 t6 (Int.negSucc 0) t8 t9 h) (
 ixC (vS t0) (vI t8) fun vt59 => asI .u8 vt59 fun t59 =>
 let t60 : Bool := notQ (eqQ t59 (Int.ofNat 43))
 obB (brV t60 (
 let t63 : Bool := ltQ t6 (Int.ofNat 10000)
 some (vB t63)) (
 some (vB false))) fun t64 =>
 br t64 (
 let t66 : Int := wrQ .i64 (t6 * (Int.ofNat 10))
 ixC (vS t0) (vI t8) fun vt69 => asI .u8 vt69 fun t69 =>
 let t70 : Int := wrQ .u8 (t69 - (Int.ofNat 48))
 let t71 : Int := wrapF .i64 t70
 let t72 : Int := wrQ .i64 (addQ t66 t71)
 S194_7 D m g6 t0 t4 t72 t7 t8 t9 h) (
 S194_7 D m g6 t0 t4 t6 t7 t8 t9 h))) (
 S194_1 D m t4 t6 t7 t9 h)
def S194_6 (D : CallD) (m : Nat) : LN → AV → Int → Int → Int → Int → HP → Res2 := nrec (fun _ _ _ _ _ _ _ => none) (fun _ g => S194_6b D m g) m
def e194_0 (k) (t0 : LN) (t4 : AV) (t5 : Int) (t6 : Int) (t7 : Int) (t8 : Int) (h) := kN k [(p0, (vS t0)), (p4, t4), (p5, (vI t5)), (p6, (vI t6)), (p7, (vI t7)), (p8, (vI t8))] h
def S194_0 (D : CallD) (m : Nat) (t0 : LN) (t4 : AV) (t5 : Int) (t6 : Int) (t7 : Int) (t8 : Int) (h : HP) : Res2 :=
 let t44 : Int := wrQ .i64 (t8 - t5)
 let t46 : Int := wrQ .i64 (addQ t8 (Int.ofNat 1))
 S194_6 D m t0 t4 t6 t7 t46 t44 h
def e194_9 (k) (t0 : LN) (t4 : AV) (t5 : Int) (t6 : Int) (t7 : Int) (t8 : Int) (h) := kN k [(p0, (vS t0)), (p4, t4), (p5, (vI t5)), (p6, (vI t6)), (p7, (vI t7)), (p8, (vI t8))] h
def S194_9 (D : CallD) (m : Nat) (g8 : LN → AV → Int → Int → Int → Int → HP → Res2) (t0 : LN) (t4 : AV) (t5 : Int) (t6 : Int) (t7 : Int) (t8 : Int) (h : HP) : Res2 :=
 let t41 : Int := wrQ .i64 (addQ t8 (Int.ofNat 1))
 g8 t0 t4 t5 t6 t7 t41 h
def e194_8 (k) (t0 : LN) (t4 : AV) (t5 : Int) (t6 : Int) (t7 : Int) (t8 : Int) (h) := kN k [(p0, (vS t0)), (p4, t4), (p5, (vI t5)), (p6, (vI t6)), (p7, (vI t7)), (p8, (vI t8))] h
def S194_8b (D : CallD) (m : Nat) (g8 : LN → AV → Int → Int → Int → Int → HP → Res2) (t0 : LN) (t4 : AV) (t5 : Int) (t6 : Int) (t7 : Int) (t8 : Int) (h : HP) : Res2 :=
 let t17 : Int := Int.ofNat (lenL t0)
 let t18 : Bool := ltQ t8 t17
 obB (brV t18 (
 ixCV (vS t0) (vI t8) fun vt22 => asIV .u8 vt22 fun t22 =>
 let t23 : Bool := notQ (eqQ t22 (Int.ofNat 101))
 some (vB t23)) (
 some (vB false))) fun t24 =>
 br t24 (
 ixC (vS t0) (vI t8) fun vt27 => asI .u8 vt27 fun t27 =>
 let t28 : Bool := eqQ t27 (Int.ofNat 46)
 br t28 (
 let t30 : Int := wrQ .i64 (addQ t8 (Int.ofNat 1))
 S194_9 D m g8 t0 t4 t30 t6 t7 t8 h) (
 ixC (vS t0) (vI t8) fun vt35 => asI .u8 vt35 fun t35 =>
 let t36 : Int := wrQ .u8 (t35 - (Int.ofNat 48))
 let t37 : Int := wrapF .i64 t36
 cal D 146 [t4, (vI (Int.ofNat 10))] h fun t32 h17 =>
 cal D 99 [(vI t37)] h17 fun t38 h18 =>
 cal D 188 [t32, t38] h18 fun t39 h19 =>
 S194_9 D m g8 t0 t39 t5 t6 t7 t8 h19)) (
 S194_0 D m t0 t4 t5 t6 t7 t8 h)
def S194_8 (D : CallD) (m : Nat) : LN → AV → Int → Int → Int → Int → HP → Res2 := nrec (fun _ _ _ _ _ _ _ => none) (fun _ g => S194_8b D m g) m
def e194_10 (k) (t0 : LN) (h) := kN k [(p0, (vS t0))] h
def S194_10 (D : CallD) (m : Nat) (t0 : LN) (h : HP) : Res2 :=
 cal D 137 [(vS t0)] h fun t12 h11 =>
 asB t12 fun t12a =>
 let t13 : Bool := !t12a
 br t13 (
 some (.ret (.tup [(AV.int .u64 (Int.ofNat 0)), (vB false)]) h11, .no)) (
 cal D 99 [(vI (Int.ofNat 0))] h11 fun t14 h12 =>
 S194_8 D m t0 t14 (Int.ofNat 0) (Int.ofNat 0) (Int.ofNat 1) (Int.ofNat 0) h12)
def S194 : SFn := fun D m args h u => nou u <| popS args fun t0 args => endA args (S194_10 D m t0 h)
theorem T194_3 {D m E} (hE : FX x194 D m E) : S194_3 D m = e194_3 (E c194_3 []) := by unfold S194_3; rw [hE c194_3]; kernel_rfl
theorem T194_4b {D m E} (hE : FX x194 D m E) (G4) : S194_4b D m (e194_4 G4) = e194_4 (E c194_4b [.lp v194_4 G4, .blk 6, .sj v194_3 c194_3]) := by unfold S194_4b; rw [T194_3 hE, hE c194_4b]; kernel_rfl
theorem T194_4 {D m E} (hE : FX x194 D m E) : S194_4 D m = e194_4 (nrec (fun _ => none) (fun _ G4 st => E c194_4b [.lp v194_4 G4, .blk 6, .sj v194_3 c194_3] st) m) :=
  nrec_emb e194_4 (fun _ _ _ _ => none) (fun g => S194_4b D m g) (fun G4 st => E c194_4b [.lp v194_4 G4, .blk 6, .sj v194_3 c194_3] st) rfl (fun g => T194_4b hE g) m
theorem T194_2 {D m E} (hE : FX x194 D m E) : S194_2 D m = e194_2 (E c194_2 []) := by unfold S194_2; rw [T194_4 hE, hE c194_2]; kernel_rfl
theorem T194_5b {D m E} (hE : FX x194 D m E) (G5) : S194_5b D m (e194_5 G5) = e194_5 (E c194_5b [.lp v194_5 G5, .blk 4, .sj v194_2 c194_2]) := by unfold S194_5b; rw [T194_2 hE, hE c194_5b]; kernel_rfl
theorem T194_5 {D m E} (hE : FX x194 D m E) : S194_5 D m = e194_5 (nrec (fun _ => none) (fun _ G5 st => E c194_5b [.lp v194_5 G5, .blk 4, .sj v194_2 c194_2] st) m) :=
  nrec_emb e194_5 (fun _ _ _ _ => none) (fun g => S194_5b D m g) (fun G5 st => E c194_5b [.lp v194_5 G5, .blk 4, .sj v194_2 c194_2] st) rfl (fun g => T194_5b hE g) m
theorem T194_1 {D m E} (hE : FX x194 D m E) : S194_1 D m = e194_1 (E c194_1 []) := by unfold S194_1; rw [T194_5 hE, hE c194_1]; kernel_rfl
theorem T194_7 {D m E} (hE : FX x194 D m E) (G6) : S194_7 D m (e194_6 G6) = e194_7 (E c194_7 [.lp v194_6 G6, .blk 2, .sj v194_1 c194_1]) := by unfold S194_7; rw [hE c194_7]; kernel_rfl
theorem T194_6b {D m E} (hE : FX x194 D m E) (G6) : S194_6b D m (e194_6 G6) = e194_6 (E c194_6b [.lp v194_6 G6, .blk 2, .sj v194_1 c194_1]) := by unfold S194_6b; rw [T194_7 hE G6, T194_1 hE, hE c194_6b]; kernel_rfl
theorem T194_6 {D m E} (hE : FX x194 D m E) : S194_6 D m = e194_6 (nrec (fun _ => none) (fun _ G6 st => E c194_6b [.lp v194_6 G6, .blk 2, .sj v194_1 c194_1] st) m) :=
  nrec_emb e194_6 (fun _ _ _ _ _ _ _ => none) (fun g => S194_6b D m g) (fun G6 st => E c194_6b [.lp v194_6 G6, .blk 2, .sj v194_1 c194_1] st) rfl (fun g => T194_6b hE g) m
theorem T194_0 {D m E} (hE : FX x194 D m E) : S194_0 D m = e194_0 (E c194_0 []) := by unfold S194_0; rw [T194_6 hE, hE c194_0]; kernel_rfl
theorem T194_9 {D m E} (hE : FX x194 D m E) (G8) : S194_9 D m (e194_8 G8) = e194_9 (E c194_9 [.blk 1, .lp v194_8 G8, .blk 0, .sj v194_0 c194_0]) := by unfold S194_9; rw [hE c194_9]; kernel_rfl
theorem T194_8b {D m E} (hE : FX x194 D m E) (G8) : S194_8b D m (e194_8 G8) = e194_8 (E c194_8b [.lp v194_8 G8, .blk 0, .sj v194_0 c194_0]) := by unfold S194_8b; rw [T194_9 hE G8, T194_0 hE, hE c194_8b]; kernel_rfl
theorem T194_8 {D m E} (hE : FX x194 D m E) : S194_8 D m = e194_8 (nrec (fun _ => none) (fun _ G8 st => E c194_8b [.lp v194_8 G8, .blk 0, .sj v194_0 c194_0] st) m) :=
  nrec_emb e194_8 (fun _ _ _ _ _ _ _ => none) (fun g => S194_8b D m g) (fun G8 st => E c194_8b [.lp v194_8 G8, .blk 0, .sj v194_0 c194_0] st) rfl (fun g => T194_8b hE g) m
theorem T194_10 {D m E} (hE : FX x194 D m E) : S194_10 D m = e194_10 (E c194_e []) := by unfold S194_10; rw [T194_8 hE, hE c194_e]; kernel_rfl
theorem X194 (D m args h u) : S194 D m args h u = evFX x194 D m args h u := by unfold S194; rw [T194_10 (fix_ok D m (x194.endOf D))]; show _ = evFXE x194 (evE2 D m (x194.endOf D)) args h u; generalize evE2 D m (x194.endOf D) = E; kernel_rfl
/- 195 -/
def v195_0 : List Pos := [p1, p2, p4]
def c195_0 : XC := (.sO [.L p36 (.cells 5 q1) .v, .mv p37 q4 .v, .ss 5 q2 q36, .mv p3 q37 .v] (.s .ret))
def v195_1 : List Pos := [p1, p2, p4]
def c195_1b : XC := (.seq (.seq (.oX [.fa p10 3 q1, .ld p11 q10 tI, .bn p12 .eql q11 (ci 0) .b]) (.cond q12 .skip (.exit 0))) (.block 1 (.seq (.seq (.oX [.mv p13 q4 .v, .P p14 (.lenl q13) tI, .bn p15 .geq q14 (ci 8) .b]) (.cond q15 (.seq (.oX [.L p16 (.cells 5 q1) .v, .cl p17 111 [q16, (ci 5)] .v, .ss 5 q2 q17, .mv p3 (.c .nils) .v]) .ret) .skip)) (.sO [.P p18 (.build [(kI 0), (.str []), (.str []), (.int .u32 (.ofNat 0)), (.int .u64 (.ofNat 0)), .nils, (kI 0), (kI 0)] []) .v, .al p5 (.new [(kI 0), (.str []), (.str []), (.int .u32 (.ofNat 0)), (.int .u64 (.ofNat 0)), .nils, (kI 0), (kI 0)]), .ss 8 q5 q18] (.sO [.L p20 (.cells 5 q1) .v, .cl p21 81 [q20] .v, .mv p19 q21 .v, .P p22 (.ext q19 0) .v, .P p23 (.ext q19 1) .v, .ss 5 q1 q22, .ss 8 q5 q23] (.sO [.mv p24 q4 .v, .L p25 (.cells 8 q5) .v, .al p26 (.bsl [(kI 0), (.str []), (.str []), (.int .u32 (.ofNat 0)), (.int .u64 (.ofNat 0)), .nils, (kI 0), (kI 0)] 1 [⟨0, 8, q25⟩]), .o ⟨(some p27), (.e (.app 8 96 q24 q26)), none, []⟩ .v, .mv p4 q27 .v] (.seq (.seq (.oX [.L p28 (.cells 5 q1) .v, .cl p29 73 [q28, (.c (.str [44]))] .b, .P p30 (.un .not q29) .b]) (.cond q30 (.seq (.oX [.L p31 (.cells 5 q1) .v, .cl p32 79 [q31, (.c (.str [41]))] .v, .mv p33 q4 .v, .ss 5 q2 q32, .mv p3 q33 .v]) .ret) .skip)) (.s (.oX [.L p34 (.cells 5 q1) .v, .cl p35 74 [q34] .v, .ss 5 q1 q35])))))))))
def c195_e : XC := (.sO [.al p1 (.box q0), .al p2 (.new [.nils, (kI 0), (kI 0), (kI 0), (kI 0)]), .mv p3 (.c .nils) .v] (.seq (.seq (.oX [.L p6 (.cells 5 q1) .v, .cl p7 73 [q6, (.c (.str [41]))] .b]) (.cond q7 (.seq (.oX [.L p8 (.cells 5 q1) .v, .cl p9 74 [q8] .v, .ss 5 q2 q9, .mv p3 (.c .nils) .v]) .ret) .skip)) (.sO [.mv p4 (.c .nils) .v] (.sj v195_0 (.block 0 (.loop v195_1 c195_1b)) c195_0))))
def x195 : XFn := ⟨[.v], false, [(.cells 5 p2), (.tmp p3)], c195_e⟩
def e195_0 (k) (t1 : AV) (t2 : AV) (t4 : AV) (h) := kN k [(p1, t1), (p2, t2), (p4, t4)] h
def S195_0 (D : CallD) (m : Nat) (t1 : AV) (t2 : AV) (t4 : AV) (h : HP) : Res2 :=
 cellsC 5 t1 h fun t36 =>
 stsC 5 t2 t36 h fun h8 =>
 XFn.endOf x195 D (.ret ⟨(mkT [(p2, t2), (p3, t4)]), h8, [], .no⟩)
def e195_1 (k) (t1 : AV) (t2 : AV) (t4 : AV) (h) := kN k [(p1, t1), (p2, t2), (p4, t4)] h
def S195_1b (D : CallD) (m : Nat) (g1 : AV → AV → AV → HP → Res2) (t1 : AV) (t2 : AV) (t4 : AV) (h : HP) : Res2 :=
 faC 3 t1 fun t10 =>
 ldI t10 h fun t11 =>
 let t12 : Bool := eqQ t11 (Int.ofNat 0)
 br t12 (
 lenC t4 fun vt14 => asI .i64 vt14 fun t14 =>
 let t15 : Bool := leQ (Int.ofNat 8) t14
 br t15 (
 cellsC 5 t1 h fun t16 =>
 cal D 111 [t16, (vI (Int.ofNat 5))] h fun t17 h9 =>
 stsC 5 t2 t17 h9 fun h10 =>
 XFn.endOf x195 D (.ret ⟨(mkT [(p2, t2), (p3, (.nils : AV))]), h10, [], .no⟩)) (
 let t18 : AV := (AV.agg [(vI (Int.ofNat 0)), (vS ([] : LN)), (vS ([] : LN)), (vW (Int.ofNat 0)), (AV.int .u64 (Int.ofNat 0)), (.nils : AV), (vI (Int.ofNat 0)), (vI (Int.ofNat 0))])
 let t5 : AV := AV.ptr (HP.nxQ h) 0
 let h11 : HP := HP.newQ h (.cells true [(kI 0), (.str []), (.str []), (.int .u32 (.ofNat 0)), (.int .u64 (.ofNat 0)), .nils, (kI 0), (kI 0)])
 stsC 8 t5 t18 h11 fun h12 =>
 cellsC 5 t1 h12 fun t20 =>
 cal D 81 [t20] h12 fun t21 h13 =>
 extC t21 0 fun t22 =>
 extC t21 1 fun t23 =>
 stsC 5 t1 t22 h13 fun h14 =>
 stsC 8 t5 t23 h14 fun h15 =>
 cellsC 8 t5 h15 fun t25 =>
 obQ (evA (.bsl [(kI 0), (.str []), (.str []), (.int .u32 (.ofNat 0)), (.int .u64 (.ofNat 0)), .nils, (kI 0), (kI 0)] 1 [⟨0, 8, (.c t25)⟩]) .leaf) fun r16 =>
 let t26 : AV := vkV r16.2 (HP.nxQ h15)
 let h17 : HP := HP.newQ h15 r16.1
 eff (.app 8 96 (.c t4) (.c t26)) h17 fun t27 h18 =>
 cellsC 5 t1 h18 fun t28 =>
 cal D 73 [t28, (vS ([44] : LN))] h18 fun t29 h19 =>
 asB t29 fun t29a =>
 let t30 : Bool := !t29a
 br t30 (
 cellsC 5 t1 h19 fun t31 =>
 cal D 79 [t31, (vS ([41] : LN))] h19 fun t32 h20 =>
 stsC 5 t2 t32 h20 fun h21 =>
 XFn.endOf x195 D (.ret ⟨(mkT [(p2, t2), (p3, t27)]), h21, [], .no⟩)) (
 cellsC 5 t1 h19 fun t34 =>
 cal D 74 [t34] h19 fun t35 h22 =>
 stsC 5 t1 t35 h22 fun h23 =>
 g1 t1 t2 t27 h23))) (
 S195_0 D m t1 t2 t4 h)
def S195_1 (D : CallD) (m : Nat) : AV → AV → AV → HP → Res2 := nrec (fun _ _ _ _ => none) (fun _ g => S195_1b D m g) m
def e195_2 (k) (t0 : AV) (h) := kN k [(p0, t0)] h
def S195_2 (D : CallD) (m : Nat) (t0 : AV) (h : HP) : Res2 :=
 let t1 : AV := AV.ptr (HP.nxQ h) 0
 let h3 : HP := HP.newQ h (.cells true (AV.cells t0))
 let t2 : AV := AV.ptr (HP.nxQ h3) 0
 let h4 : HP := HP.newQ h3 (.cells true [.nils, (kI 0), (kI 0), (kI 0), (kI 0)])
 cellsC 5 t1 h4 fun t6 =>
 cal D 73 [t6, (vS ([41] : LN))] h4 fun t7 h5 =>
 asB t7 fun t7a =>
 br t7a (
 cellsC 5 t1 h5 fun t8 =>
 cal D 74 [t8] h5 fun t9 h6 =>
 stsC 5 t2 t9 h6 fun h7 =>
 XFn.endOf x195 D (.ret ⟨(mkT [(p2, t2), (p3, (.nils : AV))]), h7, [], .no⟩)) (
 S195_1 D m t1 t2 (.nils : AV) h5)
def S195 : SFn := fun D m args h u => nou u <| popV args fun t0 args => endA args (S195_2 D m t0 h)
theorem T195_0 {D m E} (hE : FX x195 D m E) : S195_0 D m = e195_0 (E c195_0 []) := by unfold S195_0; rw [hE c195_0]; kernel_rfl
theorem T195_1b {D m E} (hE : FX x195 D m E) (G1) : S195_1b D m (e195_1 G1) = e195_1 (E c195_1b [.lp v195_1 G1, .blk 0, .sj v195_0 c195_0]) := by unfold S195_1b; rw [T195_0 hE, hE c195_1b]; kernel_rfl
theorem T195_1 {D m E} (hE : FX x195 D m E) : S195_1 D m = e195_1 (nrec (fun _ => none) (fun _ G1 st => E c195_1b [.lp v195_1 G1, .blk 0, .sj v195_0 c195_0] st) m) :=
  nrec_emb e195_1 (fun _ _ _ _ => none) (fun g => S195_1b D m g) (fun G1 st => E c195_1b [.lp v195_1 G1, .blk 0, .sj v195_0 c195_0] st) rfl (fun g => T195_1b hE g) m
theorem T195_2 {D m E} (hE : FX x195 D m E) : S195_2 D m = e195_2 (E c195_e []) := by unfold S195_2; rw [T195_1 hE, hE c195_e]; kernel_rfl
theorem X195 (D m args h u) : S195 D m args h u = evFX x195 D m args h u := by unfold S195; rw [T195_2 (fix_ok D m (x195.endOf D))]; show _ = evFXE x195 (evE2 D m (x195.endOf D)) args h u; generalize evE2 D m (x195.endOf D) = E; kernel_rfl
end
end Go.Proofs.YtblciblkocameaaGreat.Sx
