/- FoldWords: what is behind the loop. -/
import Derived.Test.YtakcpnpeadkfpaaGreatDoorFx
set_option linter.unusedVariables false
set_option linter.unusedSimpArgs false
set_option linter.unusedSectionVars false
set_option maxRecDepth 100000
namespace Go.Proofs.YtakcpnpeadkfpaaGreatDoor.Lw
open Go Go.Proofs.YtakcpnpeadkfpaaGreatDoor.Lg Go.Proofs.YtakcpnpeadkfpaaGreatDoor.Ev Go.Proofs.YtakcpnpeadkfpaaGreatDoor.Sx Go.Proofs.YtakcpnpeadkfpaaGreatDoor.Ra
section
variable (m : Int) (a b : Nat) (ha : a < 4294967296)
noncomputable def y0 : St := ⟨fB m a b, h2 m a b, [], .no⟩
noncomputable def y1 : St := nx (y0 m a b) (ev (q1 cT) (y0 m a b))
noncomputable def y2 : St := nx (y0 m a b) (ev (q1 (q2 cT)) (y1 m a b))
theorem e1 : ev (q1 cT) (y0 m a b) = some (.normal (y1 m a b)) := by kernel_rfl
theorem e2 : ev (q1 (q2 cT)) (y1 m a b) = some (.normal (y2 m a b)) := by kernel_rfl
theorem cT_is : cT = .seq (q1 cT) (.seq (q1 (q2 cT)) (.seq (q1 (q2 (q2 cT))) .ret)) := by kernel_rfl
noncomputable def ops13 : List AOper := match trCode Tryz.prog nt4 (q1 (q2 (q2 cT))) with | .ops _ l => l | _ => []
theorem c13 : trCode Tryz.prog nt4 (q1 (q2 (q2 cT))) = .ops false ops13 := by kernel_rfl
noncomputable def y3 : St := nx (y0 m a b) (evOps call4 (ops13.take 10) (y2 m a b))
theorem e3 : evOps call4 (ops13.take 10) (y2 m a b) = some (.normal (y3 m a b)) := by kernel_rfl
noncomputable def o77 : AOper := match ops13.drop 10 with | o :: _ => o | [] => ⟨none, .bad, none, []⟩
theorem e4 : stepO call4 o77 (y3 m a b) = some (.normal ⟨T.set (vW (wrapF .u32 (Int.ofNat (dwN 2 0 a) + Int.ofNat a))) (posOf 77) (y3 m a b).fr, (y3 m a b).h, [], .no⟩) := by kernel_rfl
noncomputable def y4 : St := ⟨T.set (wv 0) (posOf 77) (y3 m a b).fr, (y3 m a b).h, [], .no⟩
noncomputable def y5 : St := nx (y0 m a b) (evOps call4 ((ops13.drop 11).take 6) (y4 m a b))
theorem e5 : evOps call4 ((ops13.drop 11).take 6) (y4 m a b) = some (.normal (y5 m a b)) := by kernel_rfl
theorem v82 : T.get (posOf 82) (y5 m a b).fr = some (wv (dwN 6 a 4294967295)) := by kernel_rfl
noncomputable def o84 : AOper := match ops13.drop 17 with | o :: _ => o | [] => ⟨none, .bad, none, []⟩
theorem e6 : stepO call4 o84 (y5 m a b) = some (.normal ⟨T.set (vW (wrapF .u32 (Int.ofNat (Nat.xor (dwN 6 a 4294967295) a)))) (posOf 84) (y5 m a b).fr, (y5 m a b).h, [], .no⟩) := by kernel_rfl
noncomputable def y6 : St := ⟨T.set (wv 4294967295) (posOf 84) (y5 m a b).fr, (y5 m a b).h, [], .no⟩
noncomputable def y7 : St := nx (y0 m a b) (evOps call4 (ops13.drop 18) (y6 m a b))
theorem e7 : evOps call4 (ops13.drop 18) (y6 m a b) = some (.normal (y7 m a b)) := by kernel_rfl
theorem v4 : T.get (posOf 4) (y7 m a b).fr = some (.bool true) := by kernel_rfl
theorem ops13_is : ops13 = ops13.take 10 ++ (o77 :: ((ops13.drop 11).take 6 ++ (o84 :: ops13.drop 18))) := by kernel_rfl
end
end Go.Proofs.YtakcpnpeadkfpaaGreatDoor.Lw
