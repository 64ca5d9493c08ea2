/- The law SemEchoes of chapter 15 returns true whatever its arguments: the kernel runs the 505 cases of at most 100 words with the words left open; nothing is run above 100. No condition. -/
import Derived.Test.YtblciblkocameaaGreatRows
import Derived.Test.YtblciblkocameaaGreatEr0
import Derived.Test.YtblciblkocameaaGreatEr1
import Derived.Test.YtblciblkocameaaGreatEr2
import Derived.Test.YtblciblkocameaaGreatEr3
import Derived.Test.YtblciblkocameaaGreatEr4
import Derived.Test.YtblciblkocameaaGreatEr5
import Derived.Test.YtblciblkocameaaGreatEr6
import Derived.Test.YtblciblkocameaaGreatEr7
import Derived.Test.YtblciblkocameaaGreatEr8
import Derived.Test.YtblciblkocameaaGreatEr9
import Derived.Test.YtblciblkocameaaGreatEr10
import Derived.Test.YtblciblkocameaaGreatEr11
import Derived.Test.YtblciblkocameaaGreatEr12
import Derived.Test.YtblciblkocameaaGreatEr13
import Derived.Test.YtblciblkocameaaGreatEr14
import Derived.Test.YtblciblkocameaaGreatEr15
import Derived.Test.YtblciblkocameaaGreatEr16
import Derived.Test.YtblciblkocameaaGreatEr17
import Derived.Test.YtblciblkocameaaGreatEr18
import Derived.Test.YtblciblkocameaaGreatEr19
import Derived.Test.YtblciblkocameaaGreatEr20
import Derived.Test.YtblciblkocameaaGreatEr21
import Derived.Test.YtblciblkocameaaGreatEr22
import Derived.Test.YtblciblkocameaaGreatEr23
import Derived.Test.YtblciblkocameaaGreatEr24
import Derived.Test.YtblciblkocameaaGreatEr25
import Derived.Test.YtblciblkocameaaGreatEr26
import Derived.Test.YtblciblkocameaaGreatEr27
import Derived.Test.YtblciblkocameaaGreatEr28
import Derived.WalkKit
import Derived.ProofKit
import Derived.OpenShut
import Derived.Carry
import Derived.Lib.LaidU8
set_option linter.unusedVariables false
namespace Go.Proofs.YtblciblkocameaaGreat.Sx
open Go Go.Proofs.YtblciblkocameaaGreat.Ev
theorem allE0 (i a : Nat) (hi : i < 10) (ha : a < 5) : Runs (0 + i) a := by
  have h1 : i = 0 ∨ i = 1 ∨ i = 2 ∨ i = 3 ∨ i = 4 ∨ i = 5 ∨ i = 6 ∨ i = 7 ∨ i = 8 ∨ i = 9 := by omega
  have h2 : a = 0 ∨ a = 1 ∨ a = 2 ∨ a = 3 ∨ a = 4 := by omega
  rcases h1 with rfl | rfl | rfl | rfl | rfl | rfl | rfl | rfl | rfl | rfl
  · rcases h2 with rfl | rfl | rfl | rfl | rfl
    · exact g0_0
    · exact g0_1
    · exact g0_2
    · exact g0_3
    · exact g0_4
  · rcases h2 with rfl | rfl | rfl | rfl | rfl
    · exact g1_0
    · exact g1_1
    · exact g1_2
    · exact g1_3
    · exact g1_4
  · rcases h2 with rfl | rfl | rfl | rfl | rfl
    · exact g2_0
    · exact g2_1
    · exact g2_2
    · exact g2_3
    · exact g2_4
  · rcases h2 with rfl | rfl | rfl | rfl | rfl
    · exact g3_0
    · exact g3_1
    · exact g3_2
    · exact g3_3
    · exact g3_4
  · rcases h2 with rfl | rfl | rfl | rfl | rfl
    · exact g4_0
    · exact g4_1
    · exact g4_2
    · exact g4_3
    · exact g4_4
  · rcases h2 with rfl | rfl | rfl | rfl | rfl
    · exact g5_0
    · exact g5_1
    · exact g5_2
    · exact g5_3
    · exact g5_4
  · rcases h2 with rfl | rfl | rfl | rfl | rfl
    · exact g6_0
    · exact g6_1
    · exact g6_2
    · exact g6_3
    · exact g6_4
  · rcases h2 with rfl | rfl | rfl | rfl | rfl
    · exact g7_0
    · exact g7_1
    · exact g7_2
    · exact g7_3
    · exact g7_4
  · rcases h2 with rfl | rfl | rfl | rfl | rfl
    · exact g8_0
    · exact g8_1
    · exact g8_2
    · exact g8_3
    · exact g8_4
  · rcases h2 with rfl | rfl | rfl | rfl | rfl
    · exact g9_0
    · exact g9_1
    · exact g9_2
    · exact g9_3
    · exact g9_4
theorem allE1 (i a : Nat) (hi : i < 10) (ha : a < 5) : Runs (10 + i) a := by
  have h1 : i = 0 ∨ i = 1 ∨ i = 2 ∨ i = 3 ∨ i = 4 ∨ i = 5 ∨ i = 6 ∨ i = 7 ∨ i = 8 ∨ i = 9 := by omega
  have h2 : a = 0 ∨ a = 1 ∨ a = 2 ∨ a = 3 ∨ a = 4 := by omega
  rcases h1 with rfl | rfl | rfl | rfl | rfl | rfl | rfl | rfl | rfl | rfl
  · rcases h2 with rfl | rfl | rfl | rfl | rfl
    · exact g10_0
    · exact g10_1
    · exact g10_2
    · exact g10_3
    · exact g10_4
  · rcases h2 with rfl | rfl | rfl | rfl | rfl
    · exact g11_0
    · exact g11_1
    · exact g11_2
    · exact g11_3
    · exact g11_4
  · rcases h2 with rfl | rfl | rfl | rfl | rfl
    · exact g12_0
    · exact g12_1
    · exact g12_2
    · exact g12_3
    · exact g12_4
  · rcases h2 with rfl | rfl | rfl | rfl | rfl
    · exact g13_0
    · exact g13_1
    · exact g13_2
    · exact g13_3
    · exact g13_4
  · rcases h2 with rfl | rfl | rfl | rfl | rfl
    · exact g14_0
    · exact g14_1
    · exact g14_2
    · exact g14_3
    · exact g14_4
  · rcases h2 with rfl | rfl | rfl | rfl | rfl
    · exact g15_0
    · exact g15_1
    · exact g15_2
    · exact g15_3
    · exact g15_4
  · rcases h2 with rfl | rfl | rfl | rfl | rfl
    · exact g16_0
    · exact g16_1
    · exact g16_2
    · exact g16_3
    · exact g16_4
  · rcases h2 with rfl | rfl | rfl | rfl | rfl
    · exact g17_0
    · exact g17_1
    · exact g17_2
    · exact g17_3
    · exact g17_4
  · rcases h2 with rfl | rfl | rfl | rfl | rfl
    · exact g18_0
    · exact g18_1
    · exact g18_2
    · exact g18_3
    · exact g18_4
  · rcases h2 with rfl | rfl | rfl | rfl | rfl
    · exact g19_0
    · exact g19_1
    · exact g19_2
    · exact g19_3
    · exact g19_4
theorem allE2 (i a : Nat) (hi : i < 10) (ha : a < 5) : Runs (20 + i) a := by
  have h1 : i = 0 ∨ i = 1 ∨ i = 2 ∨ i = 3 ∨ i = 4 ∨ i = 5 ∨ i = 6 ∨ i = 7 ∨ i = 8 ∨ i = 9 := by omega
  have h2 : a = 0 ∨ a = 1 ∨ a = 2 ∨ a = 3 ∨ a = 4 := by omega
  rcases h1 with rfl | rfl | rfl | rfl | rfl | rfl | rfl | rfl | rfl | rfl
  · rcases h2 with rfl | rfl | rfl | rfl | rfl
    · exact g20_0
    · exact g20_1
    · exact g20_2
    · exact g20_3
    · exact g20_4
  · rcases h2 with rfl | rfl | rfl | rfl | rfl
    · exact g21_0
    · exact g21_1
    · exact g21_2
    · exact g21_3
    · exact g21_4
  · rcases h2 with rfl | rfl | rfl | rfl | rfl
    · exact g22_0
    · exact g22_1
    · exact g22_2
    · exact g22_3
    · exact g22_4
  · rcases h2 with rfl | rfl | rfl | rfl | rfl
    · exact g23_0
    · exact g23_1
    · exact g23_2
    · exact g23_3
    · exact g23_4
  · rcases h2 with rfl | rfl | rfl | rfl | rfl
    · exact g24_0
    · exact g24_1
    · exact g24_2
    · exact g24_3
    · exact g24_4
  · rcases h2 with rfl | rfl | rfl | rfl | rfl
    · exact g25_0
    · exact g25_1
    · exact g25_2
    · exact g25_3
    · exact g25_4
  · rcases h2 with rfl | rfl | rfl | rfl | rfl
    · exact g26_0
    · exact g26_1
    · exact g26_2
    · exact g26_3
    · exact g26_4
  · rcases h2 with rfl | rfl | rfl | rfl | rfl
    · exact g27_0
    · exact g27_1
    · exact g27_2
    · exact g27_3
    · exact g27_4
  · rcases h2 with rfl | rfl | rfl | rfl | rfl
    · exact g28_0
    · exact g28_1
    · exact g28_2
    · exact g28_3
    · exact g28_4
  · rcases h2 with rfl | rfl | rfl | rfl | rfl
    · exact g29_0
    · exact g29_1
    · exact g29_2
    · exact g29_3
    · exact g29_4
theorem allE3 (i a : Nat) (hi : i < 10) (ha : a < 5) : Runs (30 + i) a := by
  have h1 : i = 0 ∨ i = 1 ∨ i = 2 ∨ i = 3 ∨ i = 4 ∨ i = 5 ∨ i = 6 ∨ i = 7 ∨ i = 8 ∨ i = 9 := by omega
  have h2 : a = 0 ∨ a = 1 ∨ a = 2 ∨ a = 3 ∨ a = 4 := by omega
  rcases h1 with rfl | rfl | rfl | rfl | rfl | rfl | rfl | rfl | rfl | rfl
  · rcases h2 with rfl | rfl | rfl | rfl | rfl
    · exact g30_0
    · exact g30_1
    · exact g30_2
    · exact g30_3
    · exact g30_4
  · rcases h2 with rfl | rfl | rfl | rfl | rfl
    · exact g31_0
    · exact g31_1
    · exact g31_2
    · exact g31_3
    · exact g31_4
  · rcases h2 with rfl | rfl | rfl | rfl | rfl
    · exact g32_0
    · exact g32_1
    · exact g32_2
    · exact g32_3
    · exact g32_4
  · rcases h2 with rfl | rfl | rfl | rfl | rfl
    · exact g33_0
    · exact g33_1
    · exact g33_2
    · exact g33_3
    · exact g33_4
  · rcases h2 with rfl | rfl | rfl | rfl | rfl
    · exact g34_0
    · exact g34_1
    · exact g34_2
    · exact g34_3
    · exact g34_4
  · rcases h2 with rfl | rfl | rfl | rfl | rfl
    · exact g35_0
    · exact g35_1
    · exact g35_2
    · exact g35_3
    · exact g35_4
  · rcases h2 with rfl | rfl | rfl | rfl | rfl
    · exact g36_0
    · exact g36_1
    · exact g36_2
    · exact g36_3
    · exact g36_4
  · rcases h2 with rfl | rfl | rfl | rfl | rfl
    · exact g37_0
    · exact g37_1
    · exact g37_2
    · exact g37_3
    · exact g37_4
  · rcases h2 with rfl | rfl | rfl | rfl | rfl
    · exact g38_0
    · exact g38_1
    · exact g38_2
    · exact g38_3
    · exact g38_4
  · rcases h2 with rfl | rfl | rfl | rfl | rfl
    · exact g39_0
    · exact g39_1
    · exact g39_2
    · exact g39_3
    · exact g39_4
theorem allE4 (i a : Nat) (hi : i < 10) (ha : a < 5) : Runs (40 + i) a := by
  have h1 : i = 0 ∨ i = 1 ∨ i = 2 ∨ i = 3 ∨ i = 4 ∨ i = 5 ∨ i = 6 ∨ i = 7 ∨ i = 8 ∨ i = 9 := by omega
  have h2 : a = 0 ∨ a = 1 ∨ a = 2 ∨ a = 3 ∨ a = 4 := by omega
  rcases h1 with rfl | rfl | rfl | rfl | rfl | rfl | rfl | rfl | rfl | rfl
  · rcases h2 with rfl | rfl | rfl | rfl | rfl
    · exact g40_0
    · exact g40_1
    · exact g40_2
    · exact g40_3
    · exact g40_4
  · rcases h2 with rfl | rfl | rfl | rfl | rfl
    · exact g41_0
    · exact g41_1
    · exact g41_2
    · exact g41_3
    · exact g41_4
  · rcases h2 with rfl | rfl | rfl | rfl | rfl
    · exact g42_0
    · exact g42_1
    · exact g42_2
    · exact g42_3
    · exact g42_4
  · rcases h2 with rfl | rfl | rfl | rfl | rfl
    · exact g43_0
    · exact g43_1
    · exact g43_2
    · exact g43_3
    · exact g43_4
  · rcases h2 with rfl | rfl | rfl | rfl | rfl
    · exact g44_0
    · exact g44_1
    · exact g44_2
    · exact g44_3
    · exact g44_4
  · rcases h2 with rfl | rfl | rfl | rfl | rfl
    · exact g45_0
    · exact g45_1
    · exact g45_2
    · exact g45_3
    · exact g45_4
  · rcases h2 with rfl | rfl | rfl | rfl | rfl
    · exact g46_0
    · exact g46_1
    · exact g46_2
    · exact g46_3
    · exact g46_4
  · rcases h2 with rfl | rfl | rfl | rfl | rfl
    · exact g47_0
    · exact g47_1
    · exact g47_2
    · exact g47_3
    · exact g47_4
  · rcases h2 with rfl | rfl | rfl | rfl | rfl
    · exact g48_0
    · exact g48_1
    · exact g48_2
    · exact g48_3
    · exact g48_4
  · rcases h2 with rfl | rfl | rfl | rfl | rfl
    · exact g49_0
    · exact g49_1
    · exact g49_2
    · exact g49_3
    · exact g49_4
theorem allE5 (i a : Nat) (hi : i < 10) (ha : a < 5) : Runs (50 + i) a := by
  have h1 : i = 0 ∨ i = 1 ∨ i = 2 ∨ i = 3 ∨ i = 4 ∨ i = 5 ∨ i = 6 ∨ i = 7 ∨ i = 8 ∨ i = 9 := by omega
  have h2 : a = 0 ∨ a = 1 ∨ a = 2 ∨ a = 3 ∨ a = 4 := by omega
  rcases h1 with rfl | rfl | rfl | rfl | rfl | rfl | rfl | rfl | rfl | rfl
  · rcases h2 with rfl | rfl | rfl | rfl | rfl
    · exact g50_0
    · exact g50_1
    · exact g50_2
    · exact g50_3
    · exact g50_4
  · rcases h2 with rfl | rfl | rfl | rfl | rfl
    · exact g51_0
    · exact g51_1
    · exact g51_2
    · exact g51_3
    · exact g51_4
  · rcases h2 with rfl | rfl | rfl | rfl | rfl
    · exact g52_0
    · exact g52_1
    · exact g52_2
    · exact g52_3
    · exact g52_4
  · rcases h2 with rfl | rfl | rfl | rfl | rfl
    · exact g53_0
    · exact g53_1
    · exact g53_2
    · exact g53_3
    · exact g53_4
  · rcases h2 with rfl | rfl | rfl | rfl | rfl
    · exact g54_0
    · exact g54_1
    · exact g54_2
    · exact g54_3
    · exact g54_4
  · rcases h2 with rfl | rfl | rfl | rfl | rfl
    · exact g55_0
    · exact g55_1
    · exact g55_2
    · exact g55_3
    · exact g55_4
  · rcases h2 with rfl | rfl | rfl | rfl | rfl
    · exact g56_0
    · exact g56_1
    · exact g56_2
    · exact g56_3
    · exact g56_4
  · rcases h2 with rfl | rfl | rfl | rfl | rfl
    · exact g57_0
    · exact g57_1
    · exact g57_2
    · exact g57_3
    · exact g57_4
  · rcases h2 with rfl | rfl | rfl | rfl | rfl
    · exact g58_0
    · exact g58_1
    · exact g58_2
    · exact g58_3
    · exact g58_4
  · rcases h2 with rfl | rfl | rfl | rfl | rfl
    · exact g59_0
    · exact g59_1
    · exact g59_2
    · exact g59_3
    · exact g59_4
theorem allE6 (i a : Nat) (hi : i < 10) (ha : a < 5) : Runs (60 + i) a := by
  have h1 : i = 0 ∨ i = 1 ∨ i = 2 ∨ i = 3 ∨ i = 4 ∨ i = 5 ∨ i = 6 ∨ i = 7 ∨ i = 8 ∨ i = 9 := by omega
  have h2 : a = 0 ∨ a = 1 ∨ a = 2 ∨ a = 3 ∨ a = 4 := by omega
  rcases h1 with rfl | rfl | rfl | rfl | rfl | rfl | rfl | rfl | rfl | rfl
  · rcases h2 with rfl | rfl | rfl | rfl | rfl
    · exact g60_0
    · exact g60_1
    · exact g60_2
    · exact g60_3
    · exact g60_4
  · rcases h2 with rfl | rfl | rfl | rfl | rfl
    · exact g61_0
    · exact g61_1
    · exact g61_2
    · exact g61_3
    · exact g61_4
  · rcases h2 with rfl | rfl | rfl | rfl | rfl
    · exact g62_0
    · exact g62_1
    · exact g62_2
    · exact g62_3
    · exact g62_4
  · rcases h2 with rfl | rfl | rfl | rfl | rfl
    · exact g63_0
    · exact g63_1
    · exact g63_2
    · exact g63_3
    · exact g63_4
  · rcases h2 with rfl | rfl | rfl | rfl | rfl
    · exact g64_0
    · exact g64_1
    · exact g64_2
    · exact g64_3
    · exact g64_4
  · rcases h2 with rfl | rfl | rfl | rfl | rfl
    · exact g65_0
    · exact g65_1
    · exact g65_2
    · exact g65_3
    · exact g65_4
  · rcases h2 with rfl | rfl | rfl | rfl | rfl
    · exact g66_0
    · exact g66_1
    · exact g66_2
    · exact g66_3
    · exact g66_4
  · rcases h2 with rfl | rfl | rfl | rfl | rfl
    · exact g67_0
    · exact g67_1
    · exact g67_2
    · exact g67_3
    · exact g67_4
  · rcases h2 with rfl | rfl | rfl | rfl | rfl
    · exact g68_0
    · exact g68_1
    · exact g68_2
    · exact g68_3
    · exact g68_4
  · rcases h2 with rfl | rfl | rfl | rfl | rfl
    · exact g69_0
    · exact g69_1
    · exact g69_2
    · exact g69_3
    · exact g69_4
theorem allE7 (i a : Nat) (hi : i < 10) (ha : a < 5) : Runs (70 + i) a := by
  have h1 : i = 0 ∨ i = 1 ∨ i = 2 ∨ i = 3 ∨ i = 4 ∨ i = 5 ∨ i = 6 ∨ i = 7 ∨ i = 8 ∨ i = 9 := by omega
  have h2 : a = 0 ∨ a = 1 ∨ a = 2 ∨ a = 3 ∨ a = 4 := by omega
  rcases h1 with rfl | rfl | rfl | rfl | rfl | rfl | rfl | rfl | rfl | rfl
  · rcases h2 with rfl | rfl | rfl | rfl | rfl
    · exact g70_0
    · exact g70_1
    · exact g70_2
    · exact g70_3
    · exact g70_4
  · rcases h2 with rfl | rfl | rfl | rfl | rfl
    · exact g71_0
    · exact g71_1
    · exact g71_2
    · exact g71_3
    · exact g71_4
  · rcases h2 with rfl | rfl | rfl | rfl | rfl
    · exact g72_0
    · exact g72_1
    · exact g72_2
    · exact g72_3
    · exact g72_4
  · rcases h2 with rfl | rfl | rfl | rfl | rfl
    · exact g73_0
    · exact g73_1
    · exact g73_2
    · exact g73_3
    · exact g73_4
  · rcases h2 with rfl | rfl | rfl | rfl | rfl
    · exact g74_0
    · exact g74_1
    · exact g74_2
    · exact g74_3
    · exact g74_4
  · rcases h2 with rfl | rfl | rfl | rfl | rfl
    · exact g75_0
    · exact g75_1
    · exact g75_2
    · exact g75_3
    · exact g75_4
  · rcases h2 with rfl | rfl | rfl | rfl | rfl
    · exact g76_0
    · exact g76_1
    · exact g76_2
    · exact g76_3
    · exact g76_4
  · rcases h2 with rfl | rfl | rfl | rfl | rfl
    · exact g77_0
    · exact g77_1
    · exact g77_2
    · exact g77_3
    · exact g77_4
  · rcases h2 with rfl | rfl | rfl | rfl | rfl
    · exact g78_0
    · exact g78_1
    · exact g78_2
    · exact g78_3
    · exact g78_4
  · rcases h2 with rfl | rfl | rfl | rfl | rfl
    · exact g79_0
    · exact g79_1
    · exact g79_2
    · exact g79_3
    · exact g79_4
theorem allE8 (i a : Nat) (hi : i < 10) (ha : a < 5) : Runs (80 + i) a := by
  have h1 : i = 0 ∨ i = 1 ∨ i = 2 ∨ i = 3 ∨ i = 4 ∨ i = 5 ∨ i = 6 ∨ i = 7 ∨ i = 8 ∨ i = 9 := by omega
  have h2 : a = 0 ∨ a = 1 ∨ a = 2 ∨ a = 3 ∨ a = 4 := by omega
  rcases h1 with rfl | rfl | rfl | rfl | rfl | rfl | rfl | rfl | rfl | rfl
  · rcases h2 with rfl | rfl | rfl | rfl | rfl
    · exact g80_0
    · exact g80_1
    · exact g80_2
    · exact g80_3
    · exact g80_4
  · rcases h2 with rfl | rfl | rfl | rfl | rfl
    · exact g81_0
    · exact g81_1
    · exact g81_2
    · exact g81_3
    · exact g81_4
  · rcases h2 with rfl | rfl | rfl | rfl | rfl
    · exact g82_0
    · exact g82_1
    · exact g82_2
    · exact g82_3
    · exact g82_4
  · rcases h2 with rfl | rfl | rfl | rfl | rfl
    · exact g83_0
    · exact g83_1
    · exact g83_2
    · exact g83_3
    · exact g83_4
  · rcases h2 with rfl | rfl | rfl | rfl | rfl
    · exact g84_0
    · exact g84_1
    · exact g84_2
    · exact g84_3
    · exact g84_4
  · rcases h2 with rfl | rfl | rfl | rfl | rfl
    · exact g85_0
    · exact g85_1
    · exact g85_2
    · exact g85_3
    · exact g85_4
  · rcases h2 with rfl | rfl | rfl | rfl | rfl
    · exact g86_0
    · exact g86_1
    · exact g86_2
    · exact g86_3
    · exact g86_4
  · rcases h2 with rfl | rfl | rfl | rfl | rfl
    · exact g87_0
    · exact g87_1
    · exact g87_2
    · exact g87_3
    · exact g87_4
  · rcases h2 with rfl | rfl | rfl | rfl | rfl
    · exact g88_0
    · exact g88_1
    · exact g88_2
    · exact g88_3
    · exact g88_4
  · rcases h2 with rfl | rfl | rfl | rfl | rfl
    · exact g89_0
    · exact g89_1
    · exact g89_2
    · exact g89_3
    · exact g89_4
theorem allE9 (i a : Nat) (hi : i < 10) (ha : a < 5) : Runs (90 + i) a := by
  have h1 : i = 0 ∨ i = 1 ∨ i = 2 ∨ i = 3 ∨ i = 4 ∨ i = 5 ∨ i = 6 ∨ i = 7 ∨ i = 8 ∨ i = 9 := by omega
  have h2 : a = 0 ∨ a = 1 ∨ a = 2 ∨ a = 3 ∨ a = 4 := by omega
  rcases h1 with rfl | rfl | rfl | rfl | rfl | rfl | rfl | rfl | rfl | rfl
  · rcases h2 with rfl | rfl | rfl | rfl | rfl
    · exact g90_0
    · exact g90_1
    · exact g90_2
    · exact g90_3
    · exact g90_4
  · rcases h2 with rfl | rfl | rfl | rfl | rfl
    · exact g91_0
    · exact g91_1
    · exact g91_2
    · exact g91_3
    · exact g91_4
  · rcases h2 with rfl | rfl | rfl | rfl | rfl
    · exact g92_0
    · exact g92_1
    · exact g92_2
    · exact g92_3
    · exact g92_4
  · rcases h2 with rfl | rfl | rfl | rfl | rfl
    · exact g93_0
    · exact g93_1
    · exact g93_2
    · exact g93_3
    · exact g93_4
  · rcases h2 with rfl | rfl | rfl | rfl | rfl
    · exact g94_0
    · exact g94_1
    · exact g94_2
    · exact g94_3
    · exact g94_4
  · rcases h2 with rfl | rfl | rfl | rfl | rfl
    · exact g95_0
    · exact g95_1
    · exact g95_2
    · exact g95_3
    · exact g95_4
  · rcases h2 with rfl | rfl | rfl | rfl | rfl
    · exact g96_0
    · exact g96_1
    · exact g96_2
    · exact g96_3
    · exact g96_4
  · rcases h2 with rfl | rfl | rfl | rfl | rfl
    · exact g97_0
    · exact g97_1
    · exact g97_2
    · exact g97_3
    · exact g97_4
  · rcases h2 with rfl | rfl | rfl | rfl | rfl
    · exact g98_0
    · exact g98_1
    · exact g98_2
    · exact g98_3
    · exact g98_4
  · rcases h2 with rfl | rfl | rfl | rfl | rfl
    · exact g99_0
    · exact g99_1
    · exact g99_2
    · exact g99_3
    · exact g99_4
theorem allE10 (i a : Nat) (hi : i < 1) (ha : a < 5) : Runs (100 + i) a := by
  have h1 : i = 0 := by omega
  have h2 : a = 0 ∨ a = 1 ∨ a = 2 ∨ a = 3 ∨ a = 4 := by omega
  rcases h1 with rfl
  · rcases h2 with rfl | rfl | rfl | rfl | rfl
    · exact g100_0
    · exact g100_1
    · exact g100_2
    · exact g100_3
    · exact g100_4
theorem allN (a : Nat) (ha : a < 5) : RunsN a := by
  have h2 : a = 0 ∨ a = 1 ∨ a = 2 ∨ a = 3 ∨ a = 4 := by omega
  rcases h2 with rfl | rfl | rfl | rfl | rfl
  · exact gN_0
  · exact gN_1
  · exact gN_2
  · exact gN_3
  · exact gN_4
theorem allE (n a : Nat) (hn : n ≤ 100) (ha : a < 5) : Runs n a := by
  have h : (0 ≤ n ∧ n < 10) ∨ (10 ≤ n ∧ n < 20) ∨ (20 ≤ n ∧ n < 30) ∨ (30 ≤ n ∧ n < 40) ∨ (40 ≤ n ∧ n < 50) ∨ (50 ≤ n ∧ n < 60) ∨ (60 ≤ n ∧ n < 70) ∨ (70 ≤ n ∧ n < 80) ∨ (80 ≤ n ∧ n < 90) ∨ (90 ≤ n ∧ n < 100) ∨ (100 ≤ n ∧ n < 101) := by omega
  rcases h with ⟨h1, h2⟩ | ⟨h1, h2⟩ | ⟨h1, h2⟩ | ⟨h1, h2⟩ | ⟨h1, h2⟩ | ⟨h1, h2⟩ | ⟨h1, h2⟩ | ⟨h1, h2⟩ | ⟨h1, h2⟩ | ⟨h1, h2⟩ | ⟨h1, h2⟩
  · have := allE0 (n - 0) a (by omega) ha; rwa [show 0 + (n - 0) = n from by omega] at this
  · have := allE1 (n - 10) a (by omega) ha; rwa [show 10 + (n - 10) = n from by omega] at this
  · have := allE2 (n - 20) a (by omega) ha; rwa [show 20 + (n - 20) = n from by omega] at this
  · have := allE3 (n - 30) a (by omega) ha; rwa [show 30 + (n - 30) = n from by omega] at this
  · have := allE4 (n - 40) a (by omega) ha; rwa [show 40 + (n - 40) = n from by omega] at this
  · have := allE5 (n - 50) a (by omega) ha; rwa [show 50 + (n - 50) = n from by omega] at this
  · have := allE6 (n - 60) a (by omega) ha; rwa [show 60 + (n - 60) = n from by omega] at this
  · have := allE7 (n - 70) a (by omega) ha; rwa [show 70 + (n - 70) = n from by omega] at this
  · have := allE8 (n - 80) a (by omega) ha; rwa [show 80 + (n - 80) = n from by omega] at this
  · have := allE9 (n - 90) a (by omega) ha; rwa [show 90 + (n - 90) = n from by omega] at this
  · have := allE10 (n - 100) a (by omega) ha; rwa [show 100 + (n - 100) = n from by omega] at this
end Go.Proofs.YtblciblkocameaaGreat.Sx
namespace Go.Proofs.YtblciblkocameaaGreat.semEchoes
open Go Go.ChangeShapes Go.WideShapes Go.ChangeAt Go.RowKit Go.Proofs.YtblciblkocameaaGreat.Ev Go.Proofs.YtblciblkocameaaGreat.Sx
theorem own : ownKnob Tryz.prog.godebug = none := by kernel_rfl
theorem laidOut : laidOutB Tryz.prog = true := by kernel_rfl
theorem cells32 : Tryz.prog.cellsOf 32 = 1 := by kernel_rfl

/-- The walk, at a reading of the tokens. -/
theorem walk_at (r : Nat → Nat) (lt : ∀ i, r i ≤ 4294967295) {t : ST} (ht : @ST.Ok (rhoE r lt) Tryz.prog t) {xs : List AV} {h : HP} {vs : List Value} {φ : Phi} {w : World} (R : @Rel (rhoE r lt) w φ h w) (hv : @RVs (rhoE r lt) φ vs xs) (he : Ev.isTrue (SF t 1000 7 xs h .no) = true) :
    Calls Tryz.prog 7 vs.toArray w fun e w' => e = .returned (.bool true) ∧ GrownO w w' ∧ Below w.heap.size w w' := by
  letI := rhoE r lt
  unfold Ev.isTrue at he
  split at he
  · rename_i h' u hh
    refine Calls.mono (calls_ok (by kernel_rfl) (ST.xok w ht) (ST.tab_ok ht) (SF_ok ht 1000 _ _ _ _ _ hh) R hv) fun e w' hR => ?_
    cases e with
    | returned v =>
      obtain ⟨φ', a, h', hf, hr, q, _⟩ := hR
      simp only [Fin.ret.injEq] at hf
      obtain ⟨rfl, rfl⟩ := hf
      cases hr
      exact ⟨rfl, grown_of q, ⟨q.os, q.tape, q.output, q.size, q.old⟩⟩
    | panicked ch => obtain ⟨_, _, _, hf, _⟩ := hR; simp at hf
    | outgrown => exact hR.elim
  · simp at he

theorem wf8 {z : Int} (w : (Lit.int .u8 z).wf = true) : ∃ k : Nat, z = Int.ofNat k := by
  have : 0 ≤ z := by simp [Lit.wf, IntKind.min, IntKind.max, IntKind.signed, IntKind.bits] at w; omega
  exact Int.eq_ofNat_of_zero_le this
theorem wf32 {z : Int} (w : (Lit.int .u32 z).wf = true) : 0 ≤ z ∧ z ≤ 4294967295 := by
  simp [Lit.wf, IntKind.min, IntKind.max, IntKind.signed, IntKind.bits] at w; omega

theorem rvs_toks (r : Nat → Nat) (lt : ∀ i, r i ≤ 4294967295) {φ : Phi} : ∀ n k, @RVs (rhoE r lt) φ ((List.range' k n).map fun i => Value.int .u32 (Int.ofNat (r i))) (toksE n k)
  | 0, k => @RVs.nil (rhoE r lt) φ
  | n + 1, k => by
    letI := rhoE r lt
    show RVs φ (Value.int .u32 (Int.ofNat (r k)) :: (List.range' (k + 1) n).map fun i => Value.int .u32 (Int.ofNat (r i))) (.int .u32 (.negSucc k) :: toksE n (k + 1))
    exact .cons _ _ _ _ (.tok k) (rvs_toks r lt n (k + 1))

theorem walk_nil (z : Int) (wz : (Lit.int .u8 z).wf = true) (w : World) :
    Calls Tryz.prog 7 #[.slice none 0 0, .int .u8 z] w fun e w' => e = .returned (.bool true) ∧ GrownO w w' ∧ Below w.heap.size w w' := by
  obtain ⟨k, rfl⟩ := wf8 wz
  obtain ⟨t, h1, h2, h3⟩ := allN (k % 5) (Nat.mod_lt _ (by omega))
  letI := rhoE (fun _ => 0) (fun _ => Nat.zero_le _)
  exact walk_at (fun _ => 0) (fun _ => Nat.zero_le _) (h1 _ _) (vs := [.slice none 0 0, .int .u8 (Int.ofNat k)]) (xs := [.nils, .int .u8 (.ofNat k)]) (rel_start (GB.plain w)) (.cons _ _ _ _ .nils (.cons _ _ _ _ (.int _ _ (InR.no (by decide))) .nil)) (of_mod h2 h3)

theorem walk_row {w : World} (z : Int) (wz : (Lit.int .u8 z).wf = true) (a : Addr) (len cap : Nat) (zs : List Int) (hl : len ≤ cap) (hz : zs.length = cap) (hb : 0 < len → a.block < w.heap.size)
    (hcell : ∀ i, i < zs.length → w.cell? (a.add i) = some (.int .u32 (zs.getD i 0))) (hw : ∀ n ∈ zs, (Lit.int .u32 n).wf = true) :
    Calls Tryz.prog 7 #[.slice (some a) len cap, .int .u8 z] w fun e w' => e = .returned (.bool true) ∧ GrownO w w' ∧ Below w.heap.size w w' := by
  obtain ⟨k, rfl⟩ := wf8 wz
  have hr : ∀ i, i < zs.length → zs.getD i 0 = Int.ofNat (min (zs.getD i 0).toNat 4294967295) := fun i hi => by
    have hm : zs.getD i 0 ∈ zs := by rw [List.getD_eq_getElem?_getD, List.getElem?_eq_getElem hi]; exact List.getElem_mem hi
    obtain ⟨h1, h2⟩ := wf32 (hw _ hm)
    show _ = ((min (zs.getD i 0).toNat 4294967295 : Nat) : Int)
    omega
  have lt : ∀ i, min (zs.getD i 0).toNat 4294967295 ≤ 4294967295 := fun i => Nat.min_le_right _ _
  generalize hrr : (fun i => min (zs.getD i 0).toNat 4294967295) = r at hr lt
  have hr : ∀ i, i < zs.length → zs.getD i 0 = Int.ofNat (r i) := fun i hi => by rw [← hrr]; exact hr i hi
  have lt : ∀ i, r i ≤ 4294967295 := fun i => by rw [← hrr]; exact lt i
  letI := rhoE r lt
  have R0 : Rel w Rho.gphi Rho.g0 w := rel_start (GB.plain (r := r) (lt := lt) (h0 := rfl) w)
  have ro : ∀ b k, HP.get Rho.g0 b = some k → k.wr = false := fun b k hk => by obtain ⟨vs, rfl⟩ := Rho.gro b k hk; rfl
  have hk : RV Rho.gphi (.int .u8 (Int.ofNat k)) (.int .u8 (.ofNat k)) := .int _ _ (InR.no (by decide))
  rcases Nat.eq_zero_or_pos len with rfl | hpos
  · obtain ⟨t, h1, h2, h3⟩ := allE 0 (k % 5) (by omega) (Nat.mod_lt _ (by omega))
    have R1 : Rel w Rho.gphi (h0E []) w := by
      refine ⟨rfl, rfl, rfl, Nat.le_refl _, fun _ _ => rfl, R0.gb, fun b hb => ?_, fun b l h => absurd (show (none : Option Ev.Loc) = some l from h) (by simp), fun b l k h => absurd (show (none : Option Ev.Loc) = some l from h) (by simp), fun b b' l l' k k' h => absurd (show (none : Option Ev.Loc) = some l from h) (by simp)⟩
      have hb : (HP.new Rho.g0 (.cells false [])).nx.toNat ≤ b.toNat := hb
      show (HP.new Rho.g0 (.cells false [])).get b = none
      rw [HP.nx_new, Pos.toNat_succ] at hb
      rw [HP.get_new, if_neg (by intro e; subst e; omega)]; exact R0.wf b (by omega)
    exact walk_at r lt (h1 r lt) (vs := [.slice (some a) 0 cap, .int .u8 (Int.ofNat k)]) (xs := [.slice .h 0 0 .unk, .int .u8 (.ofNat k)]) R1 (.cons _ _ _ _ (.slice0 a .h 0 cap) (.cons _ _ _ _ hk .nil)) (of_mod h2 h3)
  · obtain ⟨b, o, sp⟩ := a
    obtain rfl : sp = none := cell_spot (hcell 0 (by omega))
    have hsl : ∀ {φ : Phi}, φ .h = some ⟨b, o, 0⟩ → RV φ (.slice (some ⟨b, o, none⟩) len cap) (.slice .h 0 len .unk) := fun h => .slice .h 0 len cap .unk ⟨b, o, 0⟩ h hl (fun k e => by cases e) (fun z e => by cases e)
    rcases Nat.lt_or_ge 100 len with hbig | hsm
    · have R1 := (Rel.row R0 ro (l := ⟨b, o, 0⟩) (cs := []) (vs := []) (hb hpos) .nil (fun i v hv => by simp at hv)).1
      obtain ⟨j, rfl⟩ : ∃ j, len = j + 101 := ⟨len - 101, by omega⟩
      exact walk_at r lt (okY r lt) (vs := [.slice (some ⟨b, o, none⟩) (j + 101) cap, .int .u8 (Int.ofNat k)]) (xs := [.slice .h 0 (j + 101) .unk, .int .u8 (.ofNat k)]) R1 (.cons _ _ _ _ (hsl (if_pos rfl)) (.cons _ _ _ _ (.int _ _ (InR.no (by decide))) .nil)) (big j k)
    · obtain ⟨t, h1, h2, h3⟩ := allE len (k % 5) hsm (Nat.mod_lt _ (by omega))
      have R1 := (Rel.row R0 ro (l := ⟨b, o, 0⟩) (cs := (List.range' 0 len).map fun i => Value.int .u32 (Int.ofNat (r i))) (vs := toksE len 0) (hb hpos) (rvs_toks r lt len 0) (fun i v hv => by
        rw [List.getElem?_map] at hv
        rcases Nat.lt_or_ge i len with hi | hi
        · rw [List.getElem?_range' hi] at hv
          obtain rfl : Value.int .u32 (Int.ofNat (r i)) = v := by simpa using hv
          have hc := hcell i (by omega)
          rw [hr i (by omega)] at hc
          have ha : (⟨b, o, none⟩ : Addr).add i = ⟨b, o + i, none⟩ := by simp [Addr.add]
          rw [ha] at hc
          exact hc
        · rw [List.getElem?_eq_none (by simpa using hi)] at hv; simp at hv)).1
      exact walk_at r lt (h1 r lt) (vs := [.slice (some ⟨b, o, none⟩) len cap, .int .u8 (Int.ofNat k)]) (xs := [.slice .h 0 len .unk, .int .u8 (.ofNat k)]) R1 (.cons _ _ _ _ (hsl (if_pos rfl)) (.cons _ _ _ _ (.int _ _ (InR.no (by decide))) .nil)) (of_mod h2 h3)

set_option maxRecDepth 100000 in
theorem lifted (os : Os) (started : os.Started) (H : Type) (enc : TypeId × Value → H) :
    ReturnsInHanded {} Tryz.checked os 7 .any (Rows.semEchoesSpec.pre6 enc Tryz.prog Tryz.f7 Rows.semEchoesRow.domain false) (Rows.semEchoesSpec.post enc Tryz.prog Tryz.f7 false true false false) := by
  refine returnsInHanded_of_change (C := Tryz.checked) own started (by kernel_rfl) Tryz.func7
    (ChangeSpec.witness6 (enc := enc) (C := Tryz.checked) false ⟨#[], #[.slice none 0 0, .int .u8 0], []⟩ 8 (by kernel_rfl) (by kernel_rfl) (by kernel_rfl) (by kernel_rfl)) ?_
  intro W base args ds gs before hval0 hW hcnd _
  have hval : ∀ (j : Nat) t v, Tryz.f7.params[j]? = some t → args[j]? = some v → Value.okWide Tryz.prog W .any base t v := hval0
  have hW' := hW
  obtain ⟨p, q, hA0, hV, rfl, hfz, hnd⟩ := hW
  have hA : DataW.TrodAll enc Tryz.prog W 0 (fun _ => true) true Tryz.f7.params.toList args.toList ds p := hA0
  rw [Tryz.params7] at hA hval
  obtain ⟨v0, vs0, d0, ds0, p0, q0, hargs, rfl, rfl, h0, r0⟩ := trodAll_cons hA
  obtain ⟨v1, vs1, d1, ds1, p1, q1, rfl, rfl, rfl, h1, r1⟩ := trodAll_cons r0
  obtain ⟨rfl, rfl, rfl⟩ := trodAll_nil r1
  obtain rfl : args = #[v0, v1] := by cases args; simp_all
  obtain ⟨rfl, rfl⟩ := trodVars_none hV
  obtain ⟨a0, len, cap, rfl⟩ := okWide_slice Tryz.underlying23 (hval 0 23 v0 rfl rfl)
  obtain ⟨a1, rfl, rfl, rfl, w1⟩ := open_int Tryz.underlying5 (hval 1 5 v1 rfl rfl) h1
  clear hA0 hval0
  have h0k := h0
  obtain ⟨fuel, hf⟩ := h0
  simp only [List.append_nil] at hW'
  have hlt : ∀ x ∈ p0, x.block < W.heap.size := fun x hx => hW'.lt x (by simpa using hx)
  have key : Calls Tryz.prog 7 #[.slice a0 len cap, .int .u8 a1] W fun e w' => e = .returned (.bool true) ∧ GrownO W w' ∧ Below W.heap.size W w' := by
    rcases open_ints Tryz.underlying23 Tryz.underlying32 cells32 hf with ⟨hcs, hx⟩ | ⟨a, len', cap', zs, hcs, _, hl, hm, hz, hx, hcell, hwz⟩
    · simp [Value.cells] at hcs
      obtain ⟨rfl, rfl, rfl⟩ := hcs
      exact walk_nil a1 w1 W
    · simp [Value.cells] at hcs
      obtain ⟨rfl, rfl, rfl⟩ := hcs
      simp only [Prod.mk.injEq] at hx
      obtain ⟨rfl, rfl⟩ := hx
      simp only [if_true] at hz
      refine walk_row a1 w1 a len cap zs hl hz (fun hpos => ?_) hcell hwz
      obtain ⟨b, off, spot⟩ := a
      exact hlt (.cell b off) (MemPlace.mem_row.2 ⟨0, by omega, by simp⟩)
  refine key.mono fun e W' ⟨he, hg, hbl⟩ => ?_
  subst he
  letI : Rho := rhoE (fun _ => 0) (fun _ => Nat.zero_le _)
  exact ⟨_, rfl, post_of_old (pa := p0) (pv := []) hW' (fun _ _ _ => (trodAll_cons_mk (shut_bool Tryz.underlying4 _) trodAll_mk0))
    (fun sp hsp => by
      have hs := WideElems.Trod_stays (sp' := sp) laidOut (by kernel_rfl) (of_decide_eq_true (by kernel_rfl)) h0k (fun x hx => hbl.same (hlt x hx)) (fun x hx => hsp x (by simpa using hx))
      have := trodAll_cons_mk hs (trodAll_cons_mk (shut_int (enc := enc) (P := Tryz.prog) (w := W') (base := 0) (spare := sp) (held := true) Tryz.underlying5 w1) trodAll_mk0)
      rw [List.append_nil, List.append_nil] at this
      exact this) (fun _ _ => rfl) (by simp)
    hg (ok_one (by kernel_rfl) rfl (okWide_bool_mk Tryz.underlying4 _))⟩

theorem over : Rows.semEchoesRow.holds Tryz.pinned (OpenSpec.ofChange Rows.semEchoesSpec) :=
  OpenClaim.holds_of_wide 7 Tryz.f7 rfl rfl rfl rfl rfl rfl rfl ⟨rfl, rfl, rfl, rfl, rfl⟩ rfl rfl rfl rfl rfl (by kernel_rfl) Tryz.func7 (by kernel_rfl)
    (of_decide_eq_true (by kernel_rfl)) (by unfold Func.isWrapper; first | (rw [if_pos (by decide +kernel)]; kernel_rfl) | (rw [if_neg (by decide +kernel)]; exact ⟨rfl, rfl⟩))
    (fun os started H enc _ => lifted os started H enc)

/-- THE STATEMENT. -/
theorem proved : Rows.SemEchoesSaid :=
  over
#print axioms proved
end Go.Proofs.YtblciblkocameaaGreat.semEchoes
