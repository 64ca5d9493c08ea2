/- SemShort: the kernel's runs. -/
import Derived.Test.YtblciblkocameaaGreatHu
namespace Go.Proofs.YtblciblkocameaaGreat.Sx
open Go Go.Proofs.YtblciblkocameaaGreat.Ev
theorem hfz (b : Nat) : o11 0 b false = true := by kernel_rfl
theorem hfs0 (a : Nat) : o11 (Nat.succ a) 0 false = true := by kernel_rfl
theorem hfs1 (a : Nat) : o11 (Nat.succ a) 1 false = true := by kernel_rfl
theorem hfs2 (a b : Nat) : o11 (Nat.succ a) (Nat.succ (Nat.succ b)) false = true := by kernel_rfl
theorem ht00 : o11 0 0 true = true := by kernel_rfl
theorem ht01 : o11 0 1 true = true := by kernel_rfl
theorem ht02 (b : Nat) : o11 0 (Nat.succ (Nat.succ b)) true = true := by kernel_rfl
theorem ht1 (b : Nat) : o11 1 b true = true := by kernel_rfl
theorem ht2 (a b : Nat) : o11 (Nat.succ (Nat.succ a)) b true = true := by kernel_rfl
end Go.Proofs.YtblciblkocameaaGreat.Sx
