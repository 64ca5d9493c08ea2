/- SemShort: a run, with words of which nothing is known but whether they are 0, 1, or more. -/
import Derived.Test.YtblciblkocameaaGreatSt
set_option linter.unusedVariables false
set_option linter.unusedSimpArgs false
namespace Go.Proofs.YtblciblkocameaaGreat.Sx
open Go Go.Proofs.YtblciblkocameaaGreat.Ev
noncomputable section
def o11 (a b : Nat) (c : Bool) : Bool := isTrue (SF tabS 1000 11 [.int .u32 (.ofNat a), .int .u32 (.ofNat b), .bool c] ⟨.h, .leaf⟩ .no)
end
end Go.Proofs.YtblciblkocameaaGreat.Sx
