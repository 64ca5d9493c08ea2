/-
  No cell of these rows narrows 'for every input' (looked for: loops, veiled, ifaces, maps, wideKeys, modest, calm, conditions, laid).
  DERIVED. THE GIVEN ROWS OF THIS SEAT. 4 by the template 'for every input the law returns true; each argument reads behind the call as it read before'; 0 by the template 'total and deterministic' (their statements: YtcoldhmbmcdemaaGreatTotals.lean).
  GIVEN WITH THE SEED: the statements are not yours to turn. If you find one false, say at which input.
  Laid BY PROGRAM, IN A SANDBOX (cutbox-rows.mjs): the forced cells as the released guide's own fill.sh prints them over the translation e991def5b4804cba… (all of the seat's roots in one cut). By AI agents, Wed Nov 11 2026. No macro, syntax, notation, axiom, sorry.
-/
import Derived.Test.YtcoldhmbmcdemaaGreatChecked
import GoSem.Claim
import GoSem.ClaimJoined
import GoSem.ClaimMapViews
import Derived.JoinedTies
import Derived.KernelRfl
namespace Go.Proofs.YtcoldhmbmcdemaaGreat
/- THE CELL 'sum', in the pinned program and in every row, IS THE sha256 OF THE DUMP (.gsa) THAT YtcoldhmbmcdemaaGreatProg.lean LOADS. Nothing in Lean hashes anything: it is a label: what it is worth is what the hold of that sum in a sandbox is worth. -/
noncomputable def Tryz.pinned : Pinned := { name := "ytcoldhmbmcdemaagreat", sum := "e991def5b4804cbaf245c64b9baa28db06b6bcc0d5d7c68be0888b36d7633465", checked := Tryz.checked }
namespace Rows
def none {H : Type} : Left H := { results := [], args := [] }

/-- 'solderlaw17.LowerSame': WHATEVER THE INPUT: true; the input reads as it did. -/
def lowerSameSpec : ChangeSpec := { name := "lowerSame", fn := fun _ => fun
  | [d1, d2] => { results := [.lit (.bool true)], args := [d1, d2] }
  | _ => none }
def lowerSameRow : OpenClaim := { program := "ytcoldhmbmcdemaagreat", sum := "e991def5b4804cbaf245c64b9baa28db06b6bcc0d5d7c68be0888b36d7633465", func := "solder/solderlaw17.LowerSame", spec := "lowerSame", inPlace := ["math.Float64frombits", "math.Float64bits", "math.archTrunc"], unfollowed := true, recurses := true, apart := false }
def LowerSameSaid : Prop := lowerSameRow.holds Tryz.pinned (OpenSpec.ofChange lowerSameSpec)

/-- ITS FALSE NEIGHBOUR: 'it returns false'. Refute it at one input. -/
def lowerSameWrong : ChangeSpec := { name := "lowerSame", fn := fun _ => fun
  | [d1, d2] => { results := [.lit (.bool false)], args := [d1, d2] }
  | _ => none }
def LowerSameWrongFalsely : Prop := lowerSameRow.holds Tryz.pinned (OpenSpec.ofChange lowerSameWrong)

/-- 'solderlaw17.LowerWords': WHATEVER THE INPUT: true; the input reads as it did. -/
def lowerWordsSpec : ChangeSpec := { name := "lowerWords", fn := fun _ => fun
  | [d1, d2, d3] => { results := [.lit (.bool true)], args := [d1, d2, d3] }
  | _ => none }
def lowerWordsRow : OpenClaim := { program := "ytcoldhmbmcdemaagreat", sum := "e991def5b4804cbaf245c64b9baa28db06b6bcc0d5d7c68be0888b36d7633465", func := "solder/solderlaw17.LowerWords", spec := "lowerWords", inPlace := ["math.Float64frombits", "math.Float64bits", "math.archTrunc"], unfollowed := true, recurses := true, apart := false }
def LowerWordsSaid : Prop := lowerWordsRow.holds Tryz.pinned (OpenSpec.ofChange lowerWordsSpec)

/-- ITS FALSE NEIGHBOUR: 'it returns false'. Refute it at one input. -/
def lowerWordsWrong : ChangeSpec := { name := "lowerWords", fn := fun _ => fun
  | [d1, d2, d3] => { results := [.lit (.bool false)], args := [d1, d2, d3] }
  | _ => none }
def LowerWordsWrongFalsely : Prop := lowerWordsRow.holds Tryz.pinned (OpenSpec.ofChange lowerWordsWrong)

/-- 'solderlaw17.LowerClears': WHATEVER THE INPUT: true; the input reads as it did. -/
def lowerClearsSpec : ChangeSpec := { name := "lowerClears", fn := fun _ => fun
  | [d1, d2] => { results := [.lit (.bool true)], args := [d1, d2] }
  | _ => none }
def lowerClearsRow : OpenClaim := { program := "ytcoldhmbmcdemaagreat", sum := "e991def5b4804cbaf245c64b9baa28db06b6bcc0d5d7c68be0888b36d7633465", func := "solder/solderlaw17.LowerClears", spec := "lowerClears", inPlace := ["math.Float64frombits", "math.Float64bits", "math.archTrunc"], unfollowed := true, recurses := true, apart := false }
def LowerClearsSaid : Prop := lowerClearsRow.holds Tryz.pinned (OpenSpec.ofChange lowerClearsSpec)

/-- ITS FALSE NEIGHBOUR: 'it returns false'. Refute it at one input. -/
def lowerClearsWrong : ChangeSpec := { name := "lowerClears", fn := fun _ => fun
  | [d1, d2] => { results := [.lit (.bool false)], args := [d1, d2] }
  | _ => none }
def LowerClearsWrongFalsely : Prop := lowerClearsRow.holds Tryz.pinned (OpenSpec.ofChange lowerClearsWrong)

/-- 'solderlaw17.LowerReals': WHATEVER THE INPUT: true; the input reads as it did. -/
def lowerRealsSpec : ChangeSpec := { name := "lowerReals", fn := fun _ => fun
  | [d1, d2, d3] => { results := [.lit (.bool true)], args := [d1, d2, d3] }
  | _ => none }
def lowerRealsRow : OpenClaim := { program := "ytcoldhmbmcdemaagreat", sum := "e991def5b4804cbaf245c64b9baa28db06b6bcc0d5d7c68be0888b36d7633465", func := "solder/solderlaw17.LowerReals", spec := "lowerReals", inPlace := ["math.Float64frombits", "math.Float64bits", "math.archTrunc"], unfollowed := true, recurses := true, apart := false }
def LowerRealsSaid : Prop := lowerRealsRow.holds Tryz.pinned (OpenSpec.ofChange lowerRealsSpec)

/-- ITS FALSE NEIGHBOUR: 'it returns false'. Refute it at one input. -/
def lowerRealsWrong : ChangeSpec := { name := "lowerReals", fn := fun _ => fun
  | [d1, d2, d3] => { results := [.lit (.bool false)], args := [d1, d2, d3] }
  | _ => none }
def LowerRealsWrongFalsely : Prop := lowerRealsRow.holds Tryz.pinned (OpenSpec.ofChange lowerRealsWrong)

/- THE SECOND FORM. 'bulk': how many values and letters a reading holds, each counted each time it is reached (what is shared counts as often as it is met; a slice's spare places count too). A statement '..UptoSaid' is the law's where the arguments, and the package variables that the reading takes, are together of bulk at most 1048576: NARROWER than '..Said'. Prove '..Said' where nothing that the law and all that it calls make is longer than what came in: it says more and counts as full. Else prove '..UptoSaid'. A law counts once. -/
mutual
def uptoBulk {H : Type} : DataW H → Nat
  | .lit (.string bytes) => bytes.length + 1
  | .lit _ => 1
  | .nil => 1
  | .ptr d => uptoBulk d + 1
  | .slice elems spare => uptoBulkAll elems + uptoBulkAll spare + 1
  | .agg parts => uptoBulkAll parts + 1
  | .iface _ d => uptoBulk d + 1
  | .map entries => uptoBulkEntries entries + 1
  | .held _ => 1
def uptoBulkAll {H : Type} : List (DataW H) → Nat
  | [] => 0
  | d :: r => uptoBulk d + uptoBulkAll r
def uptoBulkEntries {H : Type} : List (Lit × DataW H) → Nat
  | [] => 0
  | x :: r => uptoBulkEntry x + uptoBulkEntries r
def uptoBulkEntry {H : Type} : Lit × DataW H → Nat
  | (.string bytes, d) => bytes.length + uptoBulk d + 1
  | (_, d) => uptoBulk d + 1
 end
def uptoSmall : (H : Type) → List (DataW H) → Bool := fun _ ds => decide (uptoBulkAll ds ≤ 1048576)
def OpenSpec.upto (s : _root_.Go.ChangeSpec) : _root_.Go.OpenSpec := { _root_.Go.OpenSpec.ofChange s with cond := some uptoSmall }

/-- 'solderlaw17.LowerSame', WHERE WHAT IT READS IS OF BULK AT MOST 1048576: true; the input reads as it did. -/
def lowerSameUptoRow : OpenClaim := { program := "ytcoldhmbmcdemaagreat", sum := "e991def5b4804cbaf245c64b9baa28db06b6bcc0d5d7c68be0888b36d7633465", func := "solder/solderlaw17.LowerSame", spec := "lowerSame", inPlace := ["math.Float64frombits", "math.Float64bits", "math.archTrunc"], unfollowed := true, recurses := true, apart := false, narrowed := true }
def LowerSameUptoSaid : Prop := lowerSameUptoRow.holds Tryz.pinned (OpenSpec.upto lowerSameSpec)

/-- 'solderlaw17.LowerWords', WHERE WHAT IT READS IS OF BULK AT MOST 1048576: true; the input reads as it did. -/
def lowerWordsUptoRow : OpenClaim := { program := "ytcoldhmbmcdemaagreat", sum := "e991def5b4804cbaf245c64b9baa28db06b6bcc0d5d7c68be0888b36d7633465", func := "solder/solderlaw17.LowerWords", spec := "lowerWords", inPlace := ["math.Float64frombits", "math.Float64bits", "math.archTrunc"], unfollowed := true, recurses := true, apart := false, narrowed := true }
def LowerWordsUptoSaid : Prop := lowerWordsUptoRow.holds Tryz.pinned (OpenSpec.upto lowerWordsSpec)

/-- 'solderlaw17.LowerClears', WHERE WHAT IT READS IS OF BULK AT MOST 1048576: true; the input reads as it did. -/
def lowerClearsUptoRow : OpenClaim := { program := "ytcoldhmbmcdemaagreat", sum := "e991def5b4804cbaf245c64b9baa28db06b6bcc0d5d7c68be0888b36d7633465", func := "solder/solderlaw17.LowerClears", spec := "lowerClears", inPlace := ["math.Float64frombits", "math.Float64bits", "math.archTrunc"], unfollowed := true, recurses := true, apart := false, narrowed := true }
def LowerClearsUptoSaid : Prop := lowerClearsUptoRow.holds Tryz.pinned (OpenSpec.upto lowerClearsSpec)

/-- 'solderlaw17.LowerReals', WHERE WHAT IT READS IS OF BULK AT MOST 1048576: true; the input reads as it did. -/
def lowerRealsUptoRow : OpenClaim := { program := "ytcoldhmbmcdemaagreat", sum := "e991def5b4804cbaf245c64b9baa28db06b6bcc0d5d7c68be0888b36d7633465", func := "solder/solderlaw17.LowerReals", spec := "lowerReals", inPlace := ["math.Float64frombits", "math.Float64bits", "math.archTrunc"], unfollowed := true, recurses := true, apart := false, narrowed := true }
def LowerRealsUptoSaid : Prop := lowerRealsUptoRow.holds Tryz.pinned (OpenSpec.upto lowerRealsSpec)

end Rows
end Go.Proofs.YtcoldhmbmcdemaaGreat
