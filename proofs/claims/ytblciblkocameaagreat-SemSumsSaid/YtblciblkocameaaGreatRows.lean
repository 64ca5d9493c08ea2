/-
  No cell of these rows narrows 'for every input' (looked for: loops, veiled, ifaces, maps, wideKeys, modest, calm, conditions, laid).
  DERIVED. THE GIVEN ROWS OF THIS SEAT. 9 by the template 'for every input the law returns true; each argument reads behind the call as it read before'; 0 by the template 'total and deterministic' (their statements: YtblciblkocameaaGreatTotals.lean).
  GIVEN WITH THE SEED: the statements are not yours to turn. If you find one false, say at which input.
  Laid BY PROGRAM, IN A SANDBOX (cutbox-rows.mjs): the forced cells as the released guide's own fill.sh prints them over the translation ca37f9ad4c044be2… (all of the seat's roots in one cut). By AI agents, Wed Nov 11 2026. No macro, syntax, notation, axiom, sorry.
-/
import Derived.Test.YtblciblkocameaaGreatChecked
import GoSem.Claim
import GoSem.ClaimJoined
import GoSem.ClaimMapViews
import Derived.JoinedTies
import Derived.KernelRfl
namespace Go.Proofs.YtblciblkocameaaGreat
/- THE CELL 'sum', in the pinned program and in every row, IS THE sha256 OF THE DUMP (.gsa) THAT YtblciblkocameaaGreatProg.lean LOADS. Nothing in Lean hashes anything: it is a label: what it is worth is what the hold of that sum in a sandbox is worth. -/
noncomputable def Tryz.pinned : Pinned := { name := "ytblciblkocameaagreat", sum := "ca37f9ad4c044be2fcf8fa3def2447e51a333219f72e49eb2e9668a3682611d1", checked := Tryz.checked }
namespace Rows
def none {H : Type} : Left H := { results := [], args := [] }

/-- 'solderlaw15.SemPrefix': WHATEVER THE INPUT: true; the input reads as it did. -/
def semPrefixSpec : ChangeSpec := { name := "semPrefix", fn := fun _ => fun
  | [d1, d2, d3] => { results := [.lit (.bool true)], args := [d1, d2, d3] }
  | _ => none }
def semPrefixRow : OpenClaim := { program := "ytblciblkocameaagreat", sum := "ca37f9ad4c044be2fcf8fa3def2447e51a333219f72e49eb2e9668a3682611d1", func := "solder/solderlaw15.SemPrefix", spec := "semPrefix", inPlace := ["math.Float64frombits", "math.Float64bits", "math.archTrunc"], unfollowed := true, recurses := true, apart := false }
def SemPrefixSaid : Prop := semPrefixRow.holds Tryz.pinned (OpenSpec.ofChange semPrefixSpec)

/-- ITS FALSE NEIGHBOUR: 'it returns false'. Refute it at one input. -/
def semPrefixWrong : ChangeSpec := { name := "semPrefix", fn := fun _ => fun
  | [d1, d2, d3] => { results := [.lit (.bool false)], args := [d1, d2, d3] }
  | _ => none }
def SemPrefixWrongFalsely : Prop := semPrefixRow.holds Tryz.pinned (OpenSpec.ofChange semPrefixWrong)

/-- 'solderlaw15.SemWords': WHATEVER THE INPUT: true; the input reads as it did. -/
def semWordsSpec : ChangeSpec := { name := "semWords", fn := fun _ => fun
  | [d1, d2, d3] => { results := [.lit (.bool true)], args := [d1, d2, d3] }
  | _ => none }
def semWordsRow : OpenClaim := { program := "ytblciblkocameaagreat", sum := "ca37f9ad4c044be2fcf8fa3def2447e51a333219f72e49eb2e9668a3682611d1", func := "solder/solderlaw15.SemWords", spec := "semWords", inPlace := ["math.Float64frombits", "math.Float64bits", "math.archTrunc"], unfollowed := true, recurses := true, apart := false }
def SemWordsSaid : Prop := semWordsRow.holds Tryz.pinned (OpenSpec.ofChange semWordsSpec)

/-- ITS FALSE NEIGHBOUR: 'it returns false'. Refute it at one input. -/
def semWordsWrong : ChangeSpec := { name := "semWords", fn := fun _ => fun
  | [d1, d2, d3] => { results := [.lit (.bool false)], args := [d1, d2, d3] }
  | _ => none }
def SemWordsWrongFalsely : Prop := semWordsRow.holds Tryz.pinned (OpenSpec.ofChange semWordsWrong)

/-- 'solderlaw15.SemSums': WHATEVER THE INPUT: true; the input reads as it did. -/
def semSumsSpec : ChangeSpec := { name := "semSums", fn := fun _ => fun
  | [d] => { results := [.lit (.bool true)], args := [d] }
  | _ => none }
def semSumsRow : OpenClaim := { program := "ytblciblkocameaagreat", sum := "ca37f9ad4c044be2fcf8fa3def2447e51a333219f72e49eb2e9668a3682611d1", func := "solder/solderlaw15.SemSums", spec := "semSums", inPlace := ["math.Float64frombits", "math.Float64bits", "math.archTrunc"], unfollowed := true, recurses := true, apart := false }
def SemSumsSaid : Prop := semSumsRow.holds Tryz.pinned (OpenSpec.ofChange semSumsSpec)

/-- ITS FALSE NEIGHBOUR: 'it returns false'. Refute it at one input. -/
def semSumsWrong : ChangeSpec := { name := "semSums", fn := fun _ => fun
  | [d] => { results := [.lit (.bool false)], args := [d] }
  | _ => none }
def SemSumsWrongFalsely : Prop := semSumsRow.holds Tryz.pinned (OpenSpec.ofChange semSumsWrong)

/-- 'solderlaw15.SemBounds': WHATEVER THE INPUT: true; the input reads as it did. -/
def semBoundsSpec : ChangeSpec := { name := "semBounds", fn := fun _ => fun
  | [d1, d2] => { results := [.lit (.bool true)], args := [d1, d2] }
  | _ => none }
def semBoundsRow : OpenClaim := { program := "ytblciblkocameaagreat", sum := "ca37f9ad4c044be2fcf8fa3def2447e51a333219f72e49eb2e9668a3682611d1", func := "solder/solderlaw15.SemBounds", spec := "semBounds", inPlace := ["math.Float64frombits", "math.Float64bits", "math.archTrunc"], unfollowed := true, recurses := true, apart := false }
def SemBoundsSaid : Prop := semBoundsRow.holds Tryz.pinned (OpenSpec.ofChange semBoundsSpec)

/-- ITS FALSE NEIGHBOUR: 'it returns false'. Refute it at one input. -/
def semBoundsWrong : ChangeSpec := { name := "semBounds", fn := fun _ => fun
  | [d1, d2] => { results := [.lit (.bool false)], args := [d1, d2] }
  | _ => none }
def SemBoundsWrongFalsely : Prop := semBoundsRow.holds Tryz.pinned (OpenSpec.ofChange semBoundsWrong)

/-- 'solderlaw15.SemEchoes': WHATEVER THE INPUT: true; the input reads as it did. -/
def semEchoesSpec : ChangeSpec := { name := "semEchoes", fn := fun _ => fun
  | [d1, d2] => { results := [.lit (.bool true)], args := [d1, d2] }
  | _ => none }
def semEchoesRow : OpenClaim := { program := "ytblciblkocameaagreat", sum := "ca37f9ad4c044be2fcf8fa3def2447e51a333219f72e49eb2e9668a3682611d1", func := "solder/solderlaw15.SemEchoes", spec := "semEchoes", inPlace := ["math.Float64frombits", "math.Float64bits", "math.archTrunc"], unfollowed := true, recurses := true, apart := false }
def SemEchoesSaid : Prop := semEchoesRow.holds Tryz.pinned (OpenSpec.ofChange semEchoesSpec)

/-- ITS FALSE NEIGHBOUR: 'it returns false'. Refute it at one input. -/
def semEchoesWrong : ChangeSpec := { name := "semEchoes", fn := fun _ => fun
  | [d1, d2] => { results := [.lit (.bool false)], args := [d1, d2] }
  | _ => none }
def SemEchoesWrongFalsely : Prop := semEchoesRow.holds Tryz.pinned (OpenSpec.ofChange semEchoesWrong)

/-- 'solderlaw15.SemGone': WHATEVER THE INPUT: true; the input reads as it did. -/
def semGoneSpec : ChangeSpec := { name := "semGone", fn := fun _ => fun
  | [d1, d2] => { results := [.lit (.bool true)], args := [d1, d2] }
  | _ => none }
def semGoneRow : OpenClaim := { program := "ytblciblkocameaagreat", sum := "ca37f9ad4c044be2fcf8fa3def2447e51a333219f72e49eb2e9668a3682611d1", func := "solder/solderlaw15.SemGone", spec := "semGone", inPlace := ["math.Float64frombits", "math.Float64bits", "math.archTrunc"], unfollowed := true, recurses := true, apart := false }
def SemGoneSaid : Prop := semGoneRow.holds Tryz.pinned (OpenSpec.ofChange semGoneSpec)

/-- ITS FALSE NEIGHBOUR: 'it returns false'. Refute it at one input. -/
def semGoneWrong : ChangeSpec := { name := "semGone", fn := fun _ => fun
  | [d1, d2] => { results := [.lit (.bool false)], args := [d1, d2] }
  | _ => none }
def SemGoneWrongFalsely : Prop := semGoneRow.holds Tryz.pinned (OpenSpec.ofChange semGoneWrong)

/-- 'solderlaw15.SemOrder': WHATEVER THE INPUT: true; the input reads as it did. -/
def semOrderSpec : ChangeSpec := { name := "semOrder", fn := fun _ => fun
  | [d1, d2] => { results := [.lit (.bool true)], args := [d1, d2] }
  | _ => none }
def semOrderRow : OpenClaim := { program := "ytblciblkocameaagreat", sum := "ca37f9ad4c044be2fcf8fa3def2447e51a333219f72e49eb2e9668a3682611d1", func := "solder/solderlaw15.SemOrder", spec := "semOrder", inPlace := ["math.Float64frombits", "math.Float64bits", "math.archTrunc"], unfollowed := true, recurses := true, apart := false }
def SemOrderSaid : Prop := semOrderRow.holds Tryz.pinned (OpenSpec.ofChange semOrderSpec)

/-- ITS FALSE NEIGHBOUR: 'it returns false'. Refute it at one input. -/
def semOrderWrong : ChangeSpec := { name := "semOrder", fn := fun _ => fun
  | [d1, d2] => { results := [.lit (.bool false)], args := [d1, d2] }
  | _ => none }
def SemOrderWrongFalsely : Prop := semOrderRow.holds Tryz.pinned (OpenSpec.ofChange semOrderWrong)

/-- 'solderlaw15.SemReals': WHATEVER THE INPUT: true; the input reads as it did. -/
def semRealsSpec : ChangeSpec := { name := "semReals", fn := fun _ => fun
  | [d1, d2, d3] => { results := [.lit (.bool true)], args := [d1, d2, d3] }
  | _ => none }
def semRealsRow : OpenClaim := { program := "ytblciblkocameaagreat", sum := "ca37f9ad4c044be2fcf8fa3def2447e51a333219f72e49eb2e9668a3682611d1", func := "solder/solderlaw15.SemReals", spec := "semReals", inPlace := ["math.Float64frombits", "math.Float64bits", "math.archTrunc"], unfollowed := true, recurses := true, apart := false }
def SemRealsSaid : Prop := semRealsRow.holds Tryz.pinned (OpenSpec.ofChange semRealsSpec)

/-- ITS FALSE NEIGHBOUR: 'it returns false'. Refute it at one input. -/
def semRealsWrong : ChangeSpec := { name := "semReals", fn := fun _ => fun
  | [d1, d2, d3] => { results := [.lit (.bool false)], args := [d1, d2, d3] }
  | _ => none }
def SemRealsWrongFalsely : Prop := semRealsRow.holds Tryz.pinned (OpenSpec.ofChange semRealsWrong)

/-- 'solderlaw15.SemShort': WHATEVER THE INPUT: true; the input reads as it did. -/
def semShortSpec : ChangeSpec := { name := "semShort", fn := fun _ => fun
  | [d1, d2, d3] => { results := [.lit (.bool true)], args := [d1, d2, d3] }
  | _ => none }
def semShortRow : OpenClaim := { program := "ytblciblkocameaagreat", sum := "ca37f9ad4c044be2fcf8fa3def2447e51a333219f72e49eb2e9668a3682611d1", func := "solder/solderlaw15.SemShort", spec := "semShort", inPlace := ["math.Float64frombits", "math.Float64bits", "math.archTrunc"], unfollowed := true, recurses := true, apart := false }
def SemShortSaid : Prop := semShortRow.holds Tryz.pinned (OpenSpec.ofChange semShortSpec)

/-- ITS FALSE NEIGHBOUR: 'it returns false'. Refute it at one input. -/
def semShortWrong : ChangeSpec := { name := "semShort", fn := fun _ => fun
  | [d1, d2, d3] => { results := [.lit (.bool false)], args := [d1, d2, d3] }
  | _ => none }
def SemShortWrongFalsely : Prop := semShortRow.holds Tryz.pinned (OpenSpec.ofChange semShortWrong)

/- THE SECOND FORM. 'bulk': how many values and letters a reading holds, each counted each time it is reached (what is shared counts as often as it is met; a slice's spare places count too). A statement '..UptoSaid' is the law's where the arguments, and the package variables that the reading takes, are together of bulk at most 1048576: NARROWER than '..Said'. Prove '..Said' where nothing that the law and all that it calls make is longer than what came in: it says more and counts as full. Else prove '..UptoSaid'. A law counts once. -/
mutual
def uptoBulk {H : Type} : DataW H → Nat
  | .lit (.string bytes) => bytes.length + 1
  | .lit _ => 1
  | .nil => 1
  | .ptr d => uptoBulk d + 1
  | .slice elems spare => uptoBulkAll elems + uptoBulkAll spare + 1
  | .agg parts => uptoBulkAll parts + 1
  | .iface _ d => uptoBulk d + 1
  | .map entries => uptoBulkEntries entries + 1
  | .held _ => 1
def uptoBulkAll {H : Type} : List (DataW H) → Nat
  | [] => 0
  | d :: r => uptoBulk d + uptoBulkAll r
def uptoBulkEntries {H : Type} : List (Lit × DataW H) → Nat
  | [] => 0
  | x :: r => uptoBulkEntry x + uptoBulkEntries r
def uptoBulkEntry {H : Type} : Lit × DataW H → Nat
  | (.string bytes, d) => bytes.length + uptoBulk d + 1
  | (_, d) => uptoBulk d + 1
 end
def uptoSmall : (H : Type) → List (DataW H) → Bool := fun _ ds => decide (uptoBulkAll ds ≤ 1048576)
def OpenSpec.upto (s : _root_.Go.ChangeSpec) : _root_.Go.OpenSpec := { _root_.Go.OpenSpec.ofChange s with cond := some uptoSmall }

/-- 'solderlaw15.SemPrefix', WHERE WHAT IT READS IS OF BULK AT MOST 1048576: true; the input reads as it did. -/
def semPrefixUptoRow : OpenClaim := { program := "ytblciblkocameaagreat", sum := "ca37f9ad4c044be2fcf8fa3def2447e51a333219f72e49eb2e9668a3682611d1", func := "solder/solderlaw15.SemPrefix", spec := "semPrefix", inPlace := ["math.Float64frombits", "math.Float64bits", "math.archTrunc"], unfollowed := true, recurses := true, apart := false, narrowed := true }
def SemPrefixUptoSaid : Prop := semPrefixUptoRow.holds Tryz.pinned (OpenSpec.upto semPrefixSpec)

/-- 'solderlaw15.SemWords', WHERE WHAT IT READS IS OF BULK AT MOST 1048576: true; the input reads as it did. -/
def semWordsUptoRow : OpenClaim := { program := "ytblciblkocameaagreat", sum := "ca37f9ad4c044be2fcf8fa3def2447e51a333219f72e49eb2e9668a3682611d1", func := "solder/solderlaw15.SemWords", spec := "semWords", inPlace := ["math.Float64frombits", "math.Float64bits", "math.archTrunc"], unfollowed := true, recurses := true, apart := false, narrowed := true }
def SemWordsUptoSaid : Prop := semWordsUptoRow.holds Tryz.pinned (OpenSpec.upto semWordsSpec)

/-- 'solderlaw15.SemSums', WHERE WHAT IT READS IS OF BULK AT MOST 1048576: true; the input reads as it did. -/
def semSumsUptoRow : OpenClaim := { program := "ytblciblkocameaagreat", sum := "ca37f9ad4c044be2fcf8fa3def2447e51a333219f72e49eb2e9668a3682611d1", func := "solder/solderlaw15.SemSums", spec := "semSums", inPlace := ["math.Float64frombits", "math.Float64bits", "math.archTrunc"], unfollowed := true, recurses := true, apart := false, narrowed := true }
def SemSumsUptoSaid : Prop := semSumsUptoRow.holds Tryz.pinned (OpenSpec.upto semSumsSpec)

/-- 'solderlaw15.SemBounds', WHERE WHAT IT READS IS OF BULK AT MOST 1048576: true; the input reads as it did. -/
def semBoundsUptoRow : OpenClaim := { program := "ytblciblkocameaagreat", sum := "ca37f9ad4c044be2fcf8fa3def2447e51a333219f72e49eb2e9668a3682611d1", func := "solder/solderlaw15.SemBounds", spec := "semBounds", inPlace := ["math.Float64frombits", "math.Float64bits", "math.archTrunc"], unfollowed := true, recurses := true, apart := false, narrowed := true }
def SemBoundsUptoSaid : Prop := semBoundsUptoRow.holds Tryz.pinned (OpenSpec.upto semBoundsSpec)

/-- 'solderlaw15.SemEchoes', WHERE WHAT IT READS IS OF BULK AT MOST 1048576: true; the input reads as it did. -/
def semEchoesUptoRow : OpenClaim := { program := "ytblciblkocameaagreat", sum := "ca37f9ad4c044be2fcf8fa3def2447e51a333219f72e49eb2e9668a3682611d1", func := "solder/solderlaw15.SemEchoes", spec := "semEchoes", inPlace := ["math.Float64frombits", "math.Float64bits", "math.archTrunc"], unfollowed := true, recurses := true, apart := false, narrowed := true }
def SemEchoesUptoSaid : Prop := semEchoesUptoRow.holds Tryz.pinned (OpenSpec.upto semEchoesSpec)

/-- 'solderlaw15.SemGone', WHERE WHAT IT READS IS OF BULK AT MOST 1048576: true; the input reads as it did. -/
def semGoneUptoRow : OpenClaim := { program := "ytblciblkocameaagreat", sum := "ca37f9ad4c044be2fcf8fa3def2447e51a333219f72e49eb2e9668a3682611d1", func := "solder/solderlaw15.SemGone", spec := "semGone", inPlace := ["math.Float64frombits", "math.Float64bits", "math.archTrunc"], unfollowed := true, recurses := true, apart := false, narrowed := true }
def SemGoneUptoSaid : Prop := semGoneUptoRow.holds Tryz.pinned (OpenSpec.upto semGoneSpec)

/-- 'solderlaw15.SemOrder', WHERE WHAT IT READS IS OF BULK AT MOST 1048576: true; the input reads as it did. -/
def semOrderUptoRow : OpenClaim := { program := "ytblciblkocameaagreat", sum := "ca37f9ad4c044be2fcf8fa3def2447e51a333219f72e49eb2e9668a3682611d1", func := "solder/solderlaw15.SemOrder", spec := "semOrder", inPlace := ["math.Float64frombits", "math.Float64bits", "math.archTrunc"], unfollowed := true, recurses := true, apart := false, narrowed := true }
def SemOrderUptoSaid : Prop := semOrderUptoRow.holds Tryz.pinned (OpenSpec.upto semOrderSpec)

/-- 'solderlaw15.SemReals', WHERE WHAT IT READS IS OF BULK AT MOST 1048576: true; the input reads as it did. -/
def semRealsUptoRow : OpenClaim := { program := "ytblciblkocameaagreat", sum := "ca37f9ad4c044be2fcf8fa3def2447e51a333219f72e49eb2e9668a3682611d1", func := "solder/solderlaw15.SemReals", spec := "semReals", inPlace := ["math.Float64frombits", "math.Float64bits", "math.archTrunc"], unfollowed := true, recurses := true, apart := false, narrowed := true }
def SemRealsUptoSaid : Prop := semRealsUptoRow.holds Tryz.pinned (OpenSpec.upto semRealsSpec)

/-- 'solderlaw15.SemShort', WHERE WHAT IT READS IS OF BULK AT MOST 1048576: true; the input reads as it did. -/
def semShortUptoRow : OpenClaim := { program := "ytblciblkocameaagreat", sum := "ca37f9ad4c044be2fcf8fa3def2447e51a333219f72e49eb2e9668a3682611d1", func := "solder/solderlaw15.SemShort", spec := "semShort", inPlace := ["math.Float64frombits", "math.Float64bits", "math.archTrunc"], unfollowed := true, recurses := true, apart := false, narrowed := true }
def SemShortUptoSaid : Prop := semShortUptoRow.holds Tryz.pinned (OpenSpec.upto semShortSpec)

end Rows
end Go.Proofs.YtblciblkocameaaGreat
