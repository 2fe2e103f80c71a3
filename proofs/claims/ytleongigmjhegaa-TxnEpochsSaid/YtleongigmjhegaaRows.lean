/-
  No cell of these rows narrows 'for every input' (looked for: loops, veiled, ifaces, maps, wideKeys, modest, calm, conditions, laid).
  DERIVED. THE GIVEN ROWS OF THIS SEAT. 6 by the template 'for every input the law returns true; each argument reads behind the call as it read before'; 0 by the template 'total and deterministic' (their statements: YtleongigmjhegaaTotals.lean).
  GIVEN WITH THE SEED: the statements are not yours to turn. If you find one false, say at which input.
  Laid BY PROGRAM, IN A SANDBOX (cutbox-rows.mjs): the forced cells as the released guide's own fill.sh prints them over the translation 7bfd191197cab642… (all of the seat's roots in one cut). By AI agents, Wed Nov 11 2026. No macro, syntax, notation, axiom, sorry.
-/
import Derived.Test.YtleongigmjhegaaChecked
import GoSem.Claim
import GoSem.ClaimJoined
import GoSem.ClaimMapViews
import Derived.JoinedTies
import Derived.KernelRfl
namespace Go.Proofs.Ytleongigmjhegaa
/- THE CELL 'sum', in the pinned program and in every row, IS THE sha256 OF THE DUMP (.gsa) THAT YtleongigmjhegaaProg.lean LOADS. Nothing in Lean hashes anything: it is a label: what it is worth is what the hold of that sum in a sandbox is worth. -/
noncomputable def Try.pinned : Pinned := { name := "ytleongigmjhegaa", sum := "7bfd191197cab6427ee49178575ee9e21a89f1527e8992ed2652128f32ffdc5e", checked := Try.checked }
namespace Rows
def none {H : Type} : Left H := { results := [], args := [] }

/-- 'headgatelaw12.TxnFolds': WHATEVER THE INPUT: true; the input reads as it did. -/
def txnFoldsSpec : ChangeSpec := { name := "txnFolds", fn := fun _ => fun
  | [d1, d2] => { results := [.lit (.bool true)], args := [d1, d2] }
  | _ => none }
def txnFoldsRow : OpenClaim := { program := "ytleongigmjhegaa", sum := "7bfd191197cab6427ee49178575ee9e21a89f1527e8992ed2652128f32ffdc5e", func := "headgate/headgatelaw12.TxnFolds", spec := "txnFolds", inPlace := ["slices.overlaps[headgate/api.Trans]"], unfollowed := true, recurses := true, apart := false }
def TxnFoldsSaid : Prop := txnFoldsRow.holds Try.pinned (OpenSpec.ofChange txnFoldsSpec)

/-- ITS FALSE NEIGHBOUR: 'it returns false'. Refute it at one input. -/
def txnFoldsWrong : ChangeSpec := { name := "txnFolds", fn := fun _ => fun
  | [d1, d2] => { results := [.lit (.bool false)], args := [d1, d2] }
  | _ => none }
def TxnFoldsWrongFalsely : Prop := txnFoldsRow.holds Try.pinned (OpenSpec.ofChange txnFoldsWrong)

/-- 'headgatelaw12.TxnEpochs': WHATEVER THE INPUT: true; the input reads as it did. -/
def txnEpochsSpec : ChangeSpec := { name := "txnEpochs", fn := fun _ => fun
  | [d] => { results := [.lit (.bool true)], args := [d] }
  | _ => none }
def txnEpochsRow : OpenClaim := { program := "ytleongigmjhegaa", sum := "7bfd191197cab6427ee49178575ee9e21a89f1527e8992ed2652128f32ffdc5e", func := "headgate/headgatelaw12.TxnEpochs", spec := "txnEpochs", inPlace := ["slices.overlaps[headgate/api.Trans]"], unfollowed := true, recurses := true, apart := false }
def TxnEpochsSaid : Prop := txnEpochsRow.holds Try.pinned (OpenSpec.ofChange txnEpochsSpec)

/-- ITS FALSE NEIGHBOUR: 'it returns false'. Refute it at one input. -/
def txnEpochsWrong : ChangeSpec := { name := "txnEpochs", fn := fun _ => fun
  | [d] => { results := [.lit (.bool false)], args := [d] }
  | _ => none }
def TxnEpochsWrongFalsely : Prop := txnEpochsRow.holds Try.pinned (OpenSpec.ofChange txnEpochsWrong)

/-- 'headgatelaw12.TxnDecides': WHATEVER THE INPUT: true; the input reads as it did. -/
def txnDecidesSpec : ChangeSpec := { name := "txnDecides", fn := fun _ => fun
  | [d1, d2, d3] => { results := [.lit (.bool true)], args := [d1, d2, d3] }
  | _ => none }
def txnDecidesRow : OpenClaim := { program := "ytleongigmjhegaa", sum := "7bfd191197cab6427ee49178575ee9e21a89f1527e8992ed2652128f32ffdc5e", func := "headgate/headgatelaw12.TxnDecides", spec := "txnDecides", inPlace := ["slices.overlaps[headgate/api.Trans]"], unfollowed := true, recurses := true, apart := false }
def TxnDecidesSaid : Prop := txnDecidesRow.holds Try.pinned (OpenSpec.ofChange txnDecidesSpec)

/-- ITS FALSE NEIGHBOUR: 'it returns false'. Refute it at one input. -/
def txnDecidesWrong : ChangeSpec := { name := "txnDecides", fn := fun _ => fun
  | [d1, d2, d3] => { results := [.lit (.bool false)], args := [d1, d2, d3] }
  | _ => none }
def TxnDecidesWrongFalsely : Prop := txnDecidesRow.holds Try.pinned (OpenSpec.ofChange txnDecidesWrong)

/-- 'headgatelaw12.TxnEach': WHATEVER THE INPUT: true; the input reads as it did. -/
def txnEachSpec : ChangeSpec := { name := "txnEach", fn := fun _ => fun
  | [d] => { results := [.lit (.bool true)], args := [d] }
  | _ => none }
def txnEachRow : OpenClaim := { program := "ytleongigmjhegaa", sum := "7bfd191197cab6427ee49178575ee9e21a89f1527e8992ed2652128f32ffdc5e", func := "headgate/headgatelaw12.TxnEach", spec := "txnEach", inPlace := ["slices.overlaps[headgate/api.Trans]"], unfollowed := true, recurses := true, apart := false }
def TxnEachSaid : Prop := txnEachRow.holds Try.pinned (OpenSpec.ofChange txnEachSpec)

/-- ITS FALSE NEIGHBOUR: 'it returns false'. Refute it at one input. -/
def txnEachWrong : ChangeSpec := { name := "txnEach", fn := fun _ => fun
  | [d] => { results := [.lit (.bool false)], args := [d] }
  | _ => none }
def TxnEachWrongFalsely : Prop := txnEachRow.holds Try.pinned (OpenSpec.ofChange txnEachWrong)

/-- 'headgatelaw12.TxnParts': WHATEVER THE INPUT: true; the input reads as it did. -/
def txnPartsSpec : ChangeSpec := { name := "txnParts", fn := fun _ => fun
  | [d1, d2] => { results := [.lit (.bool true)], args := [d1, d2] }
  | _ => none }
def txnPartsRow : OpenClaim := { program := "ytleongigmjhegaa", sum := "7bfd191197cab6427ee49178575ee9e21a89f1527e8992ed2652128f32ffdc5e", func := "headgate/headgatelaw12.TxnParts", spec := "txnParts", inPlace := ["slices.overlaps[headgate/api.Trans]"], unfollowed := true, recurses := true, apart := false }
def TxnPartsSaid : Prop := txnPartsRow.holds Try.pinned (OpenSpec.ofChange txnPartsSpec)

/-- ITS FALSE NEIGHBOUR: 'it returns false'. Refute it at one input. -/
def txnPartsWrong : ChangeSpec := { name := "txnParts", fn := fun _ => fun
  | [d1, d2] => { results := [.lit (.bool false)], args := [d1, d2] }
  | _ => none }
def TxnPartsWrongFalsely : Prop := txnPartsRow.holds Try.pinned (OpenSpec.ofChange txnPartsWrong)

/-- 'headgatelaw12.TxnCodes': WHATEVER THE INPUT: true; the input reads as it did. -/
def txnCodesSpec : ChangeSpec := { name := "txnCodes", fn := fun _ => fun
  | [d1, d2] => { results := [.lit (.bool true)], args := [d1, d2] }
  | _ => none }
def txnCodesRow : OpenClaim := { program := "ytleongigmjhegaa", sum := "7bfd191197cab6427ee49178575ee9e21a89f1527e8992ed2652128f32ffdc5e", func := "headgate/headgatelaw12.TxnCodes", spec := "txnCodes", inPlace := ["slices.overlaps[headgate/api.Trans]", "internal/abi.NoEscape"], unfollowed := true, recurses := true, apart := false }
def TxnCodesSaid : Prop := txnCodesRow.holds Try.pinned (OpenSpec.ofChange txnCodesSpec)

/-- ITS FALSE NEIGHBOUR: 'it returns false'. Refute it at one input. -/
def txnCodesWrong : ChangeSpec := { name := "txnCodes", fn := fun _ => fun
  | [d1, d2] => { results := [.lit (.bool false)], args := [d1, d2] }
  | _ => none }
def TxnCodesWrongFalsely : Prop := txnCodesRow.holds Try.pinned (OpenSpec.ofChange txnCodesWrong)

/- THE SECOND FORM. 'bulk': how many values and letters a reading holds, each counted each time it is reached (what is shared counts as often as it is met; a slice's spare places count too). A statement '..UptoSaid' is the law's where the arguments, and the package variables that the reading takes, are together of bulk at most 1048576: NARROWER than '..Said'. Prove '..Said' where nothing that the law and all that it calls make is longer than what came in: it says more and counts as full. Else prove '..UptoSaid'. A law counts once. -/
mutual
def uptoBulk {H : Type} : DataW H → Nat
  | .lit (.string bytes) => bytes.length + 1
  | .lit _ => 1
  | .nil => 1
  | .ptr d => uptoBulk d + 1
  | .slice elems spare => uptoBulkAll elems + uptoBulkAll spare + 1
  | .agg parts => uptoBulkAll parts + 1
  | .iface _ d => uptoBulk d + 1
  | .map entries => uptoBulkEntries entries + 1
  | .held _ => 1
def uptoBulkAll {H : Type} : List (DataW H) → Nat
  | [] => 0
  | d :: r => uptoBulk d + uptoBulkAll r
def uptoBulkEntries {H : Type} : List (Lit × DataW H) → Nat
  | [] => 0
  | x :: r => uptoBulkEntry x + uptoBulkEntries r
def uptoBulkEntry {H : Type} : Lit × DataW H → Nat
  | (.string bytes, d) => bytes.length + uptoBulk d + 1
  | (_, d) => uptoBulk d + 1
 end
def uptoSmall : (H : Type) → List (DataW H) → Bool := fun _ ds => decide (uptoBulkAll ds ≤ 1048576)
def OpenSpec.upto (s : _root_.Go.ChangeSpec) : _root_.Go.OpenSpec := { _root_.Go.OpenSpec.ofChange s with cond := some uptoSmall }

/-- 'headgatelaw12.TxnFolds', WHERE WHAT IT READS IS OF BULK AT MOST 1048576: true; the input reads as it did. -/
def txnFoldsUptoRow : OpenClaim := { program := "ytleongigmjhegaa", sum := "7bfd191197cab6427ee49178575ee9e21a89f1527e8992ed2652128f32ffdc5e", func := "headgate/headgatelaw12.TxnFolds", spec := "txnFolds", inPlace := ["slices.overlaps[headgate/api.Trans]"], unfollowed := true, recurses := true, apart := false, narrowed := true }
def TxnFoldsUptoSaid : Prop := txnFoldsUptoRow.holds Try.pinned (OpenSpec.upto txnFoldsSpec)

/-- 'headgatelaw12.TxnEpochs', WHERE WHAT IT READS IS OF BULK AT MOST 1048576: true; the input reads as it did. -/
def txnEpochsUptoRow : OpenClaim := { program := "ytleongigmjhegaa", sum := "7bfd191197cab6427ee49178575ee9e21a89f1527e8992ed2652128f32ffdc5e", func := "headgate/headgatelaw12.TxnEpochs", spec := "txnEpochs", inPlace := ["slices.overlaps[headgate/api.Trans]"], unfollowed := true, recurses := true, apart := false, narrowed := true }
def TxnEpochsUptoSaid : Prop := txnEpochsUptoRow.holds Try.pinned (OpenSpec.upto txnEpochsSpec)

/-- 'headgatelaw12.TxnDecides', WHERE WHAT IT READS IS OF BULK AT MOST 1048576: true; the input reads as it did. -/
def txnDecidesUptoRow : OpenClaim := { program := "ytleongigmjhegaa", sum := "7bfd191197cab6427ee49178575ee9e21a89f1527e8992ed2652128f32ffdc5e", func := "headgate/headgatelaw12.TxnDecides", spec := "txnDecides", inPlace := ["slices.overlaps[headgate/api.Trans]"], unfollowed := true, recurses := true, apart := false, narrowed := true }
def TxnDecidesUptoSaid : Prop := txnDecidesUptoRow.holds Try.pinned (OpenSpec.upto txnDecidesSpec)

/-- 'headgatelaw12.TxnEach', WHERE WHAT IT READS IS OF BULK AT MOST 1048576: true; the input reads as it did. -/
def txnEachUptoRow : OpenClaim := { program := "ytleongigmjhegaa", sum := "7bfd191197cab6427ee49178575ee9e21a89f1527e8992ed2652128f32ffdc5e", func := "headgate/headgatelaw12.TxnEach", spec := "txnEach", inPlace := ["slices.overlaps[headgate/api.Trans]"], unfollowed := true, recurses := true, apart := false, narrowed := true }
def TxnEachUptoSaid : Prop := txnEachUptoRow.holds Try.pinned (OpenSpec.upto txnEachSpec)

/-- 'headgatelaw12.TxnParts', WHERE WHAT IT READS IS OF BULK AT MOST 1048576: true; the input reads as it did. -/
def txnPartsUptoRow : OpenClaim := { program := "ytleongigmjhegaa", sum := "7bfd191197cab6427ee49178575ee9e21a89f1527e8992ed2652128f32ffdc5e", func := "headgate/headgatelaw12.TxnParts", spec := "txnParts", inPlace := ["slices.overlaps[headgate/api.Trans]"], unfollowed := true, recurses := true, apart := false, narrowed := true }
def TxnPartsUptoSaid : Prop := txnPartsUptoRow.holds Try.pinned (OpenSpec.upto txnPartsSpec)

/-- 'headgatelaw12.TxnCodes', WHERE WHAT IT READS IS OF BULK AT MOST 1048576: true; the input reads as it did. -/
def txnCodesUptoRow : OpenClaim := { program := "ytleongigmjhegaa", sum := "7bfd191197cab6427ee49178575ee9e21a89f1527e8992ed2652128f32ffdc5e", func := "headgate/headgatelaw12.TxnCodes", spec := "txnCodes", inPlace := ["slices.overlaps[headgate/api.Trans]", "internal/abi.NoEscape"], unfollowed := true, recurses := true, apart := false, narrowed := true }
def TxnCodesUptoSaid : Prop := txnCodesUptoRow.holds Try.pinned (OpenSpec.upto txnCodesSpec)

end Rows
end Go.Proofs.Ytleongigmjhegaa
