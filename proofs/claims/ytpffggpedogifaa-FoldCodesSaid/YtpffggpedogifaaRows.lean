/-
  No cell of these rows narrows 'for every input' (looked for: loops, veiled, ifaces, maps, wideKeys, modest, calm, conditions, laid).
  DERIVED. THE GIVEN ROWS OF THIS SEAT. 7 by the template 'for every input the law returns true; each argument reads behind the call as it read before'; 0 by the template 'total and deterministic' (their statements: YtpffggpedogifaaTotals.lean).
  GIVEN WITH THE SEED: the statements are not yours to turn. If you find one false, say at which input.
  Laid BY PROGRAM, IN A SANDBOX (cutbox-rows.mjs): the forced cells as the released guide's own fill.sh prints them over the translation 1d6b9da4ca7d842f… (all of the seat's roots in one cut). By AI agents, Wed Nov 11 2026. No macro, syntax, notation, axiom, sorry.
-/
import Derived.Test.YtpffggpedogifaaChecked
import GoSem.Claim
import GoSem.ClaimJoined
import GoSem.ClaimMapViews
import Derived.JoinedTies
import Derived.KernelRfl
namespace Go.Proofs.Ytpffggpedogifaa
/- THE CELL 'sum', in the pinned program and in every row, IS THE sha256 OF THE DUMP (.gsa) THAT YtpffggpedogifaaProg.lean LOADS. Nothing in Lean hashes anything: it is a label: what it is worth is what the hold of that sum in a sandbox is worth. -/
noncomputable def Try.pinned : Pinned := { name := "ytpffggpedogifaa", sum := "1d6b9da4ca7d842f142a18de691ca277f433e2f4badf541b1cc803f40bc0f409", checked := Try.checked }
namespace Rows
def none {H : Type} : Left H := { results := [], args := [] }

/-- 'headgatelaw15.FoldAdds': WHATEVER THE INPUT: true; the input reads as it did. -/
def foldAddsSpec : ChangeSpec := { name := "foldAdds", fn := fun _ => fun
  | [d1, d2] => { results := [.lit (.bool true)], args := [d1, d2] }
  | _ => none }
def foldAddsRow : OpenClaim := { program := "ytpffggpedogifaa", sum := "1d6b9da4ca7d842f142a18de691ca277f433e2f4badf541b1cc803f40bc0f409", func := "headgate/headgatelaw15.FoldAdds", spec := "foldAdds", apart := false }
def FoldAddsSaid : Prop := foldAddsRow.holds Try.pinned (OpenSpec.ofChange foldAddsSpec)

/-- ITS FALSE NEIGHBOUR: 'it returns false'. Refute it at one input. -/
def foldAddsWrong : ChangeSpec := { name := "foldAdds", fn := fun _ => fun
  | [d1, d2] => { results := [.lit (.bool false)], args := [d1, d2] }
  | _ => none }
def FoldAddsWrongFalsely : Prop := foldAddsRow.holds Try.pinned (OpenSpec.ofChange foldAddsWrong)

/-- 'headgatelaw15.FoldRows': WHATEVER THE INPUT: true; the input reads as it did. -/
def foldRowsSpec : ChangeSpec := { name := "foldRows", fn := fun _ => fun
  | [d1, d2] => { results := [.lit (.bool true)], args := [d1, d2] }
  | _ => none }
def foldRowsRow : OpenClaim := { program := "ytpffggpedogifaa", sum := "1d6b9da4ca7d842f142a18de691ca277f433e2f4badf541b1cc803f40bc0f409", func := "headgate/headgatelaw15.FoldRows", spec := "foldRows", apart := false }
def FoldRowsSaid : Prop := foldRowsRow.holds Try.pinned (OpenSpec.ofChange foldRowsSpec)

/-- ITS FALSE NEIGHBOUR: 'it returns false'. Refute it at one input. -/
def foldRowsWrong : ChangeSpec := { name := "foldRows", fn := fun _ => fun
  | [d1, d2] => { results := [.lit (.bool false)], args := [d1, d2] }
  | _ => none }
def FoldRowsWrongFalsely : Prop := foldRowsRow.holds Try.pinned (OpenSpec.ofChange foldRowsWrong)

/-- 'headgatelaw15.FoldOrder': WHATEVER THE INPUT: true; the input reads as it did. -/
def foldOrderSpec : ChangeSpec := { name := "foldOrder", fn := fun _ => fun
  | [d1, d2] => { results := [.lit (.bool true)], args := [d1, d2] }
  | _ => none }
def foldOrderRow : OpenClaim := { program := "ytpffggpedogifaa", sum := "1d6b9da4ca7d842f142a18de691ca277f433e2f4badf541b1cc803f40bc0f409", func := "headgate/headgatelaw15.FoldOrder", spec := "foldOrder", apart := false }
def FoldOrderSaid : Prop := foldOrderRow.holds Try.pinned (OpenSpec.ofChange foldOrderSpec)

/-- ITS FALSE NEIGHBOUR: 'it returns false'. Refute it at one input. -/
def foldOrderWrong : ChangeSpec := { name := "foldOrder", fn := fun _ => fun
  | [d1, d2] => { results := [.lit (.bool false)], args := [d1, d2] }
  | _ => none }
def FoldOrderWrongFalsely : Prop := foldOrderRow.holds Try.pinned (OpenSpec.ofChange foldOrderWrong)

/-- 'headgatelaw15.FoldSums': WHATEVER THE INPUT: true; the input reads as it did. -/
def foldSumsSpec : ChangeSpec := { name := "foldSums", fn := fun _ => fun
  | [d] => { results := [.lit (.bool true)], args := [d] }
  | _ => none }
def foldSumsRow : OpenClaim := { program := "ytpffggpedogifaa", sum := "1d6b9da4ca7d842f142a18de691ca277f433e2f4badf541b1cc803f40bc0f409", func := "headgate/headgatelaw15.FoldSums", spec := "foldSums", apart := false }
def FoldSumsSaid : Prop := foldSumsRow.holds Try.pinned (OpenSpec.ofChange foldSumsSpec)

/-- ITS FALSE NEIGHBOUR: 'it returns false'. Refute it at one input. -/
def foldSumsWrong : ChangeSpec := { name := "foldSums", fn := fun _ => fun
  | [d] => { results := [.lit (.bool false)], args := [d] }
  | _ => none }
def FoldSumsWrongFalsely : Prop := foldSumsRow.holds Try.pinned (OpenSpec.ofChange foldSumsWrong)

/-- 'headgatelaw15.FoldCounts': WHATEVER THE INPUT: true; the input reads as it did. -/
def foldCountsSpec : ChangeSpec := { name := "foldCounts", fn := fun _ => fun
  | [d] => { results := [.lit (.bool true)], args := [d] }
  | _ => none }
def foldCountsRow : OpenClaim := { program := "ytpffggpedogifaa", sum := "1d6b9da4ca7d842f142a18de691ca277f433e2f4badf541b1cc803f40bc0f409", func := "headgate/headgatelaw15.FoldCounts", spec := "foldCounts", apart := false }
def FoldCountsSaid : Prop := foldCountsRow.holds Try.pinned (OpenSpec.ofChange foldCountsSpec)

/-- ITS FALSE NEIGHBOUR: 'it returns false'. Refute it at one input. -/
def foldCountsWrong : ChangeSpec := { name := "foldCounts", fn := fun _ => fun
  | [d] => { results := [.lit (.bool false)], args := [d] }
  | _ => none }
def FoldCountsWrongFalsely : Prop := foldCountsRow.holds Try.pinned (OpenSpec.ofChange foldCountsWrong)

/-- 'headgatelaw15.FoldCodes': WHATEVER THE INPUT: true; the input reads as it did. -/
def foldCodesSpec : ChangeSpec := { name := "foldCodes", fn := fun _ => fun
  | [d1, d2] => { results := [.lit (.bool true)], args := [d1, d2] }
  | _ => none }
def foldCodesRow : OpenClaim := { program := "ytpffggpedogifaa", sum := "1d6b9da4ca7d842f142a18de691ca277f433e2f4badf541b1cc803f40bc0f409", func := "headgate/headgatelaw15.FoldCodes", spec := "foldCodes", inPlace := ["internal/abi.NoEscape"], apart := false }
def FoldCodesSaid : Prop := foldCodesRow.holds Try.pinned (OpenSpec.ofChange foldCodesSpec)

/-- ITS FALSE NEIGHBOUR: 'it returns false'. Refute it at one input. -/
def foldCodesWrong : ChangeSpec := { name := "foldCodes", fn := fun _ => fun
  | [d1, d2] => { results := [.lit (.bool false)], args := [d1, d2] }
  | _ => none }
def FoldCodesWrongFalsely : Prop := foldCodesRow.holds Try.pinned (OpenSpec.ofChange foldCodesWrong)

/-- 'headgatelaw15.FoldBack': WHATEVER THE INPUT: true; the input reads as it did. -/
def foldBackSpec : ChangeSpec := { name := "foldBack", fn := fun _ => fun
  | [d1, d2] => { results := [.lit (.bool true)], args := [d1, d2] }
  | _ => none }
def foldBackRow : OpenClaim := { program := "ytpffggpedogifaa", sum := "1d6b9da4ca7d842f142a18de691ca277f433e2f4badf541b1cc803f40bc0f409", func := "headgate/headgatelaw15.FoldBack", spec := "foldBack", inPlace := ["internal/abi.NoEscape"], apart := false }
def FoldBackSaid : Prop := foldBackRow.holds Try.pinned (OpenSpec.ofChange foldBackSpec)

/-- ITS FALSE NEIGHBOUR: 'it returns false'. Refute it at one input. -/
def foldBackWrong : ChangeSpec := { name := "foldBack", fn := fun _ => fun
  | [d1, d2] => { results := [.lit (.bool false)], args := [d1, d2] }
  | _ => none }
def FoldBackWrongFalsely : Prop := foldBackRow.holds Try.pinned (OpenSpec.ofChange foldBackWrong)

/- THE SECOND FORM. 'bulk': how many values and letters a reading holds, each counted each time it is reached (what is shared counts as often as it is met; a slice's spare places count too). A statement '..UptoSaid' is the law's where the arguments, and the package variables that the reading takes, are together of bulk at most 1048576: NARROWER than '..Said'. Prove '..Said' where nothing that the law and all that it calls make is longer than what came in: it says more and counts as full. Else prove '..UptoSaid'. A law counts once. -/
mutual
def uptoBulk {H : Type} : DataW H → Nat
  | .lit (.string bytes) => bytes.length + 1
  | .lit _ => 1
  | .nil => 1
  | .ptr d => uptoBulk d + 1
  | .slice elems spare => uptoBulkAll elems + uptoBulkAll spare + 1
  | .agg parts => uptoBulkAll parts + 1
  | .iface _ d => uptoBulk d + 1
  | .map entries => uptoBulkEntries entries + 1
  | .held _ => 1
def uptoBulkAll {H : Type} : List (DataW H) → Nat
  | [] => 0
  | d :: r => uptoBulk d + uptoBulkAll r
def uptoBulkEntries {H : Type} : List (Lit × DataW H) → Nat
  | [] => 0
  | x :: r => uptoBulkEntry x + uptoBulkEntries r
def uptoBulkEntry {H : Type} : Lit × DataW H → Nat
  | (.string bytes, d) => bytes.length + uptoBulk d + 1
  | (_, d) => uptoBulk d + 1
 end
def uptoSmall : (H : Type) → List (DataW H) → Bool := fun _ ds => decide (uptoBulkAll ds ≤ 1048576)
def OpenSpec.upto (s : _root_.Go.ChangeSpec) : _root_.Go.OpenSpec := { _root_.Go.OpenSpec.ofChange s with cond := some uptoSmall }

/-- 'headgatelaw15.FoldAdds', WHERE WHAT IT READS IS OF BULK AT MOST 1048576: true; the input reads as it did. -/
def foldAddsUptoRow : OpenClaim := { program := "ytpffggpedogifaa", sum := "1d6b9da4ca7d842f142a18de691ca277f433e2f4badf541b1cc803f40bc0f409", func := "headgate/headgatelaw15.FoldAdds", spec := "foldAdds", apart := false, narrowed := true }
def FoldAddsUptoSaid : Prop := foldAddsUptoRow.holds Try.pinned (OpenSpec.upto foldAddsSpec)

/-- 'headgatelaw15.FoldRows', WHERE WHAT IT READS IS OF BULK AT MOST 1048576: true; the input reads as it did. -/
def foldRowsUptoRow : OpenClaim := { program := "ytpffggpedogifaa", sum := "1d6b9da4ca7d842f142a18de691ca277f433e2f4badf541b1cc803f40bc0f409", func := "headgate/headgatelaw15.FoldRows", spec := "foldRows", apart := false, narrowed := true }
def FoldRowsUptoSaid : Prop := foldRowsUptoRow.holds Try.pinned (OpenSpec.upto foldRowsSpec)

/-- 'headgatelaw15.FoldOrder', WHERE WHAT IT READS IS OF BULK AT MOST 1048576: true; the input reads as it did. -/
def foldOrderUptoRow : OpenClaim := { program := "ytpffggpedogifaa", sum := "1d6b9da4ca7d842f142a18de691ca277f433e2f4badf541b1cc803f40bc0f409", func := "headgate/headgatelaw15.FoldOrder", spec := "foldOrder", apart := false, narrowed := true }
def FoldOrderUptoSaid : Prop := foldOrderUptoRow.holds Try.pinned (OpenSpec.upto foldOrderSpec)

/-- 'headgatelaw15.FoldSums', WHERE WHAT IT READS IS OF BULK AT MOST 1048576: true; the input reads as it did. -/
def foldSumsUptoRow : OpenClaim := { program := "ytpffggpedogifaa", sum := "1d6b9da4ca7d842f142a18de691ca277f433e2f4badf541b1cc803f40bc0f409", func := "headgate/headgatelaw15.FoldSums", spec := "foldSums", apart := false, narrowed := true }
def FoldSumsUptoSaid : Prop := foldSumsUptoRow.holds Try.pinned (OpenSpec.upto foldSumsSpec)

/-- 'headgatelaw15.FoldCounts', WHERE WHAT IT READS IS OF BULK AT MOST 1048576: true; the input reads as it did. -/
def foldCountsUptoRow : OpenClaim := { program := "ytpffggpedogifaa", sum := "1d6b9da4ca7d842f142a18de691ca277f433e2f4badf541b1cc803f40bc0f409", func := "headgate/headgatelaw15.FoldCounts", spec := "foldCounts", apart := false, narrowed := true }
def FoldCountsUptoSaid : Prop := foldCountsUptoRow.holds Try.pinned (OpenSpec.upto foldCountsSpec)

/-- 'headgatelaw15.FoldCodes', WHERE WHAT IT READS IS OF BULK AT MOST 1048576: true; the input reads as it did. -/
def foldCodesUptoRow : OpenClaim := { program := "ytpffggpedogifaa", sum := "1d6b9da4ca7d842f142a18de691ca277f433e2f4badf541b1cc803f40bc0f409", func := "headgate/headgatelaw15.FoldCodes", spec := "foldCodes", inPlace := ["internal/abi.NoEscape"], apart := false, narrowed := true }
def FoldCodesUptoSaid : Prop := foldCodesUptoRow.holds Try.pinned (OpenSpec.upto foldCodesSpec)

/-- 'headgatelaw15.FoldBack', WHERE WHAT IT READS IS OF BULK AT MOST 1048576: true; the input reads as it did. -/
def foldBackUptoRow : OpenClaim := { program := "ytpffggpedogifaa", sum := "1d6b9da4ca7d842f142a18de691ca277f433e2f4badf541b1cc803f40bc0f409", func := "headgate/headgatelaw15.FoldBack", spec := "foldBack", inPlace := ["internal/abi.NoEscape"], apart := false, narrowed := true }
def FoldBackUptoSaid : Prop := foldBackUptoRow.holds Try.pinned (OpenSpec.upto foldBackSpec)

end Rows
end Go.Proofs.Ytpffggpedogifaa
