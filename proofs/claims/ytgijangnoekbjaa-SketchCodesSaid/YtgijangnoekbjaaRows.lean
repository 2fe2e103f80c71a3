/-
  No cell of these rows narrows 'for every input' (looked for: loops, veiled, ifaces, maps, wideKeys, modest, calm, conditions, laid).
  DERIVED. THE GIVEN ROWS OF THIS SEAT. 8 by the template 'for every input the law returns true; each argument reads behind the call as it read before'; 0 by the template 'total and deterministic' (their statements: YtgijangnoekbjaaTotals.lean).
  GIVEN WITH THE SEED: the statements are not yours to turn. If you find one false, say at which input.
  Laid BY PROGRAM, IN A SANDBOX (cutbox-rows.mjs): the forced cells as the released guide's own fill.sh prints them over the translation 2731bf906f653ad3… (all of the seat's roots in one cut). By AI agents, Wed Nov 11 2026. No macro, syntax, notation, axiom, sorry.
-/
import Derived.Test.YtgijangnoekbjaaChecked
import GoSem.Claim
import GoSem.ClaimJoined
import GoSem.ClaimMapViews
import Derived.JoinedTies
import Derived.KernelRfl
namespace Go.Proofs.Ytgijangnoekbjaa
/- THE CELL 'sum', in the pinned program and in every row, IS THE sha256 OF THE DUMP (.gsa) THAT YtgijangnoekbjaaProg.lean LOADS. Nothing in Lean hashes anything: it is a label: what it is worth is what the hold of that sum in a sandbox is worth. -/
noncomputable def Try.pinned : Pinned := { name := "ytgijangnoekbjaa", sum := "2731bf906f653ad3db005ef5441a49dec592b3075b26db9365c39d847889d82e", checked := Try.checked }
namespace Rows
def none {H : Type} : Left H := { results := [], args := [] }

/-- 'headgatelaw29.SketchOf': WHATEVER THE INPUT: true; the input reads as it did. -/
def sketchOfSpec : ChangeSpec := { name := "sketchOf", fn := fun _ => fun
  | [d1, d2] => { results := [.lit (.bool true)], args := [d1, d2] }
  | _ => none }
def sketchOfRow : OpenClaim := { program := "ytgijangnoekbjaa", sum := "2731bf906f653ad3db005ef5441a49dec592b3075b26db9365c39d847889d82e", func := "headgate/headgatelaw29.SketchOf", spec := "sketchOf", recurses := true, apart := false }
def SketchOfSaid : Prop := sketchOfRow.holds Try.pinned (OpenSpec.ofChange sketchOfSpec)

/-- ITS FALSE NEIGHBOUR: 'it returns false'. Refute it at one input. -/
def sketchOfWrong : ChangeSpec := { name := "sketchOf", fn := fun _ => fun
  | [d1, d2] => { results := [.lit (.bool false)], args := [d1, d2] }
  | _ => none }
def SketchOfWrongFalsely : Prop := sketchOfRow.holds Try.pinned (OpenSpec.ofChange sketchOfWrong)

/-- 'headgatelaw29.SketchEnds': WHATEVER THE INPUT: true; the input reads as it did. -/
def sketchEndsSpec : ChangeSpec := { name := "sketchEnds", fn := fun _ => fun
  | [d1, d2] => { results := [.lit (.bool true)], args := [d1, d2] }
  | _ => none }
def sketchEndsRow : OpenClaim := { program := "ytgijangnoekbjaa", sum := "2731bf906f653ad3db005ef5441a49dec592b3075b26db9365c39d847889d82e", func := "headgate/headgatelaw29.SketchEnds", spec := "sketchEnds", apart := false }
def SketchEndsSaid : Prop := sketchEndsRow.holds Try.pinned (OpenSpec.ofChange sketchEndsSpec)

/-- ITS FALSE NEIGHBOUR: 'it returns false'. Refute it at one input. -/
def sketchEndsWrong : ChangeSpec := { name := "sketchEnds", fn := fun _ => fun
  | [d1, d2] => { results := [.lit (.bool false)], args := [d1, d2] }
  | _ => none }
def SketchEndsWrongFalsely : Prop := sketchEndsRow.holds Try.pinned (OpenSpec.ofChange sketchEndsWrong)

/-- 'headgatelaw29.SketchQuantiles': WHATEVER THE INPUT: true; the input reads as it did. -/
def sketchQuantilesSpec : ChangeSpec := { name := "sketchQuantiles", fn := fun _ => fun
  | [d1, d2, d3] => { results := [.lit (.bool true)], args := [d1, d2, d3] }
  | _ => none }
def sketchQuantilesRow : OpenClaim := { program := "ytgijangnoekbjaa", sum := "2731bf906f653ad3db005ef5441a49dec592b3075b26db9365c39d847889d82e", func := "headgate/headgatelaw29.SketchQuantiles", spec := "sketchQuantiles", apart := false }
def SketchQuantilesSaid : Prop := sketchQuantilesRow.holds Try.pinned (OpenSpec.ofChange sketchQuantilesSpec)

/-- ITS FALSE NEIGHBOUR: 'it returns false'. Refute it at one input. -/
def sketchQuantilesWrong : ChangeSpec := { name := "sketchQuantiles", fn := fun _ => fun
  | [d1, d2, d3] => { results := [.lit (.bool false)], args := [d1, d2, d3] }
  | _ => none }
def SketchQuantilesWrongFalsely : Prop := sketchQuantilesRow.holds Try.pinned (OpenSpec.ofChange sketchQuantilesWrong)

/-- 'headgatelaw29.SketchCodes': WHATEVER THE INPUT: true; the input reads as it did. -/
def sketchCodesSpec : ChangeSpec := { name := "sketchCodes", fn := fun _ => fun
  | [d1, d2] => { results := [.lit (.bool true)], args := [d1, d2] }
  | _ => none }
def sketchCodesRow : OpenClaim := { program := "ytgijangnoekbjaa", sum := "2731bf906f653ad3db005ef5441a49dec592b3075b26db9365c39d847889d82e", func := "headgate/headgatelaw29.SketchCodes", spec := "sketchCodes", inPlace := ["internal/abi.NoEscape"], apart := false }
def SketchCodesSaid : Prop := sketchCodesRow.holds Try.pinned (OpenSpec.ofChange sketchCodesSpec)

/-- ITS FALSE NEIGHBOUR: 'it returns false'. Refute it at one input. -/
def sketchCodesWrong : ChangeSpec := { name := "sketchCodes", fn := fun _ => fun
  | [d1, d2] => { results := [.lit (.bool false)], args := [d1, d2] }
  | _ => none }
def SketchCodesWrongFalsely : Prop := sketchCodesRow.holds Try.pinned (OpenSpec.ofChange sketchCodesWrong)

/-- 'headgatelaw29.SketchAdds': WHATEVER THE INPUT: true; the input reads as it did. -/
def sketchAddsSpec : ChangeSpec := { name := "sketchAdds", fn := fun _ => fun
  | [d1, d2] => { results := [.lit (.bool true)], args := [d1, d2] }
  | _ => none }
def sketchAddsRow : OpenClaim := { program := "ytgijangnoekbjaa", sum := "2731bf906f653ad3db005ef5441a49dec592b3075b26db9365c39d847889d82e", func := "headgate/headgatelaw29.SketchAdds", spec := "sketchAdds", inPlace := ["slices.overlaps[headgate/api.Bucket]"], unfollowed := true, recurses := true, apart := false }
def SketchAddsSaid : Prop := sketchAddsRow.holds Try.pinned (OpenSpec.ofChange sketchAddsSpec)

/-- ITS FALSE NEIGHBOUR: 'it returns false'. Refute it at one input. -/
def sketchAddsWrong : ChangeSpec := { name := "sketchAdds", fn := fun _ => fun
  | [d1, d2] => { results := [.lit (.bool false)], args := [d1, d2] }
  | _ => none }
def SketchAddsWrongFalsely : Prop := sketchAddsRow.holds Try.pinned (OpenSpec.ofChange sketchAddsWrong)

/-- 'headgatelaw29.SketchMerges': WHATEVER THE INPUT: true; the input reads as it did. -/
def sketchMergesSpec : ChangeSpec := { name := "sketchMerges", fn := fun _ => fun
  | [d1, d2] => { results := [.lit (.bool true)], args := [d1, d2] }
  | _ => none }
def sketchMergesRow : OpenClaim := { program := "ytgijangnoekbjaa", sum := "2731bf906f653ad3db005ef5441a49dec592b3075b26db9365c39d847889d82e", func := "headgate/headgatelaw29.SketchMerges", spec := "sketchMerges", inPlace := ["slices.overlaps[headgate/api.Bucket]"], unfollowed := true, recurses := true, apart := false }
def SketchMergesSaid : Prop := sketchMergesRow.holds Try.pinned (OpenSpec.ofChange sketchMergesSpec)

/-- ITS FALSE NEIGHBOUR: 'it returns false'. Refute it at one input. -/
def sketchMergesWrong : ChangeSpec := { name := "sketchMerges", fn := fun _ => fun
  | [d1, d2] => { results := [.lit (.bool false)], args := [d1, d2] }
  | _ => none }
def SketchMergesWrongFalsely : Prop := sketchMergesRow.holds Try.pinned (OpenSpec.ofChange sketchMergesWrong)

/-- 'headgatelaw29.SketchParts': WHATEVER THE INPUT: true; the input reads as it did. -/
def sketchPartsSpec : ChangeSpec := { name := "sketchParts", fn := fun _ => fun
  | [d1, d2] => { results := [.lit (.bool true)], args := [d1, d2] }
  | _ => none }
def sketchPartsRow : OpenClaim := { program := "ytgijangnoekbjaa", sum := "2731bf906f653ad3db005ef5441a49dec592b3075b26db9365c39d847889d82e", func := "headgate/headgatelaw29.SketchParts", spec := "sketchParts", inPlace := ["slices.overlaps[headgate/api.Bucket]"], unfollowed := true, recurses := true, apart := false }
def SketchPartsSaid : Prop := sketchPartsRow.holds Try.pinned (OpenSpec.ofChange sketchPartsSpec)

/-- ITS FALSE NEIGHBOUR: 'it returns false'. Refute it at one input. -/
def sketchPartsWrong : ChangeSpec := { name := "sketchParts", fn := fun _ => fun
  | [d1, d2] => { results := [.lit (.bool false)], args := [d1, d2] }
  | _ => none }
def SketchPartsWrongFalsely : Prop := sketchPartsRow.holds Try.pinned (OpenSpec.ofChange sketchPartsWrong)

/-- 'headgatelaw29.SketchTells': WHATEVER THE INPUT: true; the input reads as it did. -/
def sketchTellsSpec : ChangeSpec := { name := "sketchTells", fn := fun _ => fun
  | [d1, d2, d3] => { results := [.lit (.bool true)], args := [d1, d2, d3] }
  | _ => none }
def sketchTellsRow : OpenClaim := { program := "ytgijangnoekbjaa", sum := "2731bf906f653ad3db005ef5441a49dec592b3075b26db9365c39d847889d82e", func := "headgate/headgatelaw29.SketchTells", spec := "sketchTells", inPlace := ["slices.overlaps[headgate/api.Bucket]"], unfollowed := true, recurses := true, apart := false }
def SketchTellsSaid : Prop := sketchTellsRow.holds Try.pinned (OpenSpec.ofChange sketchTellsSpec)

/-- ITS FALSE NEIGHBOUR: 'it returns false'. Refute it at one input. -/
def sketchTellsWrong : ChangeSpec := { name := "sketchTells", fn := fun _ => fun
  | [d1, d2, d3] => { results := [.lit (.bool false)], args := [d1, d2, d3] }
  | _ => none }
def SketchTellsWrongFalsely : Prop := sketchTellsRow.holds Try.pinned (OpenSpec.ofChange sketchTellsWrong)

/- THE SECOND FORM. 'bulk': how many values and letters a reading holds, each counted each time it is reached (what is shared counts as often as it is met; a slice's spare places count too). A statement '..UptoSaid' is the law's where the arguments, and the package variables that the reading takes, are together of bulk at most 1048576: NARROWER than '..Said'. Prove '..Said' where nothing that the law and all that it calls make is longer than what came in: it says more and counts as full. Else prove '..UptoSaid'. A law counts once. -/
mutual
def uptoBulk {H : Type} : DataW H → Nat
  | .lit (.string bytes) => bytes.length + 1
  | .lit _ => 1
  | .nil => 1
  | .ptr d => uptoBulk d + 1
  | .slice elems spare => uptoBulkAll elems + uptoBulkAll spare + 1
  | .agg parts => uptoBulkAll parts + 1
  | .iface _ d => uptoBulk d + 1
  | .map entries => uptoBulkEntries entries + 1
  | .held _ => 1
def uptoBulkAll {H : Type} : List (DataW H) → Nat
  | [] => 0
  | d :: r => uptoBulk d + uptoBulkAll r
def uptoBulkEntries {H : Type} : List (Lit × DataW H) → Nat
  | [] => 0
  | x :: r => uptoBulkEntry x + uptoBulkEntries r
def uptoBulkEntry {H : Type} : Lit × DataW H → Nat
  | (.string bytes, d) => bytes.length + uptoBulk d + 1
  | (_, d) => uptoBulk d + 1
 end
def uptoSmall : (H : Type) → List (DataW H) → Bool := fun _ ds => decide (uptoBulkAll ds ≤ 1048576)
def OpenSpec.upto (s : _root_.Go.ChangeSpec) : _root_.Go.OpenSpec := { _root_.Go.OpenSpec.ofChange s with cond := some uptoSmall }

/-- 'headgatelaw29.SketchOf', WHERE WHAT IT READS IS OF BULK AT MOST 1048576: true; the input reads as it did. -/
def sketchOfUptoRow : OpenClaim := { program := "ytgijangnoekbjaa", sum := "2731bf906f653ad3db005ef5441a49dec592b3075b26db9365c39d847889d82e", func := "headgate/headgatelaw29.SketchOf", spec := "sketchOf", recurses := true, apart := false, narrowed := true }
def SketchOfUptoSaid : Prop := sketchOfUptoRow.holds Try.pinned (OpenSpec.upto sketchOfSpec)

/-- 'headgatelaw29.SketchEnds', WHERE WHAT IT READS IS OF BULK AT MOST 1048576: true; the input reads as it did. -/
def sketchEndsUptoRow : OpenClaim := { program := "ytgijangnoekbjaa", sum := "2731bf906f653ad3db005ef5441a49dec592b3075b26db9365c39d847889d82e", func := "headgate/headgatelaw29.SketchEnds", spec := "sketchEnds", apart := false, narrowed := true }
def SketchEndsUptoSaid : Prop := sketchEndsUptoRow.holds Try.pinned (OpenSpec.upto sketchEndsSpec)

/-- 'headgatelaw29.SketchQuantiles', WHERE WHAT IT READS IS OF BULK AT MOST 1048576: true; the input reads as it did. -/
def sketchQuantilesUptoRow : OpenClaim := { program := "ytgijangnoekbjaa", sum := "2731bf906f653ad3db005ef5441a49dec592b3075b26db9365c39d847889d82e", func := "headgate/headgatelaw29.SketchQuantiles", spec := "sketchQuantiles", apart := false, narrowed := true }
def SketchQuantilesUptoSaid : Prop := sketchQuantilesUptoRow.holds Try.pinned (OpenSpec.upto sketchQuantilesSpec)

/-- 'headgatelaw29.SketchCodes', WHERE WHAT IT READS IS OF BULK AT MOST 1048576: true; the input reads as it did. -/
def sketchCodesUptoRow : OpenClaim := { program := "ytgijangnoekbjaa", sum := "2731bf906f653ad3db005ef5441a49dec592b3075b26db9365c39d847889d82e", func := "headgate/headgatelaw29.SketchCodes", spec := "sketchCodes", inPlace := ["internal/abi.NoEscape"], apart := false, narrowed := true }
def SketchCodesUptoSaid : Prop := sketchCodesUptoRow.holds Try.pinned (OpenSpec.upto sketchCodesSpec)

/-- 'headgatelaw29.SketchAdds', WHERE WHAT IT READS IS OF BULK AT MOST 1048576: true; the input reads as it did. -/
def sketchAddsUptoRow : OpenClaim := { program := "ytgijangnoekbjaa", sum := "2731bf906f653ad3db005ef5441a49dec592b3075b26db9365c39d847889d82e", func := "headgate/headgatelaw29.SketchAdds", spec := "sketchAdds", inPlace := ["slices.overlaps[headgate/api.Bucket]"], unfollowed := true, recurses := true, apart := false, narrowed := true }
def SketchAddsUptoSaid : Prop := sketchAddsUptoRow.holds Try.pinned (OpenSpec.upto sketchAddsSpec)

/-- 'headgatelaw29.SketchMerges', WHERE WHAT IT READS IS OF BULK AT MOST 1048576: true; the input reads as it did. -/
def sketchMergesUptoRow : OpenClaim := { program := "ytgijangnoekbjaa", sum := "2731bf906f653ad3db005ef5441a49dec592b3075b26db9365c39d847889d82e", func := "headgate/headgatelaw29.SketchMerges", spec := "sketchMerges", inPlace := ["slices.overlaps[headgate/api.Bucket]"], unfollowed := true, recurses := true, apart := false, narrowed := true }
def SketchMergesUptoSaid : Prop := sketchMergesUptoRow.holds Try.pinned (OpenSpec.upto sketchMergesSpec)

/-- 'headgatelaw29.SketchParts', WHERE WHAT IT READS IS OF BULK AT MOST 1048576: true; the input reads as it did. -/
def sketchPartsUptoRow : OpenClaim := { program := "ytgijangnoekbjaa", sum := "2731bf906f653ad3db005ef5441a49dec592b3075b26db9365c39d847889d82e", func := "headgate/headgatelaw29.SketchParts", spec := "sketchParts", inPlace := ["slices.overlaps[headgate/api.Bucket]"], unfollowed := true, recurses := true, apart := false, narrowed := true }
def SketchPartsUptoSaid : Prop := sketchPartsUptoRow.holds Try.pinned (OpenSpec.upto sketchPartsSpec)

/-- 'headgatelaw29.SketchTells', WHERE WHAT IT READS IS OF BULK AT MOST 1048576: true; the input reads as it did. -/
def sketchTellsUptoRow : OpenClaim := { program := "ytgijangnoekbjaa", sum := "2731bf906f653ad3db005ef5441a49dec592b3075b26db9365c39d847889d82e", func := "headgate/headgatelaw29.SketchTells", spec := "sketchTells", inPlace := ["slices.overlaps[headgate/api.Bucket]"], unfollowed := true, recurses := true, apart := false, narrowed := true }
def SketchTellsUptoSaid : Prop := sketchTellsUptoRow.holds Try.pinned (OpenSpec.upto sketchTellsSpec)

end Rows
end Go.Proofs.Ytgijangnoekbjaa
