/-
  No cell of these rows narrows 'for every input' (looked for: loops, veiled, ifaces, maps, wideKeys, modest, calm, conditions, laid).
  DERIVED. THE GIVEN ROWS OF THIS SEAT. 5 by the template 'for every input the law returns true; each argument reads behind the call as it read before'; 0 by the template 'total and deterministic' (their statements: YthoegjpcjclbjaaTotals.lean).
  GIVEN WITH THE SEED: the statements are not yours to turn. If you find one false, say at which input.
  Laid BY PROGRAM, IN A SANDBOX (cutbox-rows.mjs): the forced cells as the released guide's own fill.sh prints them over the translation 66e84ee1232f3558… (all of the seat's roots in one cut). By AI agents, Wed Nov 11 2026. No macro, syntax, notation, axiom, sorry.
-/
import Derived.Test.YthoegjpcjclbjaaChecked
import GoSem.Claim
import GoSem.ClaimJoined
import GoSem.ClaimMapViews
import Derived.JoinedTies
import Derived.KernelRfl
namespace Go.Proofs.Ythoegjpcjclbjaa
/- THE CELL 'sum', in the pinned program and in every row, IS THE sha256 OF THE DUMP (.gsa) THAT YthoegjpcjclbjaaProg.lean LOADS. Nothing in Lean hashes anything: it is a label: what it is worth is what the hold of that sum in a sandbox is worth. -/
noncomputable def Try.pinned : Pinned := { name := "ythoegjpcjclbjaa", sum := "66e84ee1232f3558976cfea521141edb08df5b3808e5bc1e4aefab1c86b23ada", checked := Try.checked }
namespace Rows
def none {H : Type} : Left H := { results := [], args := [] }

/-- 'headgatelaw07.DedupLooks': WHATEVER THE INPUT: true; the input reads as it did. -/
def dedupLooksSpec : ChangeSpec := { name := "dedupLooks", fn := fun _ => fun
  | [d1, d2] => { results := [.lit (.bool true)], args := [d1, d2] }
  | _ => none }
def dedupLooksRow : OpenClaim := { program := "ythoegjpcjclbjaa", sum := "66e84ee1232f3558976cfea521141edb08df5b3808e5bc1e4aefab1c86b23ada", func := "headgate/headgatelaw07.DedupLooks", spec := "dedupLooks", inPlace := ["slices.overlaps[headgate/api.Prod]"], unfollowed := true, recurses := true, apart := false }
def DedupLooksSaid : Prop := dedupLooksRow.holds Try.pinned (OpenSpec.ofChange dedupLooksSpec)

/-- ITS FALSE NEIGHBOUR: 'it returns false'. Refute it at one input. -/
def dedupLooksWrong : ChangeSpec := { name := "dedupLooks", fn := fun _ => fun
  | [d1, d2] => { results := [.lit (.bool false)], args := [d1, d2] }
  | _ => none }
def DedupLooksWrongFalsely : Prop := dedupLooksRow.holds Try.pinned (OpenSpec.ofChange dedupLooksWrong)

/-- 'headgatelaw07.DedupNotes': WHATEVER THE INPUT: true; the input reads as it did. -/
def dedupNotesSpec : ChangeSpec := { name := "dedupNotes", fn := fun _ => fun
  | [d1, d2, d3] => { results := [.lit (.bool true)], args := [d1, d2, d3] }
  | _ => none }
def dedupNotesRow : OpenClaim := { program := "ythoegjpcjclbjaa", sum := "66e84ee1232f3558976cfea521141edb08df5b3808e5bc1e4aefab1c86b23ada", func := "headgate/headgatelaw07.DedupNotes", spec := "dedupNotes", inPlace := ["slices.overlaps[headgate/api.Prod]"], unfollowed := true, recurses := true, apart := false }
def DedupNotesSaid : Prop := dedupNotesRow.holds Try.pinned (OpenSpec.ofChange dedupNotesSpec)

/-- ITS FALSE NEIGHBOUR: 'it returns false'. Refute it at one input. -/
def dedupNotesWrong : ChangeSpec := { name := "dedupNotes", fn := fun _ => fun
  | [d1, d2, d3] => { results := [.lit (.bool false)], args := [d1, d2, d3] }
  | _ => none }
def DedupNotesWrongFalsely : Prop := dedupNotesRow.holds Try.pinned (OpenSpec.ofChange dedupNotesWrong)

/-- 'headgatelaw07.DedupOnce': WHATEVER THE INPUT: true; the input reads as it did. -/
def dedupOnceSpec : ChangeSpec := { name := "dedupOnce", fn := fun _ => fun
  | [d] => { results := [.lit (.bool true)], args := [d] }
  | _ => none }
def dedupOnceRow : OpenClaim := { program := "ythoegjpcjclbjaa", sum := "66e84ee1232f3558976cfea521141edb08df5b3808e5bc1e4aefab1c86b23ada", func := "headgate/headgatelaw07.DedupOnce", spec := "dedupOnce", inPlace := ["slices.overlaps[headgate/api.Prod]"], unfollowed := true, recurses := true, apart := false }
def DedupOnceSaid : Prop := dedupOnceRow.holds Try.pinned (OpenSpec.ofChange dedupOnceSpec)

/-- ITS FALSE NEIGHBOUR: 'it returns false'. Refute it at one input. -/
def dedupOnceWrong : ChangeSpec := { name := "dedupOnce", fn := fun _ => fun
  | [d] => { results := [.lit (.bool false)], args := [d] }
  | _ => none }
def DedupOnceWrongFalsely : Prop := dedupOnceRow.holds Try.pinned (OpenSpec.ofChange dedupOnceWrong)

/-- 'headgatelaw07.DedupAgain': WHATEVER THE INPUT: true; the input reads as it did. -/
def dedupAgainSpec : ChangeSpec := { name := "dedupAgain", fn := fun _ => fun
  | [d] => { results := [.lit (.bool true)], args := [d] }
  | _ => none }
def dedupAgainRow : OpenClaim := { program := "ythoegjpcjclbjaa", sum := "66e84ee1232f3558976cfea521141edb08df5b3808e5bc1e4aefab1c86b23ada", func := "headgate/headgatelaw07.DedupAgain", spec := "dedupAgain", inPlace := ["slices.overlaps[headgate/api.Prod]"], unfollowed := true, recurses := true, apart := false }
def DedupAgainSaid : Prop := dedupAgainRow.holds Try.pinned (OpenSpec.ofChange dedupAgainSpec)

/-- ITS FALSE NEIGHBOUR: 'it returns false'. Refute it at one input. -/
def dedupAgainWrong : ChangeSpec := { name := "dedupAgain", fn := fun _ => fun
  | [d] => { results := [.lit (.bool false)], args := [d] }
  | _ => none }
def DedupAgainWrongFalsely : Prop := dedupAgainRow.holds Try.pinned (OpenSpec.ofChange dedupAgainWrong)

/-- 'headgatelaw07.DedupFences': WHATEVER THE INPUT: true; the input reads as it did. -/
def dedupFencesSpec : ChangeSpec := { name := "dedupFences", fn := fun _ => fun
  | [d1, d2, d3, d4, d5] => { results := [.lit (.bool true)], args := [d1, d2, d3, d4, d5] }
  | _ => none }
def dedupFencesRow : OpenClaim := { program := "ythoegjpcjclbjaa", sum := "66e84ee1232f3558976cfea521141edb08df5b3808e5bc1e4aefab1c86b23ada", func := "headgate/headgatelaw07.DedupFences", spec := "dedupFences", inPlace := ["slices.overlaps[headgate/api.Prod]"], unfollowed := true, recurses := true, apart := false }
def DedupFencesSaid : Prop := dedupFencesRow.holds Try.pinned (OpenSpec.ofChange dedupFencesSpec)

/-- ITS FALSE NEIGHBOUR: 'it returns false'. Refute it at one input. -/
def dedupFencesWrong : ChangeSpec := { name := "dedupFences", fn := fun _ => fun
  | [d1, d2, d3, d4, d5] => { results := [.lit (.bool false)], args := [d1, d2, d3, d4, d5] }
  | _ => none }
def DedupFencesWrongFalsely : Prop := dedupFencesRow.holds Try.pinned (OpenSpec.ofChange dedupFencesWrong)

/- THE SECOND FORM. 'bulk': how many values and letters a reading holds, each counted each time it is reached (what is shared counts as often as it is met; a slice's spare places count too). A statement '..UptoSaid' is the law's where the arguments, and the package variables that the reading takes, are together of bulk at most 1048576: NARROWER than '..Said'. Prove '..Said' where nothing that the law and all that it calls make is longer than what came in: it says more and counts as full. Else prove '..UptoSaid'. A law counts once. -/
mutual
def uptoBulk {H : Type} : DataW H → Nat
  | .lit (.string bytes) => bytes.length + 1
  | .lit _ => 1
  | .nil => 1
  | .ptr d => uptoBulk d + 1
  | .slice elems spare => uptoBulkAll elems + uptoBulkAll spare + 1
  | .agg parts => uptoBulkAll parts + 1
  | .iface _ d => uptoBulk d + 1
  | .map entries => uptoBulkEntries entries + 1
  | .held _ => 1
def uptoBulkAll {H : Type} : List (DataW H) → Nat
  | [] => 0
  | d :: r => uptoBulk d + uptoBulkAll r
def uptoBulkEntries {H : Type} : List (Lit × DataW H) → Nat
  | [] => 0
  | x :: r => uptoBulkEntry x + uptoBulkEntries r
def uptoBulkEntry {H : Type} : Lit × DataW H → Nat
  | (.string bytes, d) => bytes.length + uptoBulk d + 1
  | (_, d) => uptoBulk d + 1
 end
def uptoSmall : (H : Type) → List (DataW H) → Bool := fun _ ds => decide (uptoBulkAll ds ≤ 1048576)
def OpenSpec.upto (s : _root_.Go.ChangeSpec) : _root_.Go.OpenSpec := { _root_.Go.OpenSpec.ofChange s with cond := some uptoSmall }

/-- 'headgatelaw07.DedupLooks', WHERE WHAT IT READS IS OF BULK AT MOST 1048576: true; the input reads as it did. -/
def dedupLooksUptoRow : OpenClaim := { program := "ythoegjpcjclbjaa", sum := "66e84ee1232f3558976cfea521141edb08df5b3808e5bc1e4aefab1c86b23ada", func := "headgate/headgatelaw07.DedupLooks", spec := "dedupLooks", inPlace := ["slices.overlaps[headgate/api.Prod]"], unfollowed := true, recurses := true, apart := false, narrowed := true }
def DedupLooksUptoSaid : Prop := dedupLooksUptoRow.holds Try.pinned (OpenSpec.upto dedupLooksSpec)

/-- 'headgatelaw07.DedupNotes', WHERE WHAT IT READS IS OF BULK AT MOST 1048576: true; the input reads as it did. -/
def dedupNotesUptoRow : OpenClaim := { program := "ythoegjpcjclbjaa", sum := "66e84ee1232f3558976cfea521141edb08df5b3808e5bc1e4aefab1c86b23ada", func := "headgate/headgatelaw07.DedupNotes", spec := "dedupNotes", inPlace := ["slices.overlaps[headgate/api.Prod]"], unfollowed := true, recurses := true, apart := false, narrowed := true }
def DedupNotesUptoSaid : Prop := dedupNotesUptoRow.holds Try.pinned (OpenSpec.upto dedupNotesSpec)

/-- 'headgatelaw07.DedupOnce', WHERE WHAT IT READS IS OF BULK AT MOST 1048576: true; the input reads as it did. -/
def dedupOnceUptoRow : OpenClaim := { program := "ythoegjpcjclbjaa", sum := "66e84ee1232f3558976cfea521141edb08df5b3808e5bc1e4aefab1c86b23ada", func := "headgate/headgatelaw07.DedupOnce", spec := "dedupOnce", inPlace := ["slices.overlaps[headgate/api.Prod]"], unfollowed := true, recurses := true, apart := false, narrowed := true }
def DedupOnceUptoSaid : Prop := dedupOnceUptoRow.holds Try.pinned (OpenSpec.upto dedupOnceSpec)

/-- 'headgatelaw07.DedupAgain', WHERE WHAT IT READS IS OF BULK AT MOST 1048576: true; the input reads as it did. -/
def dedupAgainUptoRow : OpenClaim := { program := "ythoegjpcjclbjaa", sum := "66e84ee1232f3558976cfea521141edb08df5b3808e5bc1e4aefab1c86b23ada", func := "headgate/headgatelaw07.DedupAgain", spec := "dedupAgain", inPlace := ["slices.overlaps[headgate/api.Prod]"], unfollowed := true, recurses := true, apart := false, narrowed := true }
def DedupAgainUptoSaid : Prop := dedupAgainUptoRow.holds Try.pinned (OpenSpec.upto dedupAgainSpec)

/-- 'headgatelaw07.DedupFences', WHERE WHAT IT READS IS OF BULK AT MOST 1048576: true; the input reads as it did. -/
def dedupFencesUptoRow : OpenClaim := { program := "ythoegjpcjclbjaa", sum := "66e84ee1232f3558976cfea521141edb08df5b3808e5bc1e4aefab1c86b23ada", func := "headgate/headgatelaw07.DedupFences", spec := "dedupFences", inPlace := ["slices.overlaps[headgate/api.Prod]"], unfollowed := true, recurses := true, apart := false, narrowed := true }
def DedupFencesUptoSaid : Prop := dedupFencesUptoRow.holds Try.pinned (OpenSpec.upto dedupFencesSpec)

end Rows
end Go.Proofs.Ythoegjpcjclbjaa
