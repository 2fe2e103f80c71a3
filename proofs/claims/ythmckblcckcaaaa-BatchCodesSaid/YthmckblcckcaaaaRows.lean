/-
  No cell of these rows narrows 'for every input' (looked for: loops, veiled, ifaces, maps, wideKeys, modest, calm, conditions, laid).
  DERIVED. THE GIVEN ROWS OF THIS SEAT. 6 by the template 'for every input the law returns true; each argument reads behind the call as it read before'; 0 by the template 'total and deterministic' (their statements: YthmckblcckcaaaaTotals.lean).
  GIVEN WITH THE SEED: the statements are not yours to turn. If you find one false, say at which input.
  Laid BY PROGRAM, IN A SANDBOX (cutbox-rows.mjs): the forced cells as the released guide's own fill.sh prints them over the translation 6c82bc968524b571… (all of the seat's roots in one cut). By AI agents, Wed Nov 11 2026. No macro, syntax, notation, axiom, sorry.
-/
import Derived.Test.YthmckblcckcaaaaChecked
import GoSem.Claim
import GoSem.ClaimJoined
import GoSem.ClaimMapViews
import Derived.JoinedTies
import Derived.KernelRfl
namespace Go.Proofs.Ythmckblcckcaaaa
/- THE CELL 'sum', in the pinned program and in every row, IS THE sha256 OF THE DUMP (.gsa) THAT YthmckblcckcaaaaProg.lean LOADS. Nothing in Lean hashes anything: it is a label: what it is worth is what the hold of that sum in a sandbox is worth. -/
noncomputable def Try.pinned : Pinned := { name := "ythmckblcckcaaaa", sum := "6c82bc968524b571a7832c70f9344d7c44833a8a710f77189ef02771fdfe60fc", checked := Try.checked }
namespace Rows
def none {H : Type} : Left H := { results := [], args := [] }

/-- 'headgatelaw06.BatchMay': WHATEVER THE INPUT: true; the input reads as it did. -/
def batchMaySpec : ChangeSpec := { name := "batchMay", fn := fun _ => fun
  | [d] => { results := [.lit (.bool true)], args := [d] }
  | _ => none }
def batchMayRow : OpenClaim := { program := "ythmckblcckcaaaa", sum := "6c82bc968524b571a7832c70f9344d7c44833a8a710f77189ef02771fdfe60fc", func := "headgate/headgatelaw06.BatchMay", spec := "batchMay", inPlace := ["internal/abi.NoEscape"], unfollowed := true, recurses := true, apart := false }
def BatchMaySaid : Prop := batchMayRow.holds Try.pinned (OpenSpec.ofChange batchMaySpec)

/-- ITS FALSE NEIGHBOUR: 'it returns false'. Refute it at one input. -/
def batchMayWrong : ChangeSpec := { name := "batchMay", fn := fun _ => fun
  | [d] => { results := [.lit (.bool false)], args := [d] }
  | _ => none }
def BatchMayWrongFalsely : Prop := batchMayRow.holds Try.pinned (OpenSpec.ofChange batchMayWrong)

/-- 'headgatelaw06.BatchRecords': WHATEVER THE INPUT: true; the input reads as it did. -/
def batchRecordsSpec : ChangeSpec := { name := "batchRecords", fn := fun _ => fun
  | [d1, d2] => { results := [.lit (.bool true)], args := [d1, d2] }
  | _ => none }
def batchRecordsRow : OpenClaim := { program := "ythmckblcckcaaaa", sum := "6c82bc968524b571a7832c70f9344d7c44833a8a710f77189ef02771fdfe60fc", func := "headgate/headgatelaw06.BatchRecords", spec := "batchRecords", inPlace := ["internal/abi.NoEscape"], unfollowed := true, recurses := true, apart := false }
def BatchRecordsSaid : Prop := batchRecordsRow.holds Try.pinned (OpenSpec.ofChange batchRecordsSpec)

/-- ITS FALSE NEIGHBOUR: 'it returns false'. Refute it at one input. -/
def batchRecordsWrong : ChangeSpec := { name := "batchRecords", fn := fun _ => fun
  | [d1, d2] => { results := [.lit (.bool false)], args := [d1, d2] }
  | _ => none }
def BatchRecordsWrongFalsely : Prop := batchRecordsRow.holds Try.pinned (OpenSpec.ofChange batchRecordsWrong)

/-- 'headgatelaw06.BatchCodes': WHATEVER THE INPUT: true; the input reads as it did. -/
def batchCodesSpec : ChangeSpec := { name := "batchCodes", fn := fun _ => fun
  | [d1, d2] => { results := [.lit (.bool true)], args := [d1, d2] }
  | _ => none }
def batchCodesRow : OpenClaim := { program := "ythmckblcckcaaaa", sum := "6c82bc968524b571a7832c70f9344d7c44833a8a710f77189ef02771fdfe60fc", func := "headgate/headgatelaw06.BatchCodes", spec := "batchCodes", inPlace := ["internal/abi.NoEscape"], unfollowed := true, recurses := true, apart := false }
def BatchCodesSaid : Prop := batchCodesRow.holds Try.pinned (OpenSpec.ofChange batchCodesSpec)

/-- ITS FALSE NEIGHBOUR: 'it returns false'. Refute it at one input. -/
def batchCodesWrong : ChangeSpec := { name := "batchCodes", fn := fun _ => fun
  | [d1, d2] => { results := [.lit (.bool false)], args := [d1, d2] }
  | _ => none }
def BatchCodesWrongFalsely : Prop := batchCodesRow.holds Try.pinned (OpenSpec.ofChange batchCodesWrong)

/-- 'headgatelaw06.BatchBack': WHATEVER THE INPUT: true; the input reads as it did. -/
def batchBackSpec : ChangeSpec := { name := "batchBack", fn := fun _ => fun
  | [d] => { results := [.lit (.bool true)], args := [d] }
  | _ => none }
def batchBackRow : OpenClaim := { program := "ythmckblcckcaaaa", sum := "6c82bc968524b571a7832c70f9344d7c44833a8a710f77189ef02771fdfe60fc", func := "headgate/headgatelaw06.BatchBack", spec := "batchBack", inPlace := ["internal/abi.NoEscape"], unfollowed := true, recurses := true, apart := false }
def BatchBackSaid : Prop := batchBackRow.holds Try.pinned (OpenSpec.ofChange batchBackSpec)

/-- ITS FALSE NEIGHBOUR: 'it returns false'. Refute it at one input. -/
def batchBackWrong : ChangeSpec := { name := "batchBack", fn := fun _ => fun
  | [d] => { results := [.lit (.bool false)], args := [d] }
  | _ => none }
def BatchBackWrongFalsely : Prop := batchBackRow.holds Try.pinned (OpenSpec.ofChange batchBackWrong)

/-- 'headgatelaw06.BatchOnly': WHATEVER THE INPUT: true; the input reads as it did. -/
def batchOnlySpec : ChangeSpec := { name := "batchOnly", fn := fun _ => fun
  | [d] => { results := [.lit (.bool true)], args := [d] }
  | _ => none }
def batchOnlyRow : OpenClaim := { program := "ythmckblcckcaaaa", sum := "6c82bc968524b571a7832c70f9344d7c44833a8a710f77189ef02771fdfe60fc", func := "headgate/headgatelaw06.BatchOnly", spec := "batchOnly", inPlace := ["internal/abi.NoEscape"], unfollowed := true, recurses := true, apart := false }
def BatchOnlySaid : Prop := batchOnlyRow.holds Try.pinned (OpenSpec.ofChange batchOnlySpec)

/-- ITS FALSE NEIGHBOUR: 'it returns false'. Refute it at one input. -/
def batchOnlyWrong : ChangeSpec := { name := "batchOnly", fn := fun _ => fun
  | [d] => { results := [.lit (.bool false)], args := [d] }
  | _ => none }
def BatchOnlyWrongFalsely : Prop := batchOnlyRow.holds Try.pinned (OpenSpec.ofChange batchOnlyWrong)

/-- 'headgatelaw06.BatchCut': WHATEVER THE INPUT: true; the input reads as it did. -/
def batchCutSpec : ChangeSpec := { name := "batchCut", fn := fun _ => fun
  | [d1, d2, d3] => { results := [.lit (.bool true)], args := [d1, d2, d3] }
  | _ => none }
def batchCutRow : OpenClaim := { program := "ythmckblcckcaaaa", sum := "6c82bc968524b571a7832c70f9344d7c44833a8a710f77189ef02771fdfe60fc", func := "headgate/headgatelaw06.BatchCut", spec := "batchCut", inPlace := ["internal/abi.NoEscape"], unfollowed := true, recurses := true, apart := false }
def BatchCutSaid : Prop := batchCutRow.holds Try.pinned (OpenSpec.ofChange batchCutSpec)

/-- ITS FALSE NEIGHBOUR: 'it returns false'. Refute it at one input. -/
def batchCutWrong : ChangeSpec := { name := "batchCut", fn := fun _ => fun
  | [d1, d2, d3] => { results := [.lit (.bool false)], args := [d1, d2, d3] }
  | _ => none }
def BatchCutWrongFalsely : Prop := batchCutRow.holds Try.pinned (OpenSpec.ofChange batchCutWrong)

/- THE SECOND FORM. 'bulk': how many values and letters a reading holds, each counted each time it is reached (what is shared counts as often as it is met; a slice's spare places count too). A statement '..UptoSaid' is the law's where the arguments, and the package variables that the reading takes, are together of bulk at most 1048576: NARROWER than '..Said'. Prove '..Said' where nothing that the law and all that it calls make is longer than what came in: it says more and counts as full. Else prove '..UptoSaid'. A law counts once. -/
mutual
def uptoBulk {H : Type} : DataW H → Nat
  | .lit (.string bytes) => bytes.length + 1
  | .lit _ => 1
  | .nil => 1
  | .ptr d => uptoBulk d + 1
  | .slice elems spare => uptoBulkAll elems + uptoBulkAll spare + 1
  | .agg parts => uptoBulkAll parts + 1
  | .iface _ d => uptoBulk d + 1
  | .map entries => uptoBulkEntries entries + 1
  | .held _ => 1
def uptoBulkAll {H : Type} : List (DataW H) → Nat
  | [] => 0
  | d :: r => uptoBulk d + uptoBulkAll r
def uptoBulkEntries {H : Type} : List (Lit × DataW H) → Nat
  | [] => 0
  | x :: r => uptoBulkEntry x + uptoBulkEntries r
def uptoBulkEntry {H : Type} : Lit × DataW H → Nat
  | (.string bytes, d) => bytes.length + uptoBulk d + 1
  | (_, d) => uptoBulk d + 1
 end
def uptoSmall : (H : Type) → List (DataW H) → Bool := fun _ ds => decide (uptoBulkAll ds ≤ 1048576)
def OpenSpec.upto (s : _root_.Go.ChangeSpec) : _root_.Go.OpenSpec := { _root_.Go.OpenSpec.ofChange s with cond := some uptoSmall }

/-- 'headgatelaw06.BatchMay', WHERE WHAT IT READS IS OF BULK AT MOST 1048576: true; the input reads as it did. -/
def batchMayUptoRow : OpenClaim := { program := "ythmckblcckcaaaa", sum := "6c82bc968524b571a7832c70f9344d7c44833a8a710f77189ef02771fdfe60fc", func := "headgate/headgatelaw06.BatchMay", spec := "batchMay", inPlace := ["internal/abi.NoEscape"], unfollowed := true, recurses := true, apart := false, narrowed := true }
def BatchMayUptoSaid : Prop := batchMayUptoRow.holds Try.pinned (OpenSpec.upto batchMaySpec)

/-- 'headgatelaw06.BatchRecords', WHERE WHAT IT READS IS OF BULK AT MOST 1048576: true; the input reads as it did. -/
def batchRecordsUptoRow : OpenClaim := { program := "ythmckblcckcaaaa", sum := "6c82bc968524b571a7832c70f9344d7c44833a8a710f77189ef02771fdfe60fc", func := "headgate/headgatelaw06.BatchRecords", spec := "batchRecords", inPlace := ["internal/abi.NoEscape"], unfollowed := true, recurses := true, apart := false, narrowed := true }
def BatchRecordsUptoSaid : Prop := batchRecordsUptoRow.holds Try.pinned (OpenSpec.upto batchRecordsSpec)

/-- 'headgatelaw06.BatchCodes', WHERE WHAT IT READS IS OF BULK AT MOST 1048576: true; the input reads as it did. -/
def batchCodesUptoRow : OpenClaim := { program := "ythmckblcckcaaaa", sum := "6c82bc968524b571a7832c70f9344d7c44833a8a710f77189ef02771fdfe60fc", func := "headgate/headgatelaw06.BatchCodes", spec := "batchCodes", inPlace := ["internal/abi.NoEscape"], unfollowed := true, recurses := true, apart := false, narrowed := true }
def BatchCodesUptoSaid : Prop := batchCodesUptoRow.holds Try.pinned (OpenSpec.upto batchCodesSpec)

/-- 'headgatelaw06.BatchBack', WHERE WHAT IT READS IS OF BULK AT MOST 1048576: true; the input reads as it did. -/
def batchBackUptoRow : OpenClaim := { program := "ythmckblcckcaaaa", sum := "6c82bc968524b571a7832c70f9344d7c44833a8a710f77189ef02771fdfe60fc", func := "headgate/headgatelaw06.BatchBack", spec := "batchBack", inPlace := ["internal/abi.NoEscape"], unfollowed := true, recurses := true, apart := false, narrowed := true }
def BatchBackUptoSaid : Prop := batchBackUptoRow.holds Try.pinned (OpenSpec.upto batchBackSpec)

/-- 'headgatelaw06.BatchOnly', WHERE WHAT IT READS IS OF BULK AT MOST 1048576: true; the input reads as it did. -/
def batchOnlyUptoRow : OpenClaim := { program := "ythmckblcckcaaaa", sum := "6c82bc968524b571a7832c70f9344d7c44833a8a710f77189ef02771fdfe60fc", func := "headgate/headgatelaw06.BatchOnly", spec := "batchOnly", inPlace := ["internal/abi.NoEscape"], unfollowed := true, recurses := true, apart := false, narrowed := true }
def BatchOnlyUptoSaid : Prop := batchOnlyUptoRow.holds Try.pinned (OpenSpec.upto batchOnlySpec)

/-- 'headgatelaw06.BatchCut', WHERE WHAT IT READS IS OF BULK AT MOST 1048576: true; the input reads as it did. -/
def batchCutUptoRow : OpenClaim := { program := "ythmckblcckcaaaa", sum := "6c82bc968524b571a7832c70f9344d7c44833a8a710f77189ef02771fdfe60fc", func := "headgate/headgatelaw06.BatchCut", spec := "batchCut", inPlace := ["internal/abi.NoEscape"], unfollowed := true, recurses := true, apart := false, narrowed := true }
def BatchCutUptoSaid : Prop := batchCutUptoRow.holds Try.pinned (OpenSpec.upto batchCutSpec)

end Rows
end Go.Proofs.Ythmckblcckcaaaa
