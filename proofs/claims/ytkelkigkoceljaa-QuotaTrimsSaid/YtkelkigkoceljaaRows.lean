/-
  No cell of these rows narrows 'for every input' (looked for: loops, veiled, ifaces, maps, wideKeys, modest, calm, conditions, laid).
  DERIVED. THE GIVEN ROWS OF THIS SEAT. 5 by the template 'for every input the law returns true; each argument reads behind the call as it read before'; 0 by the template 'total and deterministic' (their statements: YtkelkigkoceljaaTotals.lean).
  GIVEN WITH THE SEED: the statements are not yours to turn. If you find one false, say at which input.
  Laid BY PROGRAM, IN A SANDBOX (cutbox-rows.mjs): the forced cells as the released guide's own fill.sh prints them over the translation c9bd879adb02ee64… (all of the seat's roots in one cut). By AI agents, Wed Nov 11 2026. No macro, syntax, notation, axiom, sorry.
-/
import Derived.Test.YtkelkigkoceljaaChecked
import GoSem.Claim
import GoSem.ClaimJoined
import GoSem.ClaimMapViews
import Derived.JoinedTies
import Derived.KernelRfl
namespace Go.Proofs.Ytkelkigkoceljaa
/- THE CELL 'sum', in the pinned program and in every row, IS THE sha256 OF THE DUMP (.gsa) THAT YtkelkigkoceljaaProg.lean LOADS. Nothing in Lean hashes anything: it is a label: what it is worth is what the hold of that sum in a sandbox is worth. -/
noncomputable def Try.pinned : Pinned := { name := "ytkelkigkoceljaa", sum := "c9bd879adb02ee64afea6176c92c8623ea2adcc69d75050e3d65d51f5c64e88e", checked := Try.checked }
namespace Rows
def none {H : Type} : Left H := { results := [], args := [] }

/-- 'headgatelaw36.QuotaTakes': WHATEVER THE INPUT: true; the input reads as it did. -/
def quotaTakesSpec : ChangeSpec := { name := "quotaTakes", fn := fun _ => fun
  | [d1, d2, d3, d4, d5] => { results := [.lit (.bool true)], args := [d1, d2, d3, d4, d5] }
  | _ => none }
def quotaTakesRow : OpenClaim := { program := "ytkelkigkoceljaa", sum := "c9bd879adb02ee64afea6176c92c8623ea2adcc69d75050e3d65d51f5c64e88e", func := "headgate/headgatelaw36.QuotaTakes", spec := "quotaTakes", inPlace := ["slices.overlaps[headgate/api.Account]"], unfollowed := true, recurses := true, apart := false }
def QuotaTakesSaid : Prop := quotaTakesRow.holds Try.pinned (OpenSpec.ofChange quotaTakesSpec)

/-- ITS FALSE NEIGHBOUR: 'it returns false'. Refute it at one input. -/
def quotaTakesWrong : ChangeSpec := { name := "quotaTakes", fn := fun _ => fun
  | [d1, d2, d3, d4, d5] => { results := [.lit (.bool false)], args := [d1, d2, d3, d4, d5] }
  | _ => none }
def QuotaTakesWrongFalsely : Prop := quotaTakesRow.holds Try.pinned (OpenSpec.ofChange quotaTakesWrong)

/-- 'headgatelaw36.QuotaBounds': WHATEVER THE INPUT: true; the input reads as it did. -/
def quotaBoundsSpec : ChangeSpec := { name := "quotaBounds", fn := fun _ => fun
  | [d1, d2] => { results := [.lit (.bool true)], args := [d1, d2] }
  | _ => none }
def quotaBoundsRow : OpenClaim := { program := "ytkelkigkoceljaa", sum := "c9bd879adb02ee64afea6176c92c8623ea2adcc69d75050e3d65d51f5c64e88e", func := "headgate/headgatelaw36.QuotaBounds", spec := "quotaBounds", inPlace := ["slices.overlaps[headgate/api.Account]"], unfollowed := true, recurses := true, apart := false }
def QuotaBoundsSaid : Prop := quotaBoundsRow.holds Try.pinned (OpenSpec.ofChange quotaBoundsSpec)

/-- ITS FALSE NEIGHBOUR: 'it returns false'. Refute it at one input. -/
def quotaBoundsWrong : ChangeSpec := { name := "quotaBounds", fn := fun _ => fun
  | [d1, d2] => { results := [.lit (.bool false)], args := [d1, d2] }
  | _ => none }
def QuotaBoundsWrongFalsely : Prop := quotaBoundsRow.holds Try.pinned (OpenSpec.ofChange quotaBoundsWrong)

/-- 'headgatelaw36.QuotaWaits': WHATEVER THE INPUT: true; the input reads as it did. -/
def quotaWaitsSpec : ChangeSpec := { name := "quotaWaits", fn := fun _ => fun
  | [d1, d2, d3, d4] => { results := [.lit (.bool true)], args := [d1, d2, d3, d4] }
  | _ => none }
def quotaWaitsRow : OpenClaim := { program := "ytkelkigkoceljaa", sum := "c9bd879adb02ee64afea6176c92c8623ea2adcc69d75050e3d65d51f5c64e88e", func := "headgate/headgatelaw36.QuotaWaits", spec := "quotaWaits", inPlace := ["slices.overlaps[headgate/api.Account]"], unfollowed := true, recurses := true, apart := false }
def QuotaWaitsSaid : Prop := quotaWaitsRow.holds Try.pinned (OpenSpec.ofChange quotaWaitsSpec)

/-- ITS FALSE NEIGHBOUR: 'it returns false'. Refute it at one input. -/
def quotaWaitsWrong : ChangeSpec := { name := "quotaWaits", fn := fun _ => fun
  | [d1, d2, d3, d4] => { results := [.lit (.bool false)], args := [d1, d2, d3, d4] }
  | _ => none }
def QuotaWaitsWrongFalsely : Prop := quotaWaitsRow.holds Try.pinned (OpenSpec.ofChange quotaWaitsWrong)

/-- 'headgatelaw36.QuotaApart': WHATEVER THE INPUT: true; the input reads as it did. -/
def quotaApartSpec : ChangeSpec := { name := "quotaApart", fn := fun _ => fun
  | [d1, d2, d3] => { results := [.lit (.bool true)], args := [d1, d2, d3] }
  | _ => none }
def quotaApartRow : OpenClaim := { program := "ytkelkigkoceljaa", sum := "c9bd879adb02ee64afea6176c92c8623ea2adcc69d75050e3d65d51f5c64e88e", func := "headgate/headgatelaw36.QuotaApart", spec := "quotaApart", inPlace := ["slices.overlaps[headgate/api.Account]"], unfollowed := true, recurses := true, apart := false }
def QuotaApartSaid : Prop := quotaApartRow.holds Try.pinned (OpenSpec.ofChange quotaApartSpec)

/-- ITS FALSE NEIGHBOUR: 'it returns false'. Refute it at one input. -/
def quotaApartWrong : ChangeSpec := { name := "quotaApart", fn := fun _ => fun
  | [d1, d2, d3] => { results := [.lit (.bool false)], args := [d1, d2, d3] }
  | _ => none }
def QuotaApartWrongFalsely : Prop := quotaApartRow.holds Try.pinned (OpenSpec.ofChange quotaApartWrong)

/-- 'headgatelaw36.QuotaTrims': WHATEVER THE INPUT: true; the input reads as it did. -/
def quotaTrimsSpec : ChangeSpec := { name := "quotaTrims", fn := fun _ => fun
  | [d1, d2, d3, d4, d5] => { results := [.lit (.bool true)], args := [d1, d2, d3, d4, d5] }
  | _ => none }
def quotaTrimsRow : OpenClaim := { program := "ytkelkigkoceljaa", sum := "c9bd879adb02ee64afea6176c92c8623ea2adcc69d75050e3d65d51f5c64e88e", func := "headgate/headgatelaw36.QuotaTrims", spec := "quotaTrims", inPlace := ["slices.overlaps[headgate/api.Account]"], unfollowed := true, recurses := true, apart := false }
def QuotaTrimsSaid : Prop := quotaTrimsRow.holds Try.pinned (OpenSpec.ofChange quotaTrimsSpec)

/-- ITS FALSE NEIGHBOUR: 'it returns false'. Refute it at one input. -/
def quotaTrimsWrong : ChangeSpec := { name := "quotaTrims", fn := fun _ => fun
  | [d1, d2, d3, d4, d5] => { results := [.lit (.bool false)], args := [d1, d2, d3, d4, d5] }
  | _ => none }
def QuotaTrimsWrongFalsely : Prop := quotaTrimsRow.holds Try.pinned (OpenSpec.ofChange quotaTrimsWrong)

/- THE SECOND FORM. 'bulk': how many values and letters a reading holds, each counted each time it is reached (what is shared counts as often as it is met; a slice's spare places count too). A statement '..UptoSaid' is the law's where the arguments, and the package variables that the reading takes, are together of bulk at most 1048576: NARROWER than '..Said'. Prove '..Said' where nothing that the law and all that it calls make is longer than what came in: it says more and counts as full. Else prove '..UptoSaid'. A law counts once. -/
mutual
def uptoBulk {H : Type} : DataW H → Nat
  | .lit (.string bytes) => bytes.length + 1
  | .lit _ => 1
  | .nil => 1
  | .ptr d => uptoBulk d + 1
  | .slice elems spare => uptoBulkAll elems + uptoBulkAll spare + 1
  | .agg parts => uptoBulkAll parts + 1
  | .iface _ d => uptoBulk d + 1
  | .map entries => uptoBulkEntries entries + 1
  | .held _ => 1
def uptoBulkAll {H : Type} : List (DataW H) → Nat
  | [] => 0
  | d :: r => uptoBulk d + uptoBulkAll r
def uptoBulkEntries {H : Type} : List (Lit × DataW H) → Nat
  | [] => 0
  | x :: r => uptoBulkEntry x + uptoBulkEntries r
def uptoBulkEntry {H : Type} : Lit × DataW H → Nat
  | (.string bytes, d) => bytes.length + uptoBulk d + 1
  | (_, d) => uptoBulk d + 1
 end
def uptoSmall : (H : Type) → List (DataW H) → Bool := fun _ ds => decide (uptoBulkAll ds ≤ 1048576)
def OpenSpec.upto (s : _root_.Go.ChangeSpec) : _root_.Go.OpenSpec := { _root_.Go.OpenSpec.ofChange s with cond := some uptoSmall }

/-- 'headgatelaw36.QuotaTakes', WHERE WHAT IT READS IS OF BULK AT MOST 1048576: true; the input reads as it did. -/
def quotaTakesUptoRow : OpenClaim := { program := "ytkelkigkoceljaa", sum := "c9bd879adb02ee64afea6176c92c8623ea2adcc69d75050e3d65d51f5c64e88e", func := "headgate/headgatelaw36.QuotaTakes", spec := "quotaTakes", inPlace := ["slices.overlaps[headgate/api.Account]"], unfollowed := true, recurses := true, apart := false, narrowed := true }
def QuotaTakesUptoSaid : Prop := quotaTakesUptoRow.holds Try.pinned (OpenSpec.upto quotaTakesSpec)

/-- 'headgatelaw36.QuotaBounds', WHERE WHAT IT READS IS OF BULK AT MOST 1048576: true; the input reads as it did. -/
def quotaBoundsUptoRow : OpenClaim := { program := "ytkelkigkoceljaa", sum := "c9bd879adb02ee64afea6176c92c8623ea2adcc69d75050e3d65d51f5c64e88e", func := "headgate/headgatelaw36.QuotaBounds", spec := "quotaBounds", inPlace := ["slices.overlaps[headgate/api.Account]"], unfollowed := true, recurses := true, apart := false, narrowed := true }
def QuotaBoundsUptoSaid : Prop := quotaBoundsUptoRow.holds Try.pinned (OpenSpec.upto quotaBoundsSpec)

/-- 'headgatelaw36.QuotaWaits', WHERE WHAT IT READS IS OF BULK AT MOST 1048576: true; the input reads as it did. -/
def quotaWaitsUptoRow : OpenClaim := { program := "ytkelkigkoceljaa", sum := "c9bd879adb02ee64afea6176c92c8623ea2adcc69d75050e3d65d51f5c64e88e", func := "headgate/headgatelaw36.QuotaWaits", spec := "quotaWaits", inPlace := ["slices.overlaps[headgate/api.Account]"], unfollowed := true, recurses := true, apart := false, narrowed := true }
def QuotaWaitsUptoSaid : Prop := quotaWaitsUptoRow.holds Try.pinned (OpenSpec.upto quotaWaitsSpec)

/-- 'headgatelaw36.QuotaApart', WHERE WHAT IT READS IS OF BULK AT MOST 1048576: true; the input reads as it did. -/
def quotaApartUptoRow : OpenClaim := { program := "ytkelkigkoceljaa", sum := "c9bd879adb02ee64afea6176c92c8623ea2adcc69d75050e3d65d51f5c64e88e", func := "headgate/headgatelaw36.QuotaApart", spec := "quotaApart", inPlace := ["slices.overlaps[headgate/api.Account]"], unfollowed := true, recurses := true, apart := false, narrowed := true }
def QuotaApartUptoSaid : Prop := quotaApartUptoRow.holds Try.pinned (OpenSpec.upto quotaApartSpec)

/-- 'headgatelaw36.QuotaTrims', WHERE WHAT IT READS IS OF BULK AT MOST 1048576: true; the input reads as it did. -/
def quotaTrimsUptoRow : OpenClaim := { program := "ytkelkigkoceljaa", sum := "c9bd879adb02ee64afea6176c92c8623ea2adcc69d75050e3d65d51f5c64e88e", func := "headgate/headgatelaw36.QuotaTrims", spec := "quotaTrims", inPlace := ["slices.overlaps[headgate/api.Account]"], unfollowed := true, recurses := true, apart := false, narrowed := true }
def QuotaTrimsUptoSaid : Prop := quotaTrimsUptoRow.holds Try.pinned (OpenSpec.upto quotaTrimsSpec)

end Rows
end Go.Proofs.Ytkelkigkoceljaa
