/- bits.Len64, by the shelf's contract. -/
import Derived.Test.YtgijangnoekbjaaProg
import Derived.Shelf.Strconv.Itoa0
import Derived.WalkKit
import Derived.Laws.BitsLemmas
import Derived.Test.YtgijangnoekbjaaVm
set_option linter.unusedVariables false
namespace Go.Proofs
open Go.Shelf
def Try.lays129_ren : Go.Shelf.Ren := ⟨fun | 129 => 46 | n => n, fun | 53 => 74 | 3 => 3 | 4 => 4 | 46 => 75 | 5 => 5 | 9 => 9 | n => n, fun | n => n⟩
theorem Try.lays129 : Go.Proofs.Lays.n129 Try.prog Try.lays129_ren := {
  mixed := by kernel_rfl
  f129 := Try.func46.trans (congrArg some (by kernel_rfl))
  t3 := Try.underlying3
  a3 := Try.isAgg3
  z3 := Try.sizeOf3
  v3 := Try.zeroValue3
  t4 := Try.underlying4
  a4 := Try.isAgg4
  z4 := Try.sizeOf4
  v4 := Try.zeroValue4
  t5 := Try.underlying5
  a5 := Try.isAgg5
  z5 := Try.sizeOf5
  v5 := Try.zeroValue5
  t9 := Try.underlying9
  a9 := Try.isAgg9
  z9 := Try.sizeOf9
  v9 := Try.zeroValue9
  t46 := Try.underlying75
  a46 := Try.isAgg75
  z46 := Try.sizeOf75
  v46 := Try.zeroValue75
  t53 := Try.underlying74
  a53 := Try.isAgg74
  z53 := Try.sizeOf74
  v53 := Try.zeroValue74 }
end Go.Proofs
namespace Go.Proofs.Ytgijangnoekbjaa.Len
open Go.RowKit Go.Shelf
theorem len64 (x : Int) (w : World) (h0 : 0 ≤ x) (h1 : x ≤ 18446744073709551615) :
    Calls Try.prog 46 #[.int .u64 x] w fun e w' => e = .returned (.int .i64 (Lib.bitLen x.toNat)) ∧ w' = w := Any.bits_Len64 Try.lays129 x w h0 h1
theorem notx (a : Int) (h : Go.Proofs.Ytgijangnoekbjaa.Vm.I64 a) : Go.bits .xor .i64 (-1) a = -1 - a := by
  unfold Go.Proofs.Ytgijangnoekbjaa.Vm.I64 at h
  have e : BitVec.ofInt 64 (-1) ^^^ BitVec.ofInt 64 a = ~~~ BitVec.ofInt 64 a := by
    rw [show BitVec.ofInt 64 (-1) = BitVec.allOnes 64 by decide, BitVec.xor_comm, BitVec.xor_allOnes]
  unfold Go.bits
  show IntKind.i64.wrap ((BitVec.ofInt 64 (-1) ^^^ BitVec.ofInt 64 a).toNat : Int) = _
  rw [e, BitVec.toNat_not, BitVec.toNat_ofInt, IntKind.wrap_i64]
  omega
end Go.Proofs.Ytgijangnoekbjaa.Len
