/- For every text s: varint.Take tells the number, the rest and the error that the document's reference tells. No condition. -/
import Derived.Test.YtdbgfkdjdddfmaaPx
import Derived.Test.YtdbgfkdjdddfmaaVa
set_option linter.unusedVariables false
namespace Go.Proofs.Ytdbgfkdjdddfmaa.Pure
open Go.RowKit Go.Proofs.Ytdbgfkdjdddfmaa.Vm Go.Proofs.Ytdbgfkdjdddfmaa.Vref Go.Proofs.Ytdbgfkdjdddfmaa.Vp Go.Proofs.Ytdbgfkdjdddfmaa.P Go.Proofs.YtdbgfkdjdddfmaaW.PrintWords Go.Proofs.YtdbgfkdjdddfmaaW.PrintLast

theorem VarintTakes : headgatelaw01_VarintTakes.Pure := by
  intro s hs
  obtain ⟨l, rfl⟩ := bs_of s
  rw [size_bs] at hs
  refine ⟨80, ?_⟩
  unfold headgatelaw01_VarintTakes.f
  rw [take_eq l (by omega), Option.bind_some, take_f l (by omega) 80 (by omega), Option.bind_some, if_pos rfl, if_pos rfl, if_pos rfl, Va.awake_eq, Option.bind_some]

end Go.Proofs.Ytdbgfkdjdddfmaa.Pure
