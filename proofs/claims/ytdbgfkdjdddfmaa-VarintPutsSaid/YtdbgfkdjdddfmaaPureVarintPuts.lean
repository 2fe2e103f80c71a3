/- For every number n: varint.Put lays just the bytes that the document's reference lays, and chapter 1's examples hold. No condition. -/
import Derived.Test.YtdbgfkdjdddfmaaPx
import Derived.Test.YtdbgfkdjdddfmaaVa
set_option linter.unusedVariables false
namespace Go.Proofs.Ytdbgfkdjdddfmaa.Pure
open Go.RowKit Go.Proofs.Ytdbgfkdjdddfmaa.Vm Go.Proofs.Ytdbgfkdjdddfmaa.Vref Go.Proofs.Ytdbgfkdjdddfmaa.Vp Go.Proofs.Ytdbgfkdjdddfmaa.P Go.Proofs.YtdbgfkdjdddfmaaW.PrintWords Go.Proofs.YtdbgfkdjdddfmaaW.PrintLast

theorem VarintPuts : headgatelaw01_VarintPuts.Pure := by
  intro n hn
  refine ⟨12, ?_⟩
  unfold headgatelaw01_VarintPuts.f
  rw [put_eq (i64_of hn), Option.bind_some, put_f n (i64_of hn) 12 (by omega), Option.bind_some, if_pos rfl, Va.awake_eq, Option.bind_some]

end Go.Proofs.Ytdbgfkdjdddfmaa.Pure
