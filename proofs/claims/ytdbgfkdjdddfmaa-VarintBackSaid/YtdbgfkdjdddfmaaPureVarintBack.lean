/- For every number n and every text behind it: what varint.Put laid is taken by varint.Take, with what stands behind it. No condition. -/
import Derived.Test.YtdbgfkdjdddfmaaPx
import Derived.Test.YtdbgfkdjdddfmaaVa
set_option linter.unusedVariables false
namespace Go.Proofs.Ytdbgfkdjdddfmaa.Pure
open Go.RowKit Go.Proofs.Ytdbgfkdjdddfmaa.Vm Go.Proofs.Ytdbgfkdjdddfmaa.Vref Go.Proofs.Ytdbgfkdjdddfmaa.Vp Go.Proofs.Ytdbgfkdjdddfmaa.P Go.Proofs.YtdbgfkdjdddfmaaW.PrintWords Go.Proofs.YtdbgfkdjdddfmaaW.PrintLast

theorem VarintBack : headgatelaw01_VarintBack.Pure := by
  intro n s hn hs
  obtain ⟨l, rfl⟩ := bs_of s
  rw [size_bs] at hs
  have he := (enc_len n).2
  unfold headgatelaw01_VarintBack.f
  rw [put_eq (i64_of hn), Option.bind_some, if_pos (by rw [size_bs, size_bs]; omega), append_bs, take_eq _ (by rw [List.length_append]; omega), Option.bind_some, dec_enc (i64_of hn), takeR_1, takeR_2, takeR_3, if_pos rfl, if_pos rfl, if_pos rfl, Va.awake_eq, Option.bind_some]

end Go.Proofs.Ytdbgfkdjdddfmaa.Pure
