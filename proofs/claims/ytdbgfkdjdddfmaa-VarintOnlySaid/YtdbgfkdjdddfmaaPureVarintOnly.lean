/- For every text s: what varint.Take takes as a number is laid just so by varint.Put; where there is none it tells 0 and no rest. No condition. -/
import Derived.Test.YtdbgfkdjdddfmaaPx
import Derived.Test.YtdbgfkdjdddfmaaVa
set_option linter.unusedVariables false
namespace Go.Proofs.Ytdbgfkdjdddfmaa.Pure
open Go.RowKit Go.Proofs.Ytdbgfkdjdddfmaa.Vm Go.Proofs.Ytdbgfkdjdddfmaa.Vref Go.Proofs.Ytdbgfkdjdddfmaa.Vp Go.Proofs.Ytdbgfkdjdddfmaa.P Go.Proofs.YtdbgfkdjdddfmaaW.PrintWords Go.Proofs.YtdbgfkdjdddfmaaW.PrintLast

theorem VarintOnly : headgatelaw01_VarintOnly.Pure := by
  intro s hs
  obtain ⟨l, rfl⟩ := bs_of s
  rw [size_bs] at hs
  unfold headgatelaw01_VarintOnly.f
  rw [take_eq _ (by omega), Option.bind_some]
  cases hd : dec l with
  | none => rw [takeR_n3, takeR_n1, takeR_n2, if_neg (by decide), if_pos rfl, toList_bs, if_pos rfl, Va.awake_eq, Option.bind_some]
  | some p =>
    obtain ⟨n, r⟩ := p
    obtain ⟨rfl, hn⟩ := (dec_iff l n r).1 hd
    rw [List.length_append] at hs
    rw [takeR_1, takeR_2, takeR_3, if_pos rfl, put_eq hn, Option.bind_some, if_pos (by rw [size_bs, size_bs]; omega), append_bs, if_pos rfl, Va.awake_eq, Option.bind_some]

end Go.Proofs.Ytdbgfkdjdddfmaa.Pure
