/- Chapter 1's examples: the program answers them as the document does. -/
import Derived.Test.YtdbgfkdjdddfmaaVp
namespace Go.Proofs.Ytdbgfkdjdddfmaa.Va
open Go.RowKit Go.Proofs.Ytdbgfkdjdddfmaa.Vm Go.Proofs.Ytdbgfkdjdddfmaa.Vref Go.Proofs.Ytdbgfkdjdddfmaa.Vp Go.Proofs.Ytdbgfkdjdddfmaa.P Go.Proofs.YtdbgfkdjdddfmaaW.PrintWords
theorem awake_eq : headgatelaw01_awake.f = some true := by
  have h1 : varint_Take.f (⟨#[128, 0]⟩ : ByteArray) = some (0, bs [], 2) := by
    rw [show (⟨#[128, 0]⟩ : ByteArray) = bs [128, 0] from rfl, take_eq _ (by decide), show dec [128, 0] = none by decide]; rfl
  have h2 : varint_Take.f (⟨#[1, 120]⟩ : ByteArray) = some (-1, bs [120], 0) := by
    rw [show (⟨#[1, 120]⟩ : ByteArray) = bs [1, 120] from rfl, take_eq _ (by decide), show dec [1, 120] = some (-1, [120]) by decide]; rfl
  have h3 : varint_Put.f 0 = some (bs [0]) := by rw [put_eq (by decide), show enc 0 = [0] by decide]
  have h4 : varint_Put.f (-1) = some (bs [1]) := by rw [put_eq (by decide), show enc (-1) = [1] by decide]
  have h5 : varint_Put.f 1 = some (bs [2]) := by rw [put_eq (by decide), show enc 1 = [2] by decide]
  have h6 : varint_Put.f 64 = some (bs [128, 1]) := by rw [put_eq (by decide), show enc 64 = [128, 1] by decide]
  unfold headgatelaw01_awake.f
  rw [h1, Option.bind_some, h2, Option.bind_some, h3, Option.bind_some, toList_bs, if_pos rfl, h4, Option.bind_some, toList_bs, if_pos rfl, h5, Option.bind_some, toList_bs, if_pos rfl, h6, Option.bind_some, toList_bs, if_pos rfl, if_pos rfl, if_pos rfl, toList_bs, if_pos rfl]
  rfl
end Go.Proofs.Ytdbgfkdjdddfmaa.Va
