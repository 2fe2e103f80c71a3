/- For any texts and any bound: varint.TakeText, varint.PutText tell what the document's references tell; what was put is taken again within the bound, and not within a smaller one. No condition. -/
import Derived.Test.YtdbgfkdjdddfmaaPx
import Derived.Test.YtdbgfkdjdddfmaaVa
set_option linter.unusedVariables false
namespace Go.Proofs.Ytdbgfkdjdddfmaa.Pure
open Go.RowKit Go.Proofs.Ytdbgfkdjdddfmaa.Vm Go.Proofs.Ytdbgfkdjdddfmaa.Vref Go.Proofs.Ytdbgfkdjdddfmaa.Vp Go.Proofs.Ytdbgfkdjdddfmaa.P Go.Proofs.YtdbgfkdjdddfmaaW.PrintWords Go.Proofs.YtdbgfkdjdddfmaaW.PrintLast

theorem textR_some (a b : List UInt8) : textR (some (a, b)) = (bs a, bs b, 0) := rfl
theorem textR_none : textR none = (bs [], bs [], 2) := rfl
theorem j1_eq (l m : List UInt8) (hl : l.length ≤ 5000) (hm : m.length ≤ 5000) (k : Nat) : headgatelaw01_VarintTexts.j1 (k + 1) (bs l) (bs m) false = some true := by
  have hp := ptext_len l
  have h1 : wrap64 (((bs l).size : Int) - 1) < (l.length : Int) := by rw [size_bs, w64 (by omega) (by omega)]; omega
  rw [headgatelaw01_VarintTexts.j1, if_neg (by decide), putText_eq l (by omega), Option.bind_some, if_pos (by rw [size_bs, size_bs]; omega), append_bs, takeText_eq _ (by rw [List.length_append]; omega), ttext_ptext l m (by omega) _ (by rw [size_bs]; omega), Option.bind_some, Option.bind_some, if_pos (by rw [size_bs, size_bs]; omega), append_bs, takeText_eq _ (by rw [List.length_append]; omega), ttext_short l m (by omega) _ h1, Option.bind_some, textR_some, textR_none, if_pos rfl, if_pos rfl, if_pos rfl, if_pos rfl, Va.awake_eq, Option.bind_some]
theorem j0_eq (l m : List UInt8) (n : Int) (b : Bool) (hb : b = false → l.length ≤ 5000 ∧ m.length ≤ 5000) (k : Nat) (hk : 100 ≤ k) : headgatelaw01_VarintTexts.j0 k (bs l) n (bs m) b = some true := by
  obtain ⟨k, rfl⟩ : ∃ q, k = q + 1 := ⟨k - 1, by omega⟩
  rw [headgatelaw01_VarintTexts.j0]
  cases b with
  | true => rw [if_pos rfl, Va.awake_eq, Option.bind_some]
  | false =>
    obtain ⟨hl, hm⟩ := hb rfl
    have e : ((bs (ptext l)).toList != (bs (ptext l)).toList) = false := by simp
    obtain ⟨k, rfl⟩ : ∃ q, k = q + 1 := ⟨k - 1, by omega⟩
    rw [if_neg (by decide), takeText_eq l (by omega), Option.bind_some, rtakeText_eq l (by omega) n (k + 1) (by omega), Option.bind_some, if_pos rfl, if_pos rfl, if_pos rfl, putText_eq l (by omega), Option.bind_some, rtext_eq l (by omega) (k + 1) (by omega), Option.bind_some, e]
    exact j1_eq l m hl hm k
theorem VarintTexts : headgatelaw01_VarintTexts.Pure := by
  intro s n t hs hn ht
  obtain ⟨l, rfl⟩ := bs_of s
  obtain ⟨m, rfl⟩ := bs_of t
  rw [size_bs] at hs ht
  refine ⟨100, ?_⟩
  unfold headgatelaw01_VarintTexts.f
  rw [size_bs, size_bs]
  by_cases h : (l.length : Int) > 5000
  · rw [if_pos h]
    exact j0_eq l m n true (fun h => by cases h) 100 (by omega)
  · rw [if_neg h]
    exact j0_eq l m n _ (fun h => by have := of_decide_eq_false h; omega) 100 (by omega)

end Go.Proofs.Ytdbgfkdjdddfmaa.Pure
