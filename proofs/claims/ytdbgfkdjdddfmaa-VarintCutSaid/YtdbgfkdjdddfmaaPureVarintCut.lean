/- For any numbers (64 at most), any cut and any text behind them: what varint.PutAll laid is taken whole by varint.TakeAll, and cut off ahead of its end it is fewer. No condition. -/
import Derived.Test.YtdbgfkdjdddfmaaPx
import Derived.Test.YtdbgfkdjdddfmaaVa
set_option linter.unusedVariables false
namespace Go.Proofs.Ytdbgfkdjdddfmaa.Pure
open Go.RowKit Go.Proofs.Ytdbgfkdjdddfmaa.Vm Go.Proofs.Ytdbgfkdjdddfmaa.Vref Go.Proofs.Ytdbgfkdjdddfmaa.Vp Go.Proofs.Ytdbgfkdjdddfmaa.P Go.Proofs.YtdbgfkdjdddfmaaW.PrintWords Go.Proofs.YtdbgfkdjdddfmaaW.PrintLast
theorem decN_enc (n : Nat) (xs : List Int) (r : List UInt8) (hn : xs.length = n) (h : ∀ x ∈ xs, I64 x) : decN n (xs.flatMap enc ++ r) = some (xs, r) := (decN_iff n _ _ _).2 ⟨rfl, hn, h⟩
/-- Bytes that are cut off ahead of their end begin with fewer numbers. -/
theorem decN_cut (n : Nat) (xs : List Int) (c : Nat) (hn : xs.length = n) (h : ∀ x ∈ xs, I64 x) (hc : c < (xs.flatMap enc).length) : decN n ((xs.flatMap enc).take c) = none := by
  cases hd : decN n ((xs.flatMap enc).take c) with
  | none => rfl
  | some p =>
    exfalso
    obtain ⟨ys, r⟩ := p
    obtain ⟨h1, h2, h3⟩ := (decN_iff n _ _ _).1 hd
    have h4 : xs.flatMap enc = ys.flatMap enc ++ (r ++ (xs.flatMap enc).drop c) := by rw [← List.append_assoc, ← h1, List.take_append_drop]
    have h5 := decN_enc n xs [] hn h
    rw [List.append_nil, h4, decN_enc n ys _ h2 h3] at h5
    simp only [Option.some.injEq, Prod.mk.injEq, List.append_eq_nil_iff] at h5
    have h6 := h5.2.2
    rw [List.drop_eq_nil_iff] at h6
    omega
theorem takeAllR_ok (l : List UInt8) (n : Nat) (h : n ≤ 64) : takeAllR l (n : Int) = allR (decN n l) := by
  unfold takeAllR
  rw [if_neg (by omega), Int.toNat_natCast]
theorem VarintCut : headgatelaw01_VarintCut.Pure := by
  intro l0 a1 a2 hl hall h1 h2
  obtain ⟨m, rfl⟩ := bs_of a2
  rw [size_bs] at h2
  have hlen : (l0.take 64).length ≤ 64 := List.length_take_le 64 l0
  have hx : ∀ x ∈ l0.take 64, I64 x := fun x hx => i64_of (hall x (List.mem_of_mem_take hx))
  generalize l0.take 64 = xs at hlen hx
  have hb := varint_PutAll.len xs
  refine ⟨300, bs (xs.flatMap enc), xs, bs m, putAll_eq xs (by omega) hx, by rw [size_bs]; omega, ?_, ?_, rfl, ?_, Va.awake_eq⟩
  · rw [append_bs, takeAll_eq _ (by rw [List.length_append]; omega) _ 300 (by omega), takeAllR_ok _ _ hlen, decN_enc _ xs m rfl hx]
    rfl
  · rw [rsame_eq xs xs (by omega) 300 (by omega)]
    simp
  · intro c0 c1
    rw [size_bs] at c1
    refine ⟨[], bs [], ?_⟩
    rw [extract_bs, List.drop_zero, Nat.sub_zero, takeAll_eq _ (by rw [List.length_take]; omega) _ 300 (by omega), takeAllR_ok _ _ hlen, decN_cut _ xs a1.toNat rfl hx (by omega)]
    rfl
end Go.Proofs.Ytdbgfkdjdddfmaa.Pure
