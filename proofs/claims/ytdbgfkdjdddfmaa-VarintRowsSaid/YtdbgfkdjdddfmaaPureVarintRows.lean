/- For any numbers, any text and any count: varint.PutAll, varint.TakeAll tell what the document's references tell. No condition. -/
import Derived.Test.YtdbgfkdjdddfmaaPx
import Derived.Test.YtdbgfkdjdddfmaaVa
set_option linter.unusedVariables false
namespace Go.Proofs.Ytdbgfkdjdddfmaa.Pure
open Go.RowKit Go.Proofs.Ytdbgfkdjdddfmaa.Vm Go.Proofs.Ytdbgfkdjdddfmaa.Vref Go.Proofs.Ytdbgfkdjdddfmaa.Vp Go.Proofs.Ytdbgfkdjdddfmaa.P Go.Proofs.YtdbgfkdjdddfmaaW.PrintWords Go.Proofs.YtdbgfkdjdddfmaaW.PrintLast

theorem VarintRows : headgatelaw01_VarintRows.Pure := by
  intro xs s n hm hl hall hs hn
  obtain ⟨l, rfl⟩ := bs_of s
  rw [size_bs] at hs
  refine ⟨1000, ?_⟩
  have hj : ∀ b : Bool, (b = false → xs.length ≤ 200 ∧ l.length ≤ 5000) → headgatelaw01_VarintRows.j0 1000 xs (bs l) n b = some true := by
    intro b hb
    rw [show (1000 : Nat) = 999 + 1 from rfl, headgatelaw01_VarintRows.j0]
    cases b with
    | true => rw [if_pos rfl, Va.awake_eq, Option.bind_some]
    | false =>
      obtain ⟨h1, h2⟩ := hb rfl
      have ha : ∀ x ∈ xs, I64 x := fun x hx => i64_of (hall x hx)
      have hsz : (takeAllR l n).1.length ≤ 9223372036854775800 ∧ (takeAllR l n).1.length < 999 := by
        unfold takeAllR
        split
        · exact ⟨by simp, by simp⟩
        · rename_i hc
          cases hd : decN n.toNat l with
          | none => exact ⟨by simp [allR], by simp [allR]⟩
          | some p =>
            have := ((decN_iff _ _ p.1 p.2).1 hd).2.1
            simp only [allR]
            omega
      rw [if_neg (by decide), takeAll_eq l (by omega) n 999 (by omega), Option.bind_some, rtakeAll_eq l (by omega) n 999 (by omega), Option.bind_some, putAll_eq xs (by omega) ha, Option.bind_some, rall_eq xs (by omega) ha 999 (by omega), Option.bind_some, if_pos rfl, rsame_eq _ _ hsz.1 999 hsz.2, Option.bind_some, if_pos (decide_eq_true rfl), if_pos rfl, if_pos rfl, Va.awake_eq, Option.bind_some]
  unfold headgatelaw01_VarintRows.f
  rw [size_bs]
  by_cases h : (xs.length : Int) > 200
  · rw [if_pos h]
    exact hj true (fun h => by cases h)
  · rw [if_neg h]
    exact hj _ (fun h => by have := of_decide_eq_false h; omega)

end Go.Proofs.Ytdbgfkdjdddfmaa.Pure
