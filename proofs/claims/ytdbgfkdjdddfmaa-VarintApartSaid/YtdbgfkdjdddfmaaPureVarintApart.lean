/- For any two numbers: their bytes, cut to the shorter one's length, are alike just where the numbers are. No condition. -/
import Derived.Test.YtdbgfkdjdddfmaaPx
import Derived.Test.YtdbgfkdjdddfmaaVa
set_option linter.unusedVariables false
namespace Go.Proofs.Ytdbgfkdjdddfmaa.Pure
open Go.RowKit Go.Proofs.Ytdbgfkdjdddfmaa.Vm Go.Proofs.Ytdbgfkdjdddfmaa.Vref Go.Proofs.Ytdbgfkdjdddfmaa.Vp Go.Proofs.Ytdbgfkdjdddfmaa.P Go.Proofs.YtdbgfkdjdddfmaaW.PrintWords Go.Proofs.YtdbgfkdjdddfmaaW.PrintLast

theorem take_app (a b : List UInt8) : a = a.take (min a.length b.length) ++ a.drop (min a.length b.length) := (List.take_append_drop _ _).symm
theorem apart {a b : Int} (ha : I64 a) (hb : I64 b) (k : Nat) (hk : k = min (enc a).length (enc b).length) : ((enc a).take k = (enc b).take k) ↔ a = b := by
  constructor
  · intro h
    rcases Nat.le_total (enc a).length (enc b).length with hl | hl
    · have e1 : (enc a).take k = enc a := List.take_of_length_le (by omega)
      rw [e1] at h
      have e2 : enc a ++ (enc b).drop k = enc b ++ [] := by rw [h, List.take_append_drop, List.append_nil]
      exact (enc_inj ha hb e2).1
    · have e1 : (enc b).take k = enc b := List.take_of_length_le (by omega)
      rw [e1] at h
      have e2 : enc a ++ [] = enc b ++ (enc a).drop k := by rw [← h, List.take_append_drop, List.append_nil]
      exact (enc_inj ha hb e2).1
  · rintro rfl; rfl
theorem mn_min (a b : Nat) : mn (a : Int) (b : Int) = ((min a b : Nat) : Int) := by unfold mn; split <;> omega
theorem VarintApart : headgatelaw01_VarintApart.Pure := by
  intro a b ha hb
  unfold headgatelaw01_VarintApart.f
  rw [put_eq (i64_of ha), Option.bind_some, put_eq (i64_of hb), Option.bind_some, size_bs, size_bs, mn_min]
  have h := apart (i64_of ha) (i64_of hb) _ rfl
  rw [if_pos (by omega), if_pos (by omega), if_pos (by omega), Int.toNat_natCast, extract_bs, extract_bs, toList_bs, toList_bs, Nat.sub_zero, List.drop_zero, List.drop_zero]
  have e : (((enc a).take (min (enc a).length (enc b).length) == (enc b).take (min (enc a).length (enc b).length)) == (a == b)) = true := by
    rw [beq_iff_eq, Bool.eq_iff_iff, beq_iff_eq, beq_iff_eq]
    exact h
  rw [if_pos e, Va.awake_eq, Option.bind_some]

end Go.Proofs.Ytdbgfkdjdddfmaa.Pure
