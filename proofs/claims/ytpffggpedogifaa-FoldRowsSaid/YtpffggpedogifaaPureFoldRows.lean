/- For any numbers and any place: fold.All comes to what the document's reference comes to, and taking the numbers in two parts comes to the same; chapter 15's example holds. No condition. -/
import Derived.Test.YtpffggpedogifaaPx11
import Derived.Test.YtpffggpedogifaaFa
set_option linter.unusedVariables false
namespace Go.Proofs.Ytpffggpedogifaa.Pure
open Go.RowKit Go.Proofs.Ytpffggpedogifaa.Vm Go.Proofs.Ytpffggpedogifaa.Fa Go.Proofs.Ytpffggpedogifaa.P Go.Proofs.YtpffggpedogifaaW.PrintWords Go.Proofs.YtpffggpedogifaaW.PrintLast
theorem rows_l0 (l : List Int) (hl : ∀ x ∈ l, I64 x) (hn : l.length ≤ 300) (d : Nat) : ∀ (i k : Nat) (a : Ag), l.length - i = d → i ≤ l.length → d + 25 < k → a.I → (l.drop i).foldl add a = all l →
    headgatelaw15_FoldRows.l0 k l (i : Int) (all l).n (all l).s (all l).lo (all l).hi (all l).h0 (all l).h1 (all l).h2 (all l).h3 (all l).re (all l).im a.n a.s a.lo a.hi a.h0 a.h1 a.h2 a.h3 a.re a.im = some true := by
  induction d with
  | zero =>
    intro i k a hd hi hk ha he
    obtain ⟨k, rfl⟩ : ∃ m, k = m + 1 := ⟨k - 1, by omega⟩
    rw [List.drop_of_length_le (by omega)] at he
    subst he
    rw [headgatelaw15_FoldRows.l0, if_neg (by omega)]
    rw [if_pos (by simp), awake_eq _ (by omega), Option.bind_some]
  | succ d ih =>
    intro i k a hd hi hk ha he
    obtain ⟨k, rfl⟩ : ∃ m, k = m + 3 + 1 := ⟨k - 4, by omega⟩
    have hlt : i < l.length := by omega
    have hv : I64 l[i] := hl _ (List.getElem_mem hlt)
    rw [drop_at l i hlt] at he
    rw [headgatelaw15_FoldRows.l0, if_pos (by omega), if_pos (by omega), rd_at l i hlt, add_eq ha hv, Option.bind_some, w64 (by omega) (by omega)]
    exact ih (i + 1) (k + 3) (add a l[i]) (by omega) (by omega) (by omega) (add_I ha hv) he
theorem place (c n : Int) (h0 : 0 < n) (hn : n ≤ 301) : ∃ q : Nat, Int.tmod (wrap64 ((wrap64 ((Int.tmod c n) + (n - 1))) + 1)) n = (q : Int) ∧ (q : Int) < n := by
  have h : ∃ q, Int.tmod c n = q ∧ -n < q ∧ q < n := ⟨_, rfl, by have := Int.lt_tmod_of_pos c h0; omega, Int.tmod_lt_of_pos c h0⟩
  obtain ⟨q, hq, h1, h2⟩ := h
  rw [hq, w64 (x := q + (n - 1)) (by omega) (by omega), w64 (by omega) (by omega), Int.tmod_eq_emod_of_nonneg (by omega)]
  have h3 := Int.emod_nonneg (q + (n - 1) + 1) (show n ≠ 0 by omega)
  have h4 := Int.emod_lt_of_pos (q + (n - 1) + 1) h0
  exact ⟨((q + (n - 1) + 1) % n).toNat, by omega, by omega⟩
theorem FoldRows : headgatelaw15_FoldRows.Pure := by
  intro l0 c h1 h2 h3 h4
  refine ⟨400, ?_⟩
  unfold headgatelaw15_FoldRows.f
  rw [some_eq, Option.bind_some]
  have hl := cut_i64 h3
  have hn := cut_len l0
  generalize cut l0 = l at hl hn
  rw [all_eq hl (by omega) _ (by omega), Option.bind_some, rall_eq hl (by omega) _ (by omega), Option.bind_some, if_neg (by simp), w64 (x := (l.length : Int) + 1) (by omega) (by omega), if_neg (by omega)]
  obtain ⟨q, hq, hlt⟩ := place c ((l.length : Int) + 1) (by omega) (by omega)
  rw [show (l.length : Int) + 1 - 1 = (l.length : Int) by omega] at hq
  rw [hq, if_pos (by omega), if_pos (by omega), Int.toNat_natCast]
  have hl2 : ∀ x ∈ l.take q, I64 x := fun x hx => hl x (List.mem_of_mem_take hx)
  have hn2 : (l.take q).length ≤ 300 := by rw [List.length_take]; omega
  rw [all_eq hl2 (by omega) _ (by omega), Option.bind_some]
  refine rows_l0 l hl hn (l.length - q) q 400 (all (l.take q)) rfl (by omega) (by omega) (all_I hl2) ?_
  unfold all
  rw [← List.foldl_append, List.take_append_drop]
end Go.Proofs.Ytpffggpedogifaa.Pure
