/- For any numbers and any place: but for the sum, what fold.All comes to is the same of the numbers in turned order; chapter 15's example holds. No condition. -/
import Derived.Test.YtpffggpedogifaaPx12
import Derived.Test.YtpffggpedogifaaFb
set_option linter.unusedVariables false
namespace Go.Proofs.Ytpffggpedogifaa.Pure
open Go.RowKit Go.Proofs.Ytpffggpedogifaa.Vm Go.Proofs.Ytpffggpedogifaa.Fa Go.Proofs.Ytpffggpedogifaa.Fb Go.Proofs.Ytpffggpedogifaa.P Go.Proofs.YtpffggpedogifaaW.PrintWords Go.Proofs.YtpffggpedogifaaW.PrintLast
theorem place2 (c n : Int) (h0 : 0 < n) (hn : n ≤ 301) : ∃ q : Nat, Int.tmod (wrap64 ((Int.tmod c n) + n)) n = (q : Int) ∧ (q : Int) < n := by
  have h : ∃ q, Int.tmod c n = q ∧ -n < q ∧ q < n := ⟨_, rfl, by have := Int.lt_tmod_of_pos c h0; omega, Int.tmod_lt_of_pos c h0⟩
  obtain ⟨q, hq, h1, h2⟩ := h
  rw [hq, w64 (x := q + n) (by omega) (by omega), Int.tmod_eq_emod_of_nonneg (by omega)]
  have h3 := Int.emod_nonneg (q + n) (show n ≠ 0 by omega)
  have h4 := Int.emod_lt_of_pos (q + n) h0
  exact ⟨((q + n) % n).toNat, by omega, by omega⟩
theorem order_l0 (l : List Int) (hl : ∀ x ∈ l, I64 x) (hn : l.length ≤ 300) (c : Int) (i : Nat) : ∀ (k : Nat), i ≤ l.length → i + 330 < k →
    headgatelaw15_FoldOrder.l0 k l c (l.drop i).reverse ((i : Int) - 1) = some true := by
  induction i with
  | zero =>
    intro k hi hk
    obtain ⟨k, rfl⟩ : ∃ m, k = m + 1 := ⟨k - 1, by omega⟩
    rw [List.drop_zero, headgatelaw15_FoldOrder.l0, if_neg (by omega)]
    have hm : ∀ x ∈ l.reverse, I64 x := fun x hx => hl x (List.mem_reverse.1 hx)
    have hlen : l.reverse.length = l.length := List.length_reverse
    by_cases hl0 : l.length = 0
    · rw [if_neg (by omega)]
      have e : l = [] := List.eq_nil_of_length_eq_zero hl0
      subst e
      rw [all_eq hl (by omega) _ (by omega), Option.bind_some, List.reverse_nil, all_eq hl (by omega) _ (by omega), Option.bind_some, if_pos (by rfl), awake_eq _ (by omega), Option.bind_some]
    · rw [if_pos (by omega), if_neg (by omega)]
      obtain ⟨q, hq, hlt⟩ := place2 c (l.reverse.length : Int) (by omega) (by omega)
      rw [hq, if_pos (by omega), if_pos (by omega), Int.toNat_natCast, Option.bind_some, if_pos (by rw [List.length_drop, List.length_nil]; omega), Option.bind_some, Option.bind_some, List.nil_append, if_pos (by rw [List.length_drop, List.length_take]; omega)]
      have hp : l.Perm (l.reverse.drop q ++ l.reverse.take q) := by
        refine (List.reverse_perm l).symm.trans ?_
        have h := List.perm_append_comm (l₁ := l.reverse.take q) (l₂ := l.reverse.drop q)
        rwa [List.take_append_drop] at h
      have hm2 : ∀ x ∈ l.reverse.drop q ++ l.reverse.take q, I64 x := fun x hx => hl x (hp.mem_iff.2 hx)
      have hn2 := hp.length_eq
      obtain ⟨e0, e1, e2, e3, e4, e5, e6, e7, e8⟩ := perm_is hp (by omega)
      rw [all_eq hl (by omega) _ (by omega), Option.bind_some, all_eq hm2 (by omega) _ (by omega), Option.bind_some]
      unfold Ag.t
      rw [e0, e1, e2, e3, e4, e5, e6, e7, e8, if_pos (by simp), awake_eq _ (by omega), Option.bind_some]
  | succ i ih =>
    intro k hi hk
    obtain ⟨k, rfl⟩ : ∃ m, k = m + 1 := ⟨k - 1, by omega⟩
    have hlt : i < l.length := by omega
    have hd : (l.drop (i + 1)).reverse ++ [l[i]] = (l.drop i).reverse := by rw [drop_at l i hlt, List.reverse_cons]
    have hlen : (l.drop (i + 1)).reverse.length ≤ 300 := by rw [List.length_reverse, List.length_drop]; omega
    have hx : (((i + 1 : Nat) : Int) - 1) = (i : Int) := by omega
    rw [hx, headgatelaw15_FoldOrder.l0, if_pos (by omega), if_pos (by omega), if_pos (by omega), if_pos (by omega), rd_at l i hlt, hd, w64 (by omega) (by omega)]
    exact ih k (by omega) (by omega)
theorem FoldOrder : headgatelaw15_FoldOrder.Pure := by
  intro l0 c h1 h2 h3 h4
  refine ⟨1000, ?_⟩
  unfold headgatelaw15_FoldOrder.f
  have hl := cut_i64 h3
  have hn := cut_len l0
  rw [some_eq, Option.bind_some, w64 (by omega) (by omega)]
  have H := order_l0 (cut l0) hl hn c (cut l0).length 1000 (by omega) (by omega)
  rwa [List.drop_length, List.reverse_nil] at H
end Go.Proofs.Ytpffggpedogifaa.Pure
