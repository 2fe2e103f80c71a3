/- For any numbers: fold.All's sum is that of all of them, staying at the end of 64 bits that it comes to, and going on from there; chapter 15's example holds. No condition. -/
import Derived.Test.YtpffggpedogifaaPx13
import Derived.Test.YtpffggpedogifaaFa
set_option linter.unusedVariables false
namespace Go.Proofs.Ytpffggpedogifaa.Pure
open Go.RowKit Go.Proofs.Ytpffggpedogifaa.Vm Go.Proofs.Ytpffggpedogifaa.Fa Go.Proofs.Ytpffggpedogifaa.P Go.Proofs.YtpffggpedogifaaW.PrintWords Go.Proofs.YtpffggpedogifaaW.PrintLast
theorem sums_j1 (l : List Int) {s v : Int} (hs : I64 s) (hv : I64 v) (i : Int) (k : Nat) :
    (if v > 0 then (headgatelaw15_FoldSums.j1 (k + 1) l s i v (decide (s > (wrap64 (9223372036854775807 - v))))) else (headgatelaw15_FoldSums.j1 (k + 1) l s i v false)) = headgatelaw15_FoldSums.l0 k l (sat (s + v)) (wrap64 (i + 1)) := by
  have hc := wrap_cases hs hv
  unfold I64 at hs hv
  unfold sat
  simp only [headgatelaw15_FoldSums.j1, decide_eq_true_eq, Bool.false_eq_true, if_false]
  split
  · rw [w64 (x := 9223372036854775807 - v) (by omega) (by omega)]
    generalize wrap64 (s + v) = c at hc
    split
    · rw [if_pos (by omega)]
    · rw [if_neg (by omega), if_neg (by omega), if_neg (by omega)]; congr 1; omega
  · split
    · rw [w64 (x := -9223372036854775808 - v) (by omega) (by omega)]
      generalize wrap64 (s + v) = c at hc
      split
      · rw [if_neg (by omega), if_pos (by omega)]
      · rw [if_neg (by omega), if_neg (by omega)]; congr 1; omega
    · generalize wrap64 (s + v) = c at hc
      rw [if_neg (by omega), if_neg (by omega)]; congr 1; omega
theorem foldl_s (l : List Int) : ∀ a : Ag, (l.foldl add a).s = l.foldl (fun s v => sat (s + v)) a.s := by
  induction l with
  | nil => intro a; rfl
  | cons v t ih => intro a; exact ih (add a v)
theorem sums_l0 (l : List Int) (hl : ∀ x ∈ l, I64 x) (hn : l.length ≤ 300) (d : Nat) : ∀ (i k : Nat) (s : Int), l.length - i = d → i ≤ l.length → 2 * d + 330 < k → I64 s → (l.drop i).foldl (fun s v => sat (s + v)) s = (all l).s →
    headgatelaw15_FoldSums.l0 k l s (i : Int) = some true := by
  induction d with
  | zero =>
    intro i k s hd hi hk hs he
    obtain ⟨k, rfl⟩ : ∃ m, k = m + 1 := ⟨k - 1, by omega⟩
    rw [List.drop_of_length_le (by omega)] at he
    rw [headgatelaw15_FoldSums.l0, if_neg (by omega), all_eq hl (by omega) _ (by omega), Option.bind_some]
    rw [if_pos (show (all l).t.snd.fst = s from he.symm), awake_eq _ (by omega), Option.bind_some]
  | succ d ih =>
    intro i k s hd hi hk hs he
    obtain ⟨k, rfl⟩ : ∃ m, k = m + 1 + 1 := ⟨k - 2, by omega⟩
    have hlt : i < l.length := by omega
    have hv : I64 l[i] := hl _ (List.getElem_mem hlt)
    rw [drop_at l i hlt] at he
    rw [headgatelaw15_FoldSums.l0, if_pos (by omega), if_pos (by omega), rd_at l i hlt, sums_j1 l hs hv, w64 (by omega) (by omega)]
    exact ih (i + 1) k _ (by omega) (by omega) (by omega) (sat_i64 _) he
theorem FoldSums : headgatelaw15_FoldSums.Pure := by
  intro l0 h1 h2 h3
  refine ⟨1000, ?_⟩
  unfold headgatelaw15_FoldSums.f
  rw [some_eq, Option.bind_some]
  have hn := cut_len l0
  exact sums_l0 (cut l0) (cut_i64 h3) hn _ 0 1000 0 rfl (by omega) (by omega) i64_0 (by rw [List.drop_zero]; exact (foldl_s (cut l0) zero).symm)
end Go.Proofs.Ytpffggpedogifaa.Pure
