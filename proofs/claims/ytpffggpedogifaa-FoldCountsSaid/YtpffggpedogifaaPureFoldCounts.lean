/- For any numbers: fold.All counts them, each in its sort; the least and the greatest are among them, and none is beyond them; turns are counted by fours; chapter 15's example holds. No condition. -/
import Derived.Test.YtpffggpedogifaaPx14
import Derived.Test.YtpffggpedogifaaFb
set_option linter.unusedVariables false
namespace Go.Proofs.Ytpffggpedogifaa.Pure
open Go.RowKit Go.Proofs.Ytpffggpedogifaa.Vm Go.Proofs.Ytpffggpedogifaa.Fa Go.Proofs.Ytpffggpedogifaa.Fb Go.Proofs.Ytpffggpedogifaa.P Go.Proofs.YtpffggpedogifaaW.PrintWords Go.Proofs.YtpffggpedogifaaW.PrintLast
def inc (j v s : Int) : Int := if srt v = j then wrap64 (s + 1) else s
theorem counts_j1 (k : Nat) (l : List Int) (b6 b7 : Bool) (i v a0 a1 a2 a3 a4 a5 a6 a7 a8 a9 t0 t1 t2 t3 s0 s1 s2 s3 : Int) (h1 : a2 ≤ v) (h2 : v ≤ a3) :
    headgatelaw15_FoldCounts.j1 (k + 1) l b6 b7 i v a0 a1 a2 a3 a4 a5 a6 a7 a8 a9 t0 t1 t2 t3 s0 s1 s2 s3 = headgatelaw15_FoldCounts.l0 k l (b6 || v == a2) (b7 || v == a3) (wrap64 (i + 1)) a0 a1 a2 a3 a4 a5 a6 a7 a8 a9 t0 t1 t2 t3 (inc 0 v s0) (inc 1 v s1) (inc 2 v s2) (inc 3 v s3) := by
  have e1 : ¬ v < a2 := by omega
  have e2 : ¬ v > a3 := by omega
  rw [headgatelaw15_FoldCounts.j1]
  unfold inc srt
  by_cases c1 : v < 0
  · simp only [if_pos c1, if_neg e1, if_neg e2]
    cases b6 <;> cases b7 <;> rfl
  · simp only [if_neg c1]
    by_cases c2 : v < 10
    · simp only [if_pos c2, if_neg e1, if_neg e2]
      cases b6 <;> cases b7 <;> rfl
    · simp only [if_neg c2]
      by_cases c3 : v < 100
      · simp only [if_pos c3, if_neg e1, if_neg e2]
        cases b6 <;> cases b7 <;> rfl
      · simp only [if_neg c3, if_neg e1, if_neg e2]
        cases b6 <;> cases b7 <;> rfl
theorem inc_is (j : Int) (l : List Int) (v : Int) (hn : l.length ≤ 1000) : inc j v (cnt (fun v => srt v == j) l) = cnt (fun v => srt v == j) (l ++ [v]) := by
  unfold inc
  rw [cnt_snoc]
  have := cnt_le (fun v => srt v == j) l
  by_cases h : srt v = j
  · rw [if_pos h, if_pos (by simpa using h), w64 (by omega) (by omega)]
  · rw [if_neg h, if_neg (by simpa using h), Int.add_zero]
theorem tinc_is (j : Int) (l : List Int) (v : Int) (hn : l.length ≤ 1000) : (if v % 4 = j then wrap64 (cnt (fun v => v % 4 == j) l + 1) else cnt (fun v => v % 4 == j) l) = cnt (fun v => v % 4 == j) (l ++ [v]) := by
  rw [cnt_snoc]
  have := cnt_le (fun v => v % 4 == j) l
  by_cases h : v % 4 = j
  · rw [if_pos h, if_pos (by simpa using h), w64 (by omega) (by omega)]
  · rw [if_neg h, if_neg (by simpa using h), Int.add_zero]
theorem counts_l0 (l : List Int) (hl : ∀ x ∈ l, I64 x) (hn : l.length ≤ 300) (d : Nat) : ∀ (i k : Nat), l.length - i = d → i ≤ l.length → 2 * d + 330 < k →
    headgatelaw15_FoldCounts.l0 k l ((l.take i).any (· == (all l).lo)) ((l.take i).any (· == (all l).hi)) (i : Int) (all l).n (all l).s (all l).lo (all l).hi (all l).h0 (all l).h1 (all l).h2 (all l).h3 (all l).re (all l).im
      (cnt (fun v => v % 4 == 0) (l.take i)) (cnt (fun v => v % 4 == 1) (l.take i)) (cnt (fun v => v % 4 == 2) (l.take i)) (cnt (fun v => v % 4 == 3) (l.take i))
      (cnt (fun v => srt v == 0) (l.take i)) (cnt (fun v => srt v == 1) (l.take i)) (cnt (fun v => srt v == 2) (l.take i)) (cnt (fun v => srt v == 3) (l.take i)) = some true := by
  have I := all_is l (by omega)
  induction d with
  | zero =>
    intro i k hd hi hk
    obtain ⟨k, rfl⟩ : ∃ m, k = m + 1 := ⟨k - 1, by omega⟩
    rw [List.take_of_length_le (by omega), headgatelaw15_FoldCounts.l0, if_neg (by omega)]
    by_cases hl0 : l = []
    · subst hl0
      rw [if_pos (by rfl), if_pos (by rfl), awake_eq _ (by omega), Option.bind_some]
    · have hp := List.length_pos_iff.2 hl0
      have c0 := cnt_le (fun v => v % 4 == 0) l
      have c1 := cnt_le (fun v => v % 4 == 1) l
      have c2 := cnt_le (fun v => v % 4 == 2) l
      have c3 := cnt_le (fun v => v % 4 == 3) l
      rw [if_neg (by omega), if_pos I.n, if_pos (by rw [I.h0, I.h1, I.h2, I.h3]; simp), if_pos (List.any_eq_true.2 ⟨_, (I.lo hl0).1, by simp⟩), if_pos (List.any_eq_true.2 ⟨_, (I.hi hl0).1, by simp⟩), if_pos (by rw [w64 (by omega) (by omega)]; exact I.re), if_pos (by rw [w64 (by omega) (by omega)]; exact I.im), awake_eq _ (by omega), Option.bind_some]
  | succ d ih =>
    intro i k hd hi hk
    obtain ⟨k, rfl⟩ : ∃ m, k = m + 1 + 1 := ⟨k - 2, by omega⟩
    have hlt : i < l.length := by omega
    have hl0 : l ≠ [] := fun e => by subst e; simp at hlt
    have hm : l[i] ∈ l := List.getElem_mem hlt
    have b1 := (I.lo hl0).2 _ hm
    have b2 := (I.hi hl0).2 _ hm
    have H := ih (i + 1) k (by omega) (by omega) (by omega)
    have ht : (l.take i).length ≤ 1000 := by rw [List.length_take]; omega
    rw [List.take_succ_eq_append_getElem hlt, List.any_append, List.any_append, ← inc_is 0 _ _ ht, ← inc_is 1 _ _ ht, ← inc_is 2 _ _ ht, ← inc_is 3 _ _ ht, ← tinc_is 0 _ _ ht, ← tinc_is 1 _ _ ht, ← tinc_is 2 _ _ ht, ← tinc_is 3 _ _ ht] at H
    rw [headgatelaw15_FoldCounts.l0, if_pos (by omega), if_pos (by omega), rd_at l i hlt, fold_turn.and3]
    generalize l[i] = v at H b1 b2
    have hq : v % 4 = 0 ∨ v % 4 = 1 ∨ v % 4 = 2 ∨ v % 4 = 3 := by omega
    have hw : wrap64 ((i : Int) + 1) = ((i + 1 : Nat) : Int) := by rw [w64 (by omega) (by omega)]; omega
    rcases hq with e | e | e | e
    all_goals
      rw [e] at H ⊢
      simp only [if_true, reduceIte, Int.reduceEq, List.any_cons, List.any_nil, Bool.or_false] at H ⊢
      rw [counts_j1 _ _ _ _ _ _ _ _ _ _ _ _ _ _ _ _ _ _ _ _ _ _ _ _ b1 b2, hw]
      exact H
theorem FoldCounts : headgatelaw15_FoldCounts.Pure := by
  intro l0 h1 h2 h3
  refine ⟨1000, ?_⟩
  unfold headgatelaw15_FoldCounts.f
  have hl := cut_i64 h3
  have hn := cut_len l0
  rw [some_eq, Option.bind_some, all_eq hl (by omega) _ (by omega), Option.bind_some]
  exact counts_l0 (cut l0) hl hn _ 0 1000 rfl (by omega) (by omega)
end Go.Proofs.Ytpffggpedogifaa.Pure
