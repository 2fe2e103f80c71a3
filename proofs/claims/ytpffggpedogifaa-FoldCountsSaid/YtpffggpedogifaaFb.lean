/- What a row of numbers comes to, in closed form: how many, how many of each sort, the least, the greatest, the turns by fours. -/
import Derived.Test.YtpffggpedogifaaFa
set_option linter.unusedVariables false
namespace Go.Proofs.Ytpffggpedogifaa.Fb
open Go.RowKit Go.Proofs.Ytpffggpedogifaa.Vm Go.Proofs.Ytpffggpedogifaa.Fa Go.Proofs.Ytpffggpedogifaa.P Go.Proofs.YtpffggpedogifaaW.PrintWords Go.Proofs.YtpffggpedogifaaW.PrintLast
theorem snoc_ind {P : List Int → Prop} (h0 : P []) (h1 : ∀ l v, P l → P (l ++ [v])) (l : List Int) : P l := by
  rw [← List.reverse_reverse l]
  induction l.reverse with
  | nil => exact h0
  | cons v t ih => rw [List.reverse_cons]; exact h1 _ _ ih
def cnt (p : Int → Bool) (l : List Int) : Int := (l.countP p : Nat)
theorem cnt_snoc (p : Int → Bool) (l : List Int) (v : Int) : cnt p (l ++ [v]) = cnt p l + (if p v = true then 1 else 0) := by
  unfold cnt
  rw [List.countP_append, List.countP_singleton]
  split <;> simp
theorem cnt_le (p : Int → Bool) (l : List Int) : 0 ≤ cnt p l ∧ cnt p l ≤ l.length := by
  unfold cnt
  have := List.countP_le_length (p := p) (l := l)
  omega
theorem cnt_perm (p : Int → Bool) {l m : List Int} (h : l.Perm m) : cnt p l = cnt p m := by unfold cnt; rw [h.countP_eq]
structure Is (l : List Int) (a : Ag) : Prop where
  n : a.n = l.length
  h0 : a.h0 = cnt (fun v => srt v == 0) l
  h1 : a.h1 = cnt (fun v => srt v == 1) l
  h2 : a.h2 = cnt (fun v => srt v == 2) l
  h3 : a.h3 = cnt (fun v => srt v == 3) l
  re : a.re = cnt (fun v => v % 4 == 0) l - cnt (fun v => v % 4 == 2) l
  im : a.im = cnt (fun v => v % 4 == 1) l - cnt (fun v => v % 4 == 3) l
  lo : l ≠ [] → a.lo ∈ l ∧ ∀ x ∈ l, a.lo ≤ x
  hi : l ≠ [] → a.hi ∈ l ∧ ∀ x ∈ l, x ≤ a.hi
theorem bump_is (j : Int) (l : List Int) (v : Int) (hn : l.length ≤ 1000) {x : Int} (hx : x = cnt (fun v => srt v == j) l) : bump j v x = cnt (fun v => srt v == j) (l ++ [v]) := by
  unfold bump
  rw [cnt_snoc, hx]
  have := cnt_le (fun v => srt v == j) l
  by_cases h : srt v = j
  · rw [if_pos h, if_pos (by simpa using h), sat_of (by unfold I64; omega)]
  · rw [if_neg h, if_neg (by simpa using h), Int.add_zero]
theorem turn_is (p q : Int) (hpq : p ≠ q) (l : List Int) (v : Int) (hn : l.length ≤ 1000) {x : Int} (hx : x = cnt (fun v => v % 4 == p) l - cnt (fun v => v % 4 == q) l) :
    (if v % 4 = p then sat (x + 1) else if v % 4 = q then sat (x + -1) else x) = cnt (fun v => v % 4 == p) (l ++ [v]) - cnt (fun v => v % 4 == q) (l ++ [v]) := by
  rw [cnt_snoc, cnt_snoc, hx]
  have h1 := cnt_le (fun v => v % 4 == p) l
  have h2 := cnt_le (fun v => v % 4 == q) l
  by_cases h : v % 4 = p
  · rw [if_pos h, if_pos (by simpa using h), if_neg (by simp; omega), sat_of (by unfold I64; omega)]
    omega
  · rw [if_neg h]
    by_cases h' : v % 4 = q
    · rw [if_pos h', if_neg (by simpa using h), if_pos (by simpa using h'), sat_of (by unfold I64; omega)]
      omega
    · rw [if_neg h', if_neg (by simpa using h), if_neg (by simpa using h')]
      omega
theorem all_snoc (l : List Int) (v : Int) : all (l ++ [v]) = add (all l) v := by simp [all]
theorem all_is (l : List Int) : l.length ≤ 1000 → Is l (all l) := by
  refine snoc_ind (P := fun l => l.length ≤ 1000 → Is l (all l)) ?_ ?_ l
  · intro _
    exact ⟨rfl, rfl, rfl, rfl, rfl, rfl, rfl, fun h => absurd rfl h, fun h => absurd rfl h⟩
  · intro l v ih hn
    rw [List.length_append, List.length_singleton] at hn
    have I := ih (by omega)
    rw [all_snoc]
    refine ⟨?_, bump_is 0 l v (by omega) I.h0, bump_is 1 l v (by omega) I.h1, bump_is 2 l v (by omega) I.h2, bump_is 3 l v (by omega) I.h3, turn_is 0 2 (by decide) l v (by omega) I.re, turn_is 1 3 (by decide) l v (by omega) I.im, ?_, ?_⟩
    · show sat ((all l).n + 1) = _
      rw [I.n, sat_of (by unfold I64; omega), List.length_append, List.length_singleton]
      omega
    · intro _
      show (if (all l).n = 0 then v else mn (all l).lo v) ∈ l ++ [v] ∧ ∀ x ∈ l ++ [v], (if (all l).n = 0 then v else mn (all l).lo v) ≤ x
      by_cases hl : l = []
      · subst hl
        rw [if_pos (by rw [I.n]; rfl)]
        simp
      · have hp := List.length_pos_iff.2 hl
        obtain ⟨h1, h2⟩ := I.lo hl
        rw [if_neg (by rw [I.n]; omega)]
        unfold mn
        refine ⟨by split <;> simp [h1], fun x hx => ?_⟩
        rcases List.mem_append.1 hx with hx | hx
        · have := h2 x hx
          split <;> omega
        · rw [List.mem_singleton.1 hx]
          split <;> omega
    · intro _
      show (if (all l).n = 0 then v else mx (all l).hi v) ∈ l ++ [v] ∧ ∀ x ∈ l ++ [v], x ≤ (if (all l).n = 0 then v else mx (all l).hi v)
      by_cases hl : l = []
      · subst hl
        rw [if_pos (by rw [I.n]; rfl)]
        simp
      · have hp := List.length_pos_iff.2 hl
        obtain ⟨h1, h2⟩ := I.hi hl
        rw [if_neg (by rw [I.n]; omega)]
        unfold mx
        refine ⟨by split <;> simp [h1], fun x hx => ?_⟩
        rcases List.mem_append.1 hx with hx | hx
        · have := h2 x hx
          split <;> omega
        · rw [List.mem_singleton.1 hx]
          split <;> omega
theorem perm_is {l m : List Int} (h : l.Perm m) (hn : l.length ≤ 1000) : (all l).n = (all m).n ∧ (all l).lo = (all m).lo ∧ (all l).hi = (all m).hi ∧ (all l).h0 = (all m).h0 ∧ (all l).h1 = (all m).h1 ∧ (all l).h2 = (all m).h2 ∧ (all l).h3 = (all m).h3 ∧ (all l).re = (all m).re ∧ (all l).im = (all m).im := by
  have I := all_is l hn
  have J := all_is m (by rw [← h.length_eq]; exact hn)
  refine ⟨by rw [I.n, J.n, h.length_eq], ?_, ?_, by rw [I.h0, J.h0, cnt_perm _ h], by rw [I.h1, J.h1, cnt_perm _ h], by rw [I.h2, J.h2, cnt_perm _ h], by rw [I.h3, J.h3, cnt_perm _ h], by rw [I.re, J.re, cnt_perm _ h, cnt_perm _ h], by rw [I.im, J.im, cnt_perm _ h, cnt_perm _ h]⟩
  · by_cases hl : l = []
    · subst hl
      rw [List.nil_perm.1 h]
    · have hm : m ≠ [] := fun e => hl (by subst e; exact List.perm_nil.1 h)
      obtain ⟨a1, a2⟩ := I.lo hl
      obtain ⟨b1, b2⟩ := J.lo hm
      have := a2 _ (h.mem_iff.2 b1)
      have := b2 _ (h.mem_iff.1 a1)
      omega
  · by_cases hl : l = []
    · subst hl
      rw [List.nil_perm.1 h]
    · have hm : m ≠ [] := fun e => hl (by subst e; exact List.perm_nil.1 h)
      obtain ⟨a1, a2⟩ := I.hi hl
      obtain ⟨b1, b2⟩ := J.hi hm
      have := a2 _ (h.mem_iff.2 b1)
      have := b2 _ (h.mem_iff.1 a1)
      omega
end Go.Proofs.Ytpffggpedogifaa.Fb
