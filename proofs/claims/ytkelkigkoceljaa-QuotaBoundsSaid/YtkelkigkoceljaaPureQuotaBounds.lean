/- In any row of ticks (60 requests at the most), by any rate that may be, nobody is let through with more than Most, and Tick for each tick. No condition. -/
import Derived.Test.YtkelkigkoceljaaPx2
import Derived.Test.YtkelkigkoceljaaPx3
import Derived.Test.YtkelkigkoceljaaPx4
import Derived.Test.YtkelkigkoceljaaPx5
import Derived.Test.YtkelkigkoceljaaPx6
import Derived.Test.YtkelkigkoceljaaPx7
import Derived.Test.YtkelkigkoceljaaPx13
set_option linter.unusedVariables false
set_option linter.unusedSimpArgs false
namespace Go.Proofs.Ytkelkigkoceljaa.Qt
open Go.RowKit Go.Proofs.Ytkelkigkoceljaa.P Go.Proofs.YtkelkigkoceljaaW.PrintWords Go.Proofs.YtkelkigkoceljaaW.PrintLast Go.Proofs.YtkelkigkoceljaaW.PrintMore
theorem w64 {x : Int} (h0 : -9223372036854775808 ≤ x) (h1 : x ≤ 9223372036854775807) : wrap64 x = x := by unfold wrap64; omega
theorem rd_at (s : List S49) (j : Nat) (h : j < s.length) : rd_T49 s (j : Int) = s[j] := by
  simp [rd_T49, List.getD_eq_getElem?_getD, List.getElem?_eq_getElem h]
def headB (tick most now : Int) (n : Nat) : Bool := decide (1 ≤ tick ∧ tick ≤ 1048576 ∧ 1 ≤ most ∧ most ≤ 1048576 ∧ 0 ≤ now ∧ now ≤ 1099511627776 ∧ n ≤ 64)
def oneB (most now : Int) (x : S49) : Bool := decide (0 ≤ x.f0 ∧ x.f0 ≤ 1099511627776 ∧ 0 ≤ x.f1 ∧ x.f1 ≤ most ∧ 0 ≤ x.f2 ∧ x.f2 ≤ now)
def upB (l : List S49) : Bool := decide (l.Pairwise fun a b => a.f0 < b.f0)
def rightB (tick most : Int) (l : List S49) (now : Int) : Bool := headB tick most now l.length && l.all (oneB most now) && upB l
theorem rightB_iff {tick most : Int} {l : List S49} {now : Int} : rightB tick most l now = true ↔ (1 ≤ tick ∧ tick ≤ 1048576 ∧ 1 ≤ most ∧ most ≤ 1048576 ∧ 0 ≤ now ∧ now ≤ 1099511627776 ∧ l.length ≤ 64) ∧ (∀ x ∈ l, 0 ≤ x.f0 ∧ x.f0 ≤ 1099511627776 ∧ 0 ≤ x.f1 ∧ x.f1 ≤ most ∧ 0 ≤ x.f2 ∧ x.f2 ≤ now) ∧ l.Pairwise fun a b => a.f0 < b.f0 := by
  unfold rightB headB oneB upB
  simp only [Bool.and_eq_true, decide_eq_true_eq, List.all_eq_true, and_assoc]
/-- Rows that rise from one to the next. -/
theorem pair_of {l : List S49} (h : ∀ j, (hj : j + 1 < l.length) → (l[j]'(by omega)).f0 < l[j + 1].f0) : l.Pairwise fun a b => a.f0 < b.f0 := by
  rw [List.pairwise_iff_getElem]
  intro i j hi hj hij
  obtain ⟨d, rfl⟩ : ∃ d, j = i + 1 + d := ⟨j - (i + 1), by omega⟩
  clear hij
  induction d with
  | zero => exact h i hj
  | succ d ih =>
    have h1 := ih (by omega)
    have h2 := h (i + 1 + d) hj
    exact Int.lt_trans h1 h2
theorem of_pair {l : List S49} (h : l.Pairwise fun a b => a.f0 < b.f0) (j : Nat) (hj : j + 1 < l.length) : (l[j]'(by omega)).f0 < l[j + 1].f0 := List.pairwise_iff_getElem.1 h j (j + 1) (by omega) hj (by omega)
/-- What one round asks of an element. -/
def G (most now : Int) (l : List S49) (j : Nat) (h : j < l.length) : Prop := (0 ≤ l[j].f0 ∧ l[j].f0 ≤ 1099511627776 ∧ 0 ≤ l[j].f1 ∧ l[j].f1 ≤ most ∧ 0 ≤ l[j].f2 ∧ l[j].f2 ≤ now) ∧ (0 < j → (l[j - 1]'(by omega)).f0 < l[j].f0)
theorem all_G {most now : Int} {l : List S49} : (∀ j, (h : j < l.length) → G most now l j h) ↔ (∀ x ∈ l, 0 ≤ x.f0 ∧ x.f0 ≤ 1099511627776 ∧ 0 ≤ x.f1 ∧ x.f1 ≤ most ∧ 0 ≤ x.f2 ∧ x.f2 ≤ now) ∧ l.Pairwise fun a b => a.f0 < b.f0 := by
  constructor
  · intro h
    refine ⟨fun x hx => ?_, pair_of fun j hj => by have := (h (j + 1) hj).2 (by omega); simpa using this⟩
    obtain ⟨j, hj, rfl⟩ := List.getElem_of_mem hx
    exact (h j hj).1
  · rintro ⟨h1, h2⟩ j hj
    refine ⟨h1 _ (List.getElem_mem hj), fun h0 => ?_⟩
    have := of_pair h2 (j - 1) (by omega)
    simpa [show j - 1 + 1 = j by omega] using this
theorem right_l0 (tick most now : Int) (l : List S49) (hl : l.length ≤ 9223372036854775807) (d : Nat) : ∀ (j k : Nat), l.length - j = d → j ≤ l.length → d < k →
    (∃ b, quota_right.l0 k l now true (j : Int) tick most = some b ∧ (b = true ↔ ∀ i, (h : i < l.length) → j ≤ i → G most now l i h)) ∧ quota_right.l0 k l now false (j : Int) tick most = some false := by
  induction d with
  | zero =>
    intro j k hd hj hk
    obtain ⟨k, rfl⟩ : ∃ m, k = m + 1 := ⟨k - 1, by omega⟩
    refine ⟨⟨true, ?_, by simp; intro i h1 h2; omega⟩, ?_⟩
    · rw [quota_right.l0, if_pos rfl, if_neg (by omega)]
    · rw [quota_right.l0, if_neg (by decide)]
  | succ d ih =>
    intro j k hd hj hk
    obtain ⟨k, rfl⟩ : ∃ m, k = m + 1 := ⟨k - 1, by omega⟩
    have hlt : j < l.length := by omega
    have e1 : wrap64 ((j : Int) + 1) = ((j + 1 : Nat) : Int) := by rw [w64 (by omega) (by omega)]; omega
    obtain ⟨⟨b, hb, hbi⟩, hf⟩ := ih (j + 1) k (by omega) (by omega) (by omega)
    refine ⟨?_, by rw [quota_right.l0, if_neg (by decide)]⟩
    rw [quota_right.l0, if_pos rfl, if_pos (by omega), if_pos (by omega), rd_at l j hlt, e1, hf]
    by_cases g : G most now l j hlt
    · obtain ⟨⟨g1, g2, g3, g4, g5, g6⟩, g7⟩ := g
      have hall : (∀ i, (h : i < l.length) → j ≤ i → G most now l i h) ↔ (∀ i, (h : i < l.length) → j + 1 ≤ i → G most now l i h) :=
        ⟨fun h i hi hij => h i hi (by omega), fun h i hi hij => by
          by_cases e : i = j
          · subst e; exact ⟨⟨g1, g2, g3, g4, g5, g6⟩, g7⟩
          · exact h i hi (by omega)⟩
      rw [if_pos g1, if_pos g2, if_pos g3, if_pos g4, if_pos g5, if_pos g6]
      by_cases h0 : j = 0
      · subst h0
        rw [if_pos (by omega)]
        exact ⟨b, hb, hbi.trans hall.symm⟩
      · have e2 : wrap64 ((j : Int) - 1) = ((j - 1 : Nat) : Int) := by rw [w64 (by omega) (by omega)]; omega
        rw [if_neg (by omega), e2, if_pos (by omega), if_pos (by omega), rd_at l (j - 1) (by omega), decide_eq_true (g7 (by omega))]
        exact ⟨b, hb, hbi.trans hall.symm⟩
    · refine ⟨false, ?_, ⟨fun h => by simp at h, fun h => (g (h j hlt (Nat.le_refl _))).elim⟩⟩
      by_cases g1 : l[j].f0 ≥ 0
      · rw [if_pos g1]
        by_cases g2 : l[j].f0 ≤ 1099511627776
        · rw [if_pos g2]
          by_cases g3 : l[j].f1 ≥ 0
          · rw [if_pos g3]
            by_cases g4 : l[j].f1 ≤ most
            · rw [if_pos g4]
              by_cases g5 : l[j].f2 ≥ 0
              · rw [if_pos g5]
                by_cases g6 : l[j].f2 ≤ now
                · rw [if_pos g6]
                  have h0 : j ≠ 0 := fun h0 => g ⟨⟨g1, g2, g3, g4, g5, g6⟩, fun h => by omega⟩
                  have e2 : wrap64 ((j : Int) - 1) = ((j - 1 : Nat) : Int) := by rw [w64 (by omega) (by omega)]; omega
                  rw [if_neg (by omega), e2, if_pos (by omega), if_pos (by omega), rd_at l (j - 1) (by omega), decide_eq_false (fun h => g ⟨⟨g1, g2, g3, g4, g5, g6⟩, fun _ => h⟩), hf]
                · rw [if_neg g6]
              · rw [if_neg g5]
            · rw [if_neg g4]
          · rw [if_neg g3]
        · rw [if_neg g2]
      · rw [if_neg g1]
theorem check_eq (tick most : Int) : quota_Check.f tick most = some (if 1 ≤ tick ∧ tick ≤ 1048576 ∧ 1 ≤ most ∧ most ≤ 1048576 then 0 else 1) := by
  unfold quota_Check.f
  by_cases h1 : tick < 1
  · rw [if_pos h1, if_neg (by omega)]
  · by_cases h2 : tick > 1048576
    · rw [if_neg h1, if_pos h2, if_neg (by omega)]
    · by_cases h3 : most < 1
      · rw [if_neg h1, if_neg h2, if_pos h3, if_neg (by omega)]
      · by_cases h4 : most > 1048576
        · rw [if_neg h1, if_neg h2, if_neg h3, if_pos h4, if_neg (by omega)]
        · rw [if_neg h1, if_neg h2, if_neg h3, if_neg h4, if_pos (by omega)]
theorem rmay_eq (tick most : Int) : headgateref36_May.f tick most = some (decide (1 ≤ tick ∧ tick ≤ 1048576 ∧ 1 ≤ most ∧ most ≤ 1048576)) := by
  unfold headgateref36_May.f
  by_cases h1 : tick ≥ 1
  · rw [if_pos h1]
    by_cases h2 : tick ≤ 1048576
    · rw [if_pos h2]
      by_cases h3 : most ≥ 1
      · rw [if_pos h3]; congr 1; rw [decide_eq_decide]; omega
      · rw [if_neg h3, decide_eq_false (by omega)]
    · rw [if_neg h2, decide_eq_false (by omega)]
  · rw [if_neg h1, decide_eq_false (by omega)]
theorem bool_ext {a b : Bool} (h : a = true ↔ b = true) : a = b := by cases a <;> cases b <;> simp_all
theorem right_eq (tick most : Int) (l : List S49) (now : Int) (hl : l.length ≤ 9223372036854775807) (k : Nat) (hk : l.length + 2 < k) : quota_right.f k tick most l now = some (rightB tick most l now) := by
  unfold quota_right.f
  rw [check_eq, Option.bind_some]
  obtain ⟨k, rfl⟩ : ∃ m, k = m + 1 := ⟨k - 1, by omega⟩
  obtain ⟨⟨b, hb, hbi⟩, hf⟩ := right_l0 tick most now l hl l.length 0 k (by omega) (by omega) (by omega)
  have hj : ∀ c, quota_right.j0 (k + 1) l now c tick most = quota_right.l0 k l now c ((0 : Nat) : Int) tick most := fun c => by rw [quota_right.j0]; rfl
  have hbi' : b = true ↔ ((∀ x ∈ l, 0 ≤ x.f0 ∧ x.f0 ≤ 1099511627776 ∧ 0 ≤ x.f1 ∧ x.f1 ≤ most ∧ 0 ≤ x.f2 ∧ x.f2 ≤ now) ∧ l.Pairwise fun a b => a.f0 < b.f0) := hbi.trans (Iff.trans ⟨fun h i hi => h i hi (by omega), fun h i hi _ => h i hi⟩ all_G)
  simp only [hj]
  by_cases h1 : 1 ≤ tick ∧ tick ≤ 1048576 ∧ 1 ≤ most ∧ most ≤ 1048576
  · rw [if_pos h1, if_pos rfl]
    by_cases h2 : now ≥ 0
    · rw [if_pos h2]
      by_cases h3 : now ≤ 1099511627776
      · rw [if_pos h3]
        by_cases h4 : (l.length : Int) ≤ 64
        · rw [decide_eq_true h4, hb]
          congr 1
          exact bool_ext (hbi'.trans (Iff.trans ⟨fun h => ⟨by omega, h⟩, fun h => h.2⟩ rightB_iff.symm))
        · rw [decide_eq_false h4, hf]
          congr 1
          exact bool_ext ⟨fun h => by simp at h, fun h => by have := (rightB_iff.1 h).1; omega⟩
      · rw [if_neg h3, hf]
        congr 1
        exact bool_ext ⟨fun h => by simp at h, fun h => by have := (rightB_iff.1 h).1; omega⟩
    · rw [if_neg h2, hf]
      congr 1
      exact bool_ext ⟨fun h => by simp at h, fun h => by have := (rightB_iff.1 h).1; omega⟩
  · rw [if_neg h1, if_neg (by decide), hf]
    congr 1
    exact bool_ext ⟨fun h => by simp at h, fun h => by have := (rightB_iff.1 h).1; omega⟩
/-- What somebody has. -/
def hasV (tick most left since now : Int) : Int := if left + (now - since) * tick < most then left + (now - since) * tick else most
theorem mul_bd {a b A B : Int} (h0 : 0 ≤ a) (h1 : a ≤ A) (h2 : 0 ≤ b) (h3 : b ≤ B) : 0 ≤ a * b ∧ a * b ≤ A * B :=
  ⟨Int.mul_nonneg h0 h2, Int.mul_le_mul h1 h3 h2 (Int.le_trans h0 h1)⟩
theorem has_eq {tick most left since now : Int} (who : Int) (h1 : 1 ≤ tick) (h2 : tick ≤ 1048576) (h3 : 1 ≤ most) (h4 : most ≤ 1048576) (h5 : 0 ≤ left) (h6 : left ≤ most) (h7 : 0 ≤ since) (h8 : since ≤ now) (h9 : now ≤ 1099511627776) :
    quota_has.f tick most who left since now = some (hasV tick most left since now) := by
  unfold quota_has.f hasV
  rw [w64 (by omega) (by omega)]
  by_cases c : now - since < 1048576
  · have hm := mul_bd (show 0 ≤ now - since by omega) (show now - since ≤ 1048576 by omega) (show 0 ≤ tick by omega) h2
    rw [if_pos c, w64 (x := (now - since) * tick) (by omega) (by omega), w64 (by omega) (by omega)]
    rfl
  · have hm : now - since ≤ (now - since) * tick := by
      have := Int.mul_le_mul_of_nonneg_left h1 (show 0 ≤ now - since by omega)
      omega
    rw [if_neg c, if_neg (by omega)]
theorem hasV_bd {tick most left since now : Int} (h1 : 1 ≤ tick) (h3 : 1 ≤ most) (h5 : 0 ≤ left) (h8 : since ≤ now) : 0 ≤ hasV tick most left since now ∧ hasV tick most left since now ≤ most := by
  have hm := Int.mul_nonneg (show 0 ≤ now - since by omega) (show 0 ≤ tick by omega)
  unfold hasV
  split <;> omega
/-- The answer. -/
def finV (tick most : Int) (l : List S49) (i : Nat) (n now : Int) : List S49 × Int × Int :=
  if hasV tick most (rd_T49 l i).f1 (rd_T49 l i).f2 now < n then (l, (n - hasV tick most (rd_T49 l i).f1 (rd_T49 l i).f2 now + tick - 1) / tick, 10)
  else (l.set i ⟨(rd_T49 l i).f0, hasV tick most (rd_T49 l i).f1 (rd_T49 l i).f2 now - n, now⟩, 0, 0)
def insV (l : List S49) (i : Nat) (x : S49) : List S49 := l.take i ++ x :: l.drop i
def takeV (tick most : Int) (l : List S49) (who n now : Int) : List S49 × Int × Int :=
  if rightB tick most l now = true ∧ 0 ≤ who ∧ who ≤ 1099511627776 ∧ 0 ≤ n then
    if n > most then ([], 0, 6)
    else if lt049 l who < l.length ∧ (rd_T49 l (lt049 l who : Int)).f0 = who then finV tick most l (lt049 l who) n now
    else if l.length = 64 then ([], 0, 5)
    else finV tick most (insV l (lt049 l who) ⟨who, most, now⟩) (lt049 l who) n now
  else ([], 0, 1)
theorem lt0_lo : ∀ (l : List S49) (t : Int) (q : Nat), q < lt049 l t → (rd_T49 l (q : Int)).f0 < t
  | [], t, q, h => by simp [lt049] at h
  | x :: l, t, q, h => by
    unfold lt049 at h
    rw [List.takeWhile_cons] at h
    by_cases c : x.f0 < t
    · rw [if_pos (by simpa using c)] at h
      cases q with
      | zero => simpa [rd_T49] using c
      | succ q =>
        have := lt0_lo l t q (by simpa [lt049] using h)
        simpa [rd_T49] using this
    · rw [if_neg (by simpa using c)] at h
      simp at h
theorem lt0_hi : ∀ (l : List S49) (t : Int), lt049 l t < l.length → t ≤ (rd_T49 l (lt049 l t : Int)).f0
  | [], t, h => by simp at h
  | x :: l, t, h => by
    unfold lt049 at h ⊢
    rw [List.takeWhile_cons] at h ⊢
    by_cases c : x.f0 < t
    · rw [if_pos (by simpa using c)] at h ⊢
      have := lt0_hi l t (by simpa [lt049] using h)
      simpa [rd_T49, lt049] using this
    · rw [if_neg (by simpa using c)]
      simp [rd_T49]
      omega
theorem lt0_le (l : List S49) (t : Int) : lt049 l t ≤ l.length := lt0_le49 l t
theorem insV_len (l : List S49) (i : Nat) (x : S49) (hi : i ≤ l.length) : (insV l i x).length = l.length + 1 := by
  unfold insV; rw [List.length_append, List.length_cons, List.length_take, List.length_drop]; omega
theorem insV_at (l : List S49) (i : Nat) (x : S49) (hi : i ≤ l.length) : rd_T49 (insV l i x) (i : Int) = x := by
  rw [rd_at _ _ (by rw [insV_len l i x hi]; omega)]
  unfold insV
  rw [List.getElem_append_right (by rw [List.length_take]; omega)]
  simp [List.length_take, Nat.min_eq_left hi]
theorem insV_set (l : List S49) (i : Nat) (x y : S49) (hi : i ≤ l.length) : (insV l i x).set i y = insV l i y := by
  unfold insV
  have h : (l.take i).length = i := by rw [List.length_take]; omega
  rw [List.set_append_right _ _ (by rw [h]; exact Nat.le_refl _), h, Nat.sub_self, List.set_cons_zero]
/-- The rows' elements are bounded. -/
theorem right_at {tick most : Int} {l : List S49} {now : Int} (h : rightB tick most l now = true) (i : Nat) (hi : i < l.length) : 0 ≤ (rd_T49 l i).f0 ∧ (rd_T49 l i).f0 ≤ 1099511627776 ∧ 0 ≤ (rd_T49 l i).f1 ∧ (rd_T49 l i).f1 ≤ most ∧ 0 ≤ (rd_T49 l i).f2 ∧ (rd_T49 l i).f2 ≤ now := by
  rw [rd_at l i hi]
  exact (rightB_iff.1 h).2.1 _ (List.getElem_mem hi)
theorem body_eq {tick most : Int} {l : List S49} {i : Nat} {n now : Int} (h1 : 1 ≤ tick) (h2 : tick ≤ 1048576) (h3 : 1 ≤ most) (h4 : most ≤ 1048576) (h9 : now ≤ 1099511627776) (h : 0 ≤ (rd_T49 l i).f1 ∧ (rd_T49 l i).f1 ≤ most ∧ 0 ≤ (rd_T49 l i).f2 ∧ (rd_T49 l i).f2 ≤ now) :
    quota_Take.body tick most l i n now = some (finV tick most l i n now) := by
  unfold quota_Take.body finV
  obtain ⟨q1, q2, q3, q4⟩ := h
  have hb := hasV_bd (tick := tick) (most := most) (left := (rd_T49 l i).f1) (since := (rd_T49 l i).f2) (now := now) h1 h3 q1 q4
  rw [has_eq _ h1 h2 h3 h4 q1 q2 q3 q4 h9, Option.bind_some, if_pos (by omega)]
  split <;> rfl
theorem take_eq (tick most : Int) (l : List S49) (who n now : Int) (hl : l.length ≤ 9223372036854775807) (k : Nat) (hk : l.length + 2 < k) : quota_Take.f k tick most l who n now = some (takeV tick most l who n now) := by
  unfold quota_Take.f takeV
  rw [right_eq tick most l now hl k hk, Option.bind_some]
  by_cases hr : rightB tick most l now = true ∧ 0 ≤ who ∧ who ≤ 1099511627776 ∧ 0 ≤ n
  · rw [if_pos hr, if_pos hr]
    obtain ⟨⟨q1, q2, q3, q4, q5, q6, q7⟩, q8, q9⟩ := rightB_iff.1 hr.1
    split
    · rfl
    · rename_i hn
      rw [if_pos (by
        simp only [quota_Take.okB, Bool.and_eq_true, decide_eq_true_eq, List.all_eq_true]
        exact ⟨⟨⟨⟨⟨⟨⟨⟨q1, q2⟩, q3⟩, q4⟩, q5⟩, q6⟩, q7⟩, fun x hx => ⟨(q8 x hx).1, (q8 x hx).2.1⟩⟩, q9⟩)]
      split
      · rename_i hf
        have := right_at hr.1 _ hf.1
        exact body_eq q1 q2 q3 q4 q6 (by omega)
      · split
        · rfl
        · have hle := lt0_le l who
          have e := insV_at l (lt049 l who) ⟨who, most, now⟩ hle
          exact body_eq (l := insV l (lt049 l who) ⟨who, most, now⟩) q1 q2 q3 q4 q6 (by rw [e]; dsimp only; omega)
  · rw [if_neg hr, if_neg hr]
theorem awake_eq (k : Nat) (hk : 10 < k) : headgatelaw36_awake.f k = some true := by
  unfold headgatelaw36_awake.f
  have e1 : takeV 2 5 [] 1 4 0 = ([⟨1, 1, 0⟩], 0, 0) := by rfl
  have e2 : takeV 2 5 [⟨1, 1, 0⟩] 1 4 0 = ([⟨1, 1, 0⟩], 2, 10) := by rfl
  have e3 : takeV 2 5 [⟨1, 1, 0⟩] 1 4 2 = ([⟨1, 1, 2⟩], 0, 0) := by rfl
  rw [take_eq _ _ _ _ _ _ (by simp) k (by simp; omega), e1, Option.bind_some, take_eq _ _ _ _ _ _ (by simp) k (by simp; omega), e2, Option.bind_some, take_eq _ _ _ _ _ _ (by simp) k (by simp; omega), e3, Option.bind_some]
  rfl
end Go.Proofs.Ytkelkigkoceljaa.Qt
set_option linter.unusedVariables false
set_option linter.unusedSimpArgs false
namespace Go.Proofs.Ytkelkigkoceljaa.Qb
open Go.RowKit Go.Proofs.Ytkelkigkoceljaa.Qt Go.Proofs.Ytkelkigkoceljaa.P Go.Proofs.YtkelkigkoceljaaW.PrintWords Go.Proofs.YtkelkigkoceljaaW.PrintLast Go.Proofs.YtkelkigkoceljaaW.PrintMore
/-- The account of somebody. -/
def look (l : List S49) (q : Int) : Option S49 := l.find? fun x => x.f0 == q
theorem look_some {l : List S49} {q : Int} {x : S49} (h : look l q = some x) : x ∈ l ∧ x.f0 = q := ⟨List.mem_of_find?_eq_some h, by simpa using List.find?_some h⟩
theorem look_set : ∀ (l : List S49) (i : Nat) (p : Int) (y : S49) (hi : i < l.length), l[i].f0 = p → y.f0 = p → (l.Pairwise fun a b => a.f0 < b.f0) → ∀ q, look (l.set i y) q = if q = p then some y else look l q
  | [], i, p, y, hi, _, _, _, q => by simp at hi
  | x :: l, 0, p, y, hi, h1, h2, h3, q => by
    simp only [List.getElem_cons_zero] at h1
    rw [List.set_cons_zero, look, look, List.find?_cons, List.find?_cons, h1, h2]
    by_cases e : q = p
    · subst e; simp
    · have : (p == q) = false := by rw [beq_eq_false_iff_ne]; exact fun h => e h.symm
      rw [this, if_neg e]
  | x :: l, i + 1, p, y, hi, h1, h2, h3, q => by
    have h3' := List.pairwise_cons.1 h3
    have hil : i < l.length := by simpa using hi
    simp only [List.getElem_cons_succ] at h1
    have hx : x.f0 < p := by rw [← h1]; exact h3'.1 _ (List.getElem_mem hil)
    have ih := look_set l i p y hil h1 h2 h3'.2 q
    unfold look at ih ⊢
    rw [List.set_cons_succ, List.find?_cons, List.find?_cons]
    by_cases e : x.f0 = q
    · rw [beq_iff_eq.2 e, if_neg (by omega)]
    · rw [beq_eq_false_iff_ne.2 e]
      exact ih
theorem look_ins : ∀ (l : List S49) (i : Nat) (p : Int) (y : S49), i ≤ l.length → y.f0 = p → (∀ x ∈ l, x.f0 ≠ p) → ∀ q, look (l.take i ++ y :: l.drop i) q = if q = p then some y else look l q
  | l, 0, p, y, hi, h1, h2, q => by
    rw [List.take_zero, List.drop_zero, List.nil_append, look, List.find?_cons, h1]
    by_cases e : q = p
    · subst e; simp
    · have : (p == q) = false := by rw [beq_eq_false_iff_ne]; exact fun h => e h.symm
      rw [this, if_neg e]; rfl
  | [], i + 1, p, y, hi, _, _, q => by simp at hi
  | x :: l, i + 1, p, y, hi, h1, h2, q => by
    have hx : x.f0 ≠ p := h2 x List.mem_cons_self
    have ih := look_ins l i p y (by simpa using hi) h1 (fun z hz => h2 z (List.mem_cons_of_mem _ hz)) q
    unfold look at ih ⊢
    rw [List.take_succ_cons, List.drop_succ_cons, List.cons_append, List.find?_cons, List.find?_cons]
    by_cases e : x.f0 = q
    · rw [beq_iff_eq.2 e, if_neg (fun h => hx (e.trans h))]
    · rw [beq_eq_false_iff_ne.2 e]
      exact ih
/-- Nobody's account, where it is not found. -/
theorem no_row {l : List S49} (h2 : l.Pairwise fun a b => a.f0 < b.f0) {p : Int} (hf : ¬ (lt049 l p < l.length ∧ (rd_T49 l (lt049 l p : Int)).f0 = p)) : ∀ x ∈ l, x.f0 ≠ p := by
  intro x hx e
  obtain ⟨j, hj, rfl⟩ := List.getElem_of_mem hx
  have hle := lt0_le49 l p
  rcases Nat.lt_trichotomy j (lt049 l p) with h | h | h
  · have := lt0_lo l p j h
    rw [rd_at l j hj] at this
    omega
  · exact hf ⟨by omega, by rw [← h, rd_at l j hj]; exact e⟩
  · have a := lt0_hi l p (by omega)
    rw [rd_at l _ (by omega)] at a
    have b := List.pairwise_iff_getElem.1 h2 (lt049 l p) j (by omega) hj h
    omega
theorem ins_sorted {l : List S49} (h2 : l.Pairwise fun a b => a.f0 < b.f0) {p : Int} {y : S49} (hy : y.f0 = p) (hn : ∀ x ∈ l, x.f0 ≠ p) : (l.take (lt049 l p) ++ y :: l.drop (lt049 l p)).Pairwise fun a b => a.f0 < b.f0 := by
  have hle := lt0_le49 l p
  have hlo : ∀ x ∈ l.take (lt049 l p), x.f0 < p := by
    intro x hx
    obtain ⟨j, hj, rfl⟩ := List.getElem_of_mem hx
    rw [List.length_take] at hj
    have := lt0_lo l p j (by omega)
    rw [rd_at l j (by omega)] at this
    rw [List.getElem_take]; exact this
  have hhi : ∀ x ∈ l.drop (lt049 l p), p < x.f0 := by
    intro x hx
    obtain ⟨j, hj, rfl⟩ := List.getElem_of_mem hx
    rw [List.length_drop] at hj
    rw [List.getElem_drop]
    have a := lt0_hi l p (by omega)
    rw [rd_at l _ (by omega)] at a
    have ne := hn _ (List.getElem_mem (show lt049 l p < l.length by omega))
    by_cases h0 : j = 0
    · subst h0; simp only [Nat.add_zero]; omega
    · have b := List.pairwise_iff_getElem.1 h2 (lt049 l p) (lt049 l p + j) (by omega) (by omega) (by omega)
      omega
  refine List.pairwise_append.2 ⟨h2.sublist (List.take_sublist _ _), List.pairwise_cons.2 ⟨fun x hx => by have := hhi x hx; omega, h2.sublist (List.drop_sublist _ _)⟩, fun a ha b hb => ?_⟩
  have ha' := hlo a ha
  rcases List.mem_cons.1 hb with rfl | hb
  · omega
  · have := hhi b hb; omega
theorem bits_and_mask (x : Int) (n : Nat) (hn : n ≤ 62) : Go.bits .and .i64 x (((2 ^ n - 1 : Nat) : Int)) = ((x % 18446744073709551616).toNat % 2 ^ n : Nat) := by
  unfold Go.bits
  have h1 : (BitVec.ofInt IntKind.i64.bits x).toNat = (x % 18446744073709551616).toNat := by rw [BitVec.toNat_ofInt]; rfl
  have hp : 2 ^ n ≤ 2 ^ 62 := Nat.pow_le_pow_right (by omega) hn
  have h2 : (BitVec.ofInt IntKind.i64.bits ((2 ^ n - 1 : Nat) : Int)).toNat = 2 ^ n - 1 := by
    rw [BitVec.toNat_ofInt]
    show (((2 ^ n - 1 : Nat) : Int) % 18446744073709551616).toNat = _
    generalize 2 ^ n = m at *
    omega
  have h3 : ((BitVec.ofInt IntKind.i64.bits x) &&& (BitVec.ofInt IntKind.i64.bits ((2 ^ n - 1 : Nat) : Int))).toNat = (x % 18446744073709551616).toNat % 2 ^ n := by
    rw [BitVec.toNat_and, h1, h2, Nat.and_two_pow_sub_one_eq_mod]
  show IntKind.i64.wrap ((((BitVec.ofInt IntKind.i64.bits x) &&& (BitVec.ofInt IntKind.i64.bits ((2 ^ n - 1 : Nat) : Int))).toNat : Nat) : Int) = _
  rw [h3, IntKind.wrap_i64]
  have hpos : 0 < 2 ^ n := Nat.pos_of_ne_zero (by simp)
  have := Nat.mod_lt (x % 18446744073709551616).toNat hpos
  generalize 2 ^ n = m at *
  omega
theorem find_is : ∀ (l : List S49) (p : Int), (l.Pairwise fun a b => a.f0 < b.f0) → look l p = if lt049 l p < l.length ∧ (rd_T49 l (lt049 l p : Int)).f0 = p then some (rd_T49 l (lt049 l p : Int)) else none
  | [], p, h => rfl
  | x :: l, p, h => by
    obtain ⟨h1, h2⟩ := List.pairwise_cons.1 h
    have hc : lt049 (x :: l) p = if x.f0 < p then lt049 l p + 1 else 0 := by
      unfold lt049
      rw [List.takeWhile_cons]
      by_cases c : x.f0 < p
      · rw [if_pos (by simpa using c), if_pos c]; rfl
      · rw [if_neg (by simpa using c), if_neg c]; rfl
    have r0 : rd_T49 (x :: l) ((0 : Nat) : Int) = x := by simp [rd_T49]
    have r1 : ∀ n : Nat, rd_T49 (x :: l) ((n + 1 : Nat) : Int) = rd_T49 l (n : Int) := fun n => by simp [rd_T49]
    have ih := find_is l p h2
    unfold look at ih ⊢
    rw [hc, List.find?_cons]
    by_cases c : x.f0 < p
    · rw [if_pos c, beq_eq_false_iff_ne.2 (by omega), r1]
      have e : (lt049 l p + 1 < (x :: l).length ∧ (rd_T49 l (lt049 l p : Int)).f0 = p) = (lt049 l p < l.length ∧ (rd_T49 l (lt049 l p : Int)).f0 = p) := by simp
      simp only [e]
      exact ih
    · rw [if_neg c, r0]
      by_cases c2 : x.f0 = p
      · rw [beq_iff_eq.2 c2, if_pos ⟨by simp, c2⟩]
      · rw [beq_eq_false_iff_ne.2 c2, if_neg (fun h => c2 h.2)]
        simp only
        rw [List.find?_eq_none]
        intro y hy e
        have := h1 y hy
        have := beq_iff_eq.1 e
        omega
theorem set_sorted {l : List S49} (h2 : l.Pairwise fun a b => a.f0 < b.f0) {i : Nat} (hi : i < l.length) {y : S49} (hy : y.f0 = l[i].f0) : (l.set i y).Pairwise fun a b => a.f0 < b.f0 := by
  have e : ∀ j, (hj : j < (l.set i y).length) → (l.set i y)[j].f0 = (l[j]'(by rw [List.length_set] at hj; exact hj)).f0 := by
    intro j hj
    rw [List.getElem_set]
    split
    · rename_i h; subst h; exact hy
    · rfl
  rw [List.pairwise_iff_getElem]
  intro p q hp hq hpq
  rw [e p hp, e q hq]
  exact List.pairwise_iff_getElem.1 h2 p q (by rw [List.length_set] at hp; exact hp) (by rw [List.length_set] at hq; exact hq) hpq
/-- Accounts that may be, of 0 to 3. -/
def Inv (tick most now : Int) (l : List S49) : Prop := (1 ≤ tick ∧ tick ≤ 1048576 ∧ 1 ≤ most ∧ most ≤ 1048576 ∧ 0 ≤ now ∧ now ≤ 1099511627776) ∧ (∀ x ∈ l, (0 ≤ x.f0 ∧ x.f0 ≤ 3) ∧ 0 ≤ x.f1 ∧ x.f1 ≤ most ∧ 0 ≤ x.f2 ∧ x.f2 ≤ now) ∧ l.Pairwise fun a b => a.f0 < b.f0
theorem len4 {l : List S49} (h1 : ∀ x ∈ l, 0 ≤ x.f0 ∧ x.f0 ≤ 3) (h2 : l.Pairwise fun a b => a.f0 < b.f0) : l.length ≤ 4 := by
  have key : ∀ j, (hj : j < l.length) → (j : Int) ≤ l[j].f0 := by
    intro j
    induction j with
    | zero => intro hj; have := (h1 _ (List.getElem_mem hj)).1; omega
    | succ j ih =>
      intro hj
      have a := ih (by omega)
      have b := List.pairwise_iff_getElem.1 h2 j (j + 1) (by omega) hj (by omega)
      omega
  rcases Nat.lt_or_ge 4 l.length with h | h
  · have a := key 4 h
    have b := (h1 _ (List.getElem_mem h)).2
    omega
  · exact h
theorem inv_len {tick most now : Int} {l : List S49} (h : Inv tick most now l) : l.length ≤ 4 := len4 (fun x hx => (h.2.1 x hx).1) h.2.2
theorem inv_later {tick most now now' : Int} {l : List S49} (h : Inv tick most now l) (h1 : now ≤ now') (h2 : now' ≤ 1099511627776) : Inv tick most now' l :=
  ⟨⟨h.1.1, h.1.2.1, h.1.2.2.1, h.1.2.2.2.1, by have := h.1; omega, h2⟩, fun x hx => by have := h.2.1 x hx; omega, h.2.2⟩
theorem inv_right {tick most now : Int} {l : List S49} (h : Inv tick most now l) : rightB tick most l now = true := by
  have := inv_len h
  obtain ⟨h1, h2, h3⟩ := h
  exact rightB_iff.2 ⟨⟨h1.1, h1.2.1, h1.2.2.1, h1.2.2.2.1, h1.2.2.2.2.1, h1.2.2.2.2.2, by omega⟩, fun x hx => by have := h2 x hx; omega, h3⟩
/-- What somebody has at a time. -/
def av (tick most : Int) (l : List S49) (q t : Int) : Int := match look l q with
  | some x => hasV tick most x.f1 x.f2 t
  | none => most
theorem av_some {tick most : Int} {l : List S49} {q : Int} {x : S49} (h : look l q = some x) (t : Int) : av tick most l q t = hasV tick most x.f1 x.f2 t := by unfold av; rw [h]
theorem av_none {tick most : Int} {l : List S49} {q : Int} (h : look l q = none) (t : Int) : av tick most l q t = most := by unfold av; rw [h]
theorem av_same {tick most : Int} {l m : List S49} {q : Int} (h : look l q = look m q) (t : Int) : av tick most l q t = av tick most m q t := by unfold av; rw [h]
theorem av_bd {tick most now : Int} {l : List S49} (h : Inv tick most now l) (q t : Int) (ht : now ≤ t) : 0 ≤ av tick most l q t ∧ av tick most l q t ≤ most := by
  unfold av
  split
  · rename_i x hx
    have hm := h.2.1 x (look_some hx).1
    exact hasV_bd h.1.1 h.1.2.2.1 hm.2.1 (by omega)
  · have := h.1; omega
/-- What a request comes to, by what one has. -/
def ansV (tick most left n : Int) : Int × Int := if n > most then (0, 6) else if left < n then ((n - left + tick - 1) / tick, 10) else (0, 0)
theorem fresh_has {tick most now t : Int} (h1 : 1 ≤ tick) (ht : now ≤ t) : hasV tick most most now t = most := by
  unfold hasV
  have := Int.mul_nonneg (show 0 ≤ t - now by omega) (show 0 ≤ tick by omega)
  rw [if_neg (by omega)]
theorem takeV_is {tick most now : Int} {l : List S49} (h : Inv tick most now l) (who n : Int) (hw : 0 ≤ who ∧ who ≤ 3) (hn : 0 ≤ n) :
    (takeV tick most l who n now).2 = ansV tick most (av tick most l who now) n ∧ (n > most → (takeV tick most l who n now).1 = []) ∧
    (n ≤ most → Inv tick most now (takeV tick most l who n now).1 ∧ (∀ q, q ≠ who → look (takeV tick most l who n now).1 q = look l q) ∧
      (av tick most l who now < n → ∀ t, now ≤ t → av tick most (takeV tick most l who n now).1 who t = av tick most l who t) ∧
      (n ≤ av tick most l who now → look (takeV tick most l who n now).1 who = some ⟨who, av tick most l who now - n, now⟩)) := by
  have hr := inv_right h
  have h4 := inv_len h
  obtain ⟨h1, h2, h3⟩ := h
  have hfind := find_is l who h3
  have hc : rightB tick most l now = true ∧ 0 ≤ who ∧ who ≤ 1099511627776 ∧ 0 ≤ n := ⟨hr, hw.1, by omega, hn⟩
  unfold takeV ansV
  rw [if_pos hc]
  by_cases c1 : n > most
  · rw [if_pos c1, if_pos c1]
    exact ⟨rfl, fun _ => rfl, fun h => by omega⟩
  · rw [if_neg c1, if_neg c1]
    by_cases c2 : lt049 l who < l.length ∧ (rd_T49 l (lt049 l who : Int)).f0 = who
    · rw [if_pos c2] at hfind ⊢
      have hav : ∀ t, av tick most l who t = hasV tick most (rd_T49 l (lt049 l who : Int)).f1 (rd_T49 l (lt049 l who : Int)).f2 t := av_some hfind
      have hx := h2 _ (look_some hfind).1
      rw [hav now]
      unfold finV
      by_cases c3 : hasV tick most (rd_T49 l (lt049 l who : Int)).f1 (rd_T49 l (lt049 l who : Int)).f2 now < n
      · rw [if_pos c3, if_pos c3]
        exact ⟨rfl, fun h => by omega, fun _ => ⟨⟨h1, h2, h3⟩, fun _ _ => rfl, fun _ t _ => rfl, fun h => by omega⟩⟩
      · rw [if_neg c3, if_neg c3]
        have hb := hasV_bd (tick := tick) (most := most) (left := (rd_T49 l (lt049 l who : Int)).f1) (since := (rd_T49 l (lt049 l who : Int)).f2) (now := now) h1.1 h1.2.2.1 hx.2.1 hx.2.2.2.2
        have hg : l[lt049 l who].f0 = who := by rw [← rd_at l _ c2.1]; exact c2.2
        have hl := look_set l (lt049 l who) who ⟨(rd_T49 l (lt049 l who : Int)).f0, hasV tick most (rd_T49 l (lt049 l who : Int)).f1 (rd_T49 l (lt049 l who : Int)).f2 now - n, now⟩ c2.1 hg c2.2 h3
        refine ⟨rfl, fun h => by omega, fun _ => ⟨⟨h1, fun y hy => ?_, set_sorted h3 c2.1 (c2.2.trans hg.symm)⟩, fun q hq => by rw [hl q, if_neg hq], fun h => by omega, fun _ => by rw [hl who, if_pos rfl, c2.2]⟩⟩
        rcases List.mem_or_eq_of_mem_set hy with hy | rfl
        · exact h2 y hy
        · dsimp only; omega
    · rw [if_neg c2] at hfind ⊢
      rw [if_neg (show ¬ l.length = 64 by omega)]
      have hn0 := no_row h3 c2
      have hle := lt0_le l who
      have hat := insV_at l (lt049 l who) ⟨who, most, now⟩ hle
      have hav : ∀ t, av tick most l who t = most := av_none hfind
      unfold finV
      rw [hat, hav now, fresh_has h1.1 (Int.le_refl now), if_neg c1, if_neg c1, insV_set _ _ _ _ hle]
      have hl := look_ins l (lt049 l who) who ⟨who, most - n, now⟩ hle rfl hn0
      refine ⟨rfl, fun h => by omega, fun _ => ⟨⟨h1, fun y hy => ?_, ins_sorted h3 rfl hn0⟩, fun q hq => (hl q).trans (if_neg hq), fun h => by omega, fun _ => (hl who).trans (if_pos rfl)⟩⟩
      rcases List.mem_append.1 hy with hy | hy
      · exact h2 y (List.mem_of_mem_take hy)
      · rcases List.mem_cons.1 hy with rfl | hy
        · dsimp only; omega
        · exact h2 y (List.mem_of_mem_drop hy)
theorem inv_nil {tick most now : Int} (h : 1 ≤ tick ∧ tick ≤ 1048576 ∧ 1 ≤ most ∧ most ≤ 1048576 ∧ 0 ≤ now ∧ now ≤ 1099511627776) : Inv tick most now [] := ⟨h, fun x hx => (by cases hx), List.Pairwise.nil⟩
theorem mask_bd (x : Int) (n : Nat) (hn : n ≤ 62) : 0 ≤ Go.bits .and .i64 x (((2 ^ n - 1 : Nat) : Int)) ∧ Go.bits .and .i64 x (((2 ^ n - 1 : Nat) : Int)) ≤ (((2 ^ n - 1 : Nat) : Int)) := by
  rw [bits_and_mask x n hn]
  have hpos : 0 < 2 ^ n := Nat.pos_of_ne_zero (by simp)
  have := Nat.mod_lt (x % 18446744073709551616).toNat hpos
  omega
theorem m3 (x : Int) : 0 ≤ Go.bits .and .i64 x 3 ∧ Go.bits .and .i64 x 3 ≤ 3 := mask_bd x 2 (by omega)
theorem m1023 (x : Int) : 0 ≤ Go.bits .and .i64 x 1023 ∧ Go.bits .and .i64 x 1023 ≤ 1023 := mask_bd x 10 (by omega)
theorem m65535 (x : Int) : 0 ≤ Go.bits .and .i64 x 65535 ∧ Go.bits .and .i64 x 65535 ≤ 65535 := mask_bd x 16 (by omega)
theorem rd37_at (s : List S37) (j : Nat) (h : j < s.length) : rd_T37 s (j : Int) = s[j] := by
  simp [rd_T37, List.getD_eq_getElem?_getD, List.getElem?_eq_getElem h]
/-- A request, of a number ahead. -/
theorem take_i {tick most now : Int} {l : List S49} (h : Inv tick most now l) (who n : Int) (k : Nat) (hk : 10 ≤ k) : quota_Take.f k tick most l who n now = some (takeV tick most l who n now) := by
  have := inv_len h
  exact take_eq tick most l who n now (by omega) k (by omega)
end Go.Proofs.Ytkelkigkoceljaa.Qb
set_option linter.unusedVariables false
set_option linter.unusedSimpArgs false
namespace Go.Proofs.Ytkelkigkoceljaa.Pure
open Go.RowKit Go.Proofs.Ytkelkigkoceljaa.Qt Go.Proofs.Ytkelkigkoceljaa.Qb Go.Proofs.Ytkelkigkoceljaa.P Go.Proofs.YtkelkigkoceljaaW.PrintWords Go.Proofs.YtkelkigkoceljaaW.PrintLast Go.Proofs.YtkelkigkoceljaaW.PrintMore
/-- What q took of a row. -/
def got (q : Int) : List S37 → Int
  | [] => 0
  | y :: l => (if y.f0 = q then y.f1 else 0) + got q l
theorem got_append (q : Int) (l m : List S37) : got q (l ++ m) = got q l + got q m := by
  induction l with
  | nil => show got q m = 0 + _; omega
  | cons y l ih =>
    show (if y.f0 = q then y.f1 else 0) + got q (l ++ m) = (if y.f0 = q then y.f1 else 0) + got q l + got q m
    rw [ih]; omega
theorem got_bd (q : Int) (l : List S37) (h : ∀ y ∈ l, 0 ≤ y.f1 ∧ y.f1 ≤ 65535) : 0 ≤ got q l ∧ got q l ≤ 65535 * l.length := by
  induction l with
  | nil => exact ⟨Int.le_refl _, Int.le_refl _⟩
  | cons y l ih =>
    have e : got q (y :: l) = (if y.f0 = q then y.f1 else 0) + got q l := rfl
    have := ih (fun z hz => h z (List.mem_cons_of_mem _ hz))
    have := h y List.mem_cons_self
    rw [e, List.length_cons]
    split <;> omega
/-- What is known of the requests that were let through: no row of them holds too much; each account is as much below its bound. -/
structure Bnd (tick most now : Int) (took : List S37) (l : List S49) : Prop where
  y : ∀ y ∈ took, 0 ≤ y.f1 ∧ y.f1 ≤ 65535 ∧ 0 ≤ y.f2 ∧ y.f2 ≤ now
  g : ∀ i k, (hi : i ≤ k) → (hk : k < took.length) → took[k].f0 = (took[i]'(by omega)).f0 → got (took[i]'(by omega)).f0 ((took.drop i).take (k + 1 - i)) ≤ most + (took[k].f2 - (took[i]'(by omega)).f2) * tick
  a : ∀ i, (hi : i < took.length) → ∀ t, now ≤ t → av tick most l took[i].f0 t ≤ most + (t - took[i].f2) * tick - got took[i].f0 (took.drop i)
theorem bnd_nil (tick most now : Int) (l : List S49) : Bnd tick most now [] l := ⟨fun y hy => (by cases hy), fun i k _ hk _ => (by simp at hk), fun i hi => (by simp at hi)⟩
theorem bnd_later {tick most now now' : Int} {took : List S37} {l : List S49} (h : Bnd tick most now took l) (h1 : now ≤ now') : Bnd tick most now' took l :=
  ⟨fun y hy => by have := h.y y hy; omega, h.g, fun i hi t ht => h.a i hi t (by omega)⟩
theorem bnd_same {tick most now : Int} {took : List S37} {l m : List S49} (h : Bnd tick most now took l) (hm : ∀ q t, now ≤ t → av tick most m q t = av tick most l q t) : Bnd tick most now took m :=
  ⟨h.y, h.g, fun i hi t ht => by rw [hm _ t ht]; exact h.a i hi t ht⟩
theorem bnd_took {tick most now : Int} {took : List S37} {l m : List S49} (hI : Inv tick most now l) (h : Bnd tick most now took l) (who n : Int) (hn : 0 ≤ n ∧ n ≤ 65535) (hav : n ≤ av tick most l who now)
    (h1 : ∀ q, q ≠ who → Qb.look m q = Qb.look l q) (h2 : Qb.look m who = some ⟨who, av tick most l who now - n, now⟩) : Bnd tick most now (took ++ [⟨who, n, now⟩]) m := by
  have hbd := av_bd hI who now (Int.le_refl _)
  have hnow := hI.1.2.2.2.2.1
  have hm : ∀ t, av tick most m who t ≤ av tick most l who now - n + (t - now) * tick := fun t => by
    rw [av_some h2]
    unfold hasV
    dsimp only
    split <;> omega
  refine ⟨fun y hy => ?_, fun i k hi hk he => ?_, fun i hi t ht => ?_⟩
  · rcases List.mem_append.1 hy with hy | hy
    · exact h.y y hy
    · obtain rfl : y = ⟨who, n, now⟩ := by simpa using hy
      dsimp only; omega
  · rw [List.length_append] at hk
    have hk1 : k < took.length + 1 := hk
    by_cases c : k < took.length
    · have hi2 : i < took.length := by omega
      rw [List.getElem_append_left c] at he ⊢
      rw [List.getElem_append_left hi2] at he ⊢
      rw [List.drop_append_of_le_length (by omega), List.take_append_of_le_length (by rw [List.length_drop]; omega)]
      exact h.g i k hi c he
    · obtain rfl : k = took.length := by omega
      rw [List.take_of_length_le (by rw [List.length_drop, List.length_append]; simp)]
      have hk0 : (took ++ [(⟨who, n, now⟩ : S37)])[took.length]'(by simp) = ⟨who, n, now⟩ := by simp
      rw [hk0] at he ⊢
      by_cases c2 : i < took.length
      · rw [List.getElem_append_left c2] at he ⊢
        rw [List.drop_append_of_le_length (by omega), got_append]
        have ha := h.a i c2 now (Int.le_refl _)
        rw [← he] at ha ⊢
        have e : got who [(⟨who, n, now⟩ : S37)] = (if who = who then n else 0) + 0 := rfl
        rw [if_pos rfl] at e
        dsimp only at ha ⊢
        omega
      · obtain rfl : i = took.length := by omega
        rw [hk0, List.drop_append_of_le_length (by omega), got_append, List.drop_length]
        have e : got who [(⟨who, n, now⟩ : S37)] = (if who = who then n else 0) + 0 := rfl
        have e0 : got who ([] : List S37) = 0 := rfl
        rw [if_pos rfl] at e
        dsimp only
        rw [e0, e, Int.sub_self, Int.zero_mul]
        omega
  · rw [List.length_append] at hi
    have hi1 : i < took.length + 1 := hi
    by_cases c2 : i < took.length
    · rw [List.getElem_append_left c2, List.drop_append_of_le_length (by omega), got_append]
      have ha := h.a i c2
      have e : got took[i].f0 [(⟨who, n, now⟩ : S37)] = (if who = took[i].f0 then n else 0) + 0 := rfl
      rw [e]
      by_cases c3 : took[i].f0 = who
      · rw [if_pos c3.symm]
        have h3 := hm t
        have h4 := ha now (Int.le_refl _)
        rw [c3] at h4 ⊢
        have e2 : (t - took[i].f2) * tick = (now - took[i].f2) * tick + (t - now) * tick := by
          rw [← Int.add_mul]; congr 1; omega
        rw [e2]
        omega
      · rw [if_neg (fun e => c3 e.symm), av_same (h1 _ c3) t]
        have := ha t ht
        omega
    · obtain rfl : i = took.length := by omega
      have hk0 : (took ++ [(⟨who, n, now⟩ : S37)])[took.length]'(by simp) = ⟨who, n, now⟩ := by simp
      rw [hk0, List.drop_append_of_le_length (by omega), got_append, List.drop_length]
      have e : got who [(⟨who, n, now⟩ : S37)] = (if who = who then n else 0) + 0 := rfl
      have e0 : got who ([] : List S37) = 0 := rfl
      rw [if_pos rfl] at e
      have h3 := hm t
      dsimp only
      rw [e0, e]
      omega
theorem times_bd {tick d : Int} (h1 : 1 ≤ tick) (h2 : tick ≤ 1048576) (h3 : -100000 ≤ d) (h4 : d ≤ 100000) : -104857600000 ≤ d * tick ∧ d * tick ≤ 104857600000 := by
  rcases Int.le_total 0 d with h | h
  · have a := (mul_bd h h4 (show 0 ≤ tick by omega) h2)
    omega
  · have a := (mul_bd (show 0 ≤ -d by omega) (show -d ≤ 100000 by omega) (show 0 ≤ tick by omega) h2)
    rw [Int.neg_mul] at a
    omega
/-- The rows are looked at. -/
theorem l2_eq (tick most now : Int) (h1 : 1 ≤ tick) (h2 : tick ≤ 1048576) (h3 : 1 ≤ most) (h4 : most ≤ 1048576) (hnow : now ≤ 61380) (took : List S37) (hl : took.length ≤ 60) (l : List S49) (hB : Bnd tick most now took l) (i : Nat) (hi : i < took.length) (d : Nat) :
    ∀ (k f : Nat), took.length - k = d → i ≤ k → k ≤ took.length → d < f → headgatelaw36_QuotaBounds.l2 f took (i : Int) (got took[i].f0 ((took.drop i).take (k - i))) (k : Int) tick most = headgatelaw36_QuotaBounds.l1 (f - d - 1) took ((i + 1 : Nat) : Int) tick most := by
  induction d with
  | zero =>
    intro k f hd hik hk hf
    obtain ⟨f, rfl⟩ : ∃ m, f = m + 1 := ⟨f - 1, by omega⟩
    have e1 : wrap64 ((i : Int) + 1) = ((i + 1 : Nat) : Int) := by rw [w64 (by omega) (by omega)]; omega
    rw [headgatelaw36_QuotaBounds.l2, if_neg (by omega), e1, show f + 1 - 0 - 1 = f by omega]
  | succ d ih =>
    intro k f hd hik hk hf
    obtain ⟨f, rfl⟩ : ∃ m, f = m + 1 := ⟨f - 1, by omega⟩
    have hkl : k < took.length := by omega
    have e1 : wrap64 ((k : Int) + 1) = ((k + 1 : Nat) : Int) := by rw [w64 (by omega) (by omega)]; omega
    have hy := hB.y _ (List.getElem_mem hkl)
    have hyi := hB.y _ (List.getElem_mem hi)
    have hs : (took.drop i).take (k + 1 - i) = (took.drop i).take (k - i) ++ [took[k]] := by
      rw [show k + 1 - i = (k - i) + 1 by omega, List.take_succ_eq_append_getElem (by rw [List.length_drop]; omega)]
      congr 2
      rw [List.getElem_drop]
      congr 1
      omega
    have hg : got took[i].f0 ((took.drop i).take (k + 1 - i)) = got took[i].f0 ((took.drop i).take (k - i)) + if took[k].f0 = took[i].f0 then took[k].f1 else 0 := by
      rw [hs, got_append]
      show _ + ((if took[k].f0 = took[i].f0 then took[k].f1 else 0) + 0) = _
      omega
    have hb := got_bd took[i].f0 ((took.drop i).take (k - i)) (fun y hy => by have := hB.y y (List.mem_of_mem_drop (List.mem_of_mem_take hy)); omega)
    have hlen : (((took.drop i).take (k - i)).length : Int) ≤ 60 := by rw [List.length_take, List.length_drop]; omega
    have ht := times_bd h1 h2 (show -100000 ≤ took[k].f2 - took[i].f2 by omega) (show took[k].f2 - took[i].f2 ≤ 100000 by omega)
    have hn := ih (k + 1) f (by omega) (by omega) (by omega) (by omega)
    rw [headgatelaw36_QuotaBounds.l2, if_pos (by omega), if_pos (by omega), if_pos (by omega), if_pos (by omega), rd37_at took k hkl, rd37_at took i hi, e1, w64 (x := took[k].f2 - took[i].f2) (by omega) (by omega), w64 (x := (took[k].f2 - took[i].f2) * tick) (by omega) (by omega), w64 (x := most + (took[k].f2 - took[i].f2) * tick) (by omega) (by omega), show f + 1 - (d + 1) - 1 = f - d - 1 by omega]
    by_cases c : took[k].f0 = took[i].f0
    · have hG := hB.g i k hik hkl c
      rw [if_pos c] at hg
      rw [if_pos c, w64 (x := got took[i].f0 ((took.drop i).take (k - i)) + took[k].f1) (by omega) (by omega), ← hg, if_neg (by omega), hn]
    · rw [if_neg c] at hg
      rw [if_neg c, show got took[i].f0 ((took.drop i).take (k - i)) = got took[i].f0 ((took.drop i).take (k + 1 - i)) by omega, hn]
theorem l1_eq (tick most now : Int) (h1 : 1 ≤ tick) (h2 : tick ≤ 1048576) (h3 : 1 ≤ most) (h4 : most ≤ 1048576) (hnow : now ≤ 61380) (took : List S37) (hl : took.length ≤ 60) (l : List S49) (hB : Bnd tick most now took l) (d : Nat) :
    ∀ (i f : Nat), took.length - i = d → i ≤ took.length → 70 * d + 50 ≤ f → headgatelaw36_QuotaBounds.l1 f took (i : Int) tick most = some true := by
  induction d with
  | zero =>
    intro i f hd hi hf
    obtain ⟨f, rfl⟩ : ∃ m, f = m + 1 := ⟨f - 1, by omega⟩
    rw [headgatelaw36_QuotaBounds.l1, if_neg (by omega), awake_eq f (by omega), Option.bind_some]
  | succ d ih =>
    intro i f hd hi hf
    obtain ⟨f, rfl⟩ : ∃ m, f = m + 1 := ⟨f - 1, by omega⟩
    have hil : i < took.length := by omega
    have h := l2_eq tick most now h1 h2 h3 h4 hnow took hl l hB i hil (d + 1) i f (by omega) (Nat.le_refl _) (by omega) (by omega)
    rw [Nat.sub_self, List.take_zero] at h
    rw [headgatelaw36_QuotaBounds.l1, if_pos (by omega)]
    refine Eq.trans h ?_
    exact ih (i + 1) _ (by omega) (by omega) (by omega)
theorem bounds_l0 (tick most : Int) (l : List S37) (hl : l.length ≤ 60) (d : Nat) : ∀ (j k : Nat) (acc : List S49) (took : List S37) (now : Int), l.length - j = d → j ≤ l.length → 2 * d + 5000 ≤ k → Inv tick most now acc → now ≤ 1023 * j → took.length ≤ j → Aside0 (Bnd tick most now took acc) →
    headgatelaw36_QuotaBounds.l0 k l acc took now (j : Int) tick most = some true := by
  induction d with
  | zero =>
    intro j k acc took now hd hj hk hI hnow hlen hB
    obtain ⟨k, rfl⟩ : ∃ m, k = m + 1 := ⟨k - 1, by omega⟩
    rw [headgatelaw36_QuotaBounds.l0, if_neg (by omega)]
    exact l1_eq tick most now hI.1.1 hI.1.2.1 hI.1.2.2.1 hI.1.2.2.2.1 (by omega) took (by omega) acc hB.out took.length 0 k (by omega) (by omega) (by omega)
  | succ d ih =>
    intro j k acc took now hd hj hk hI hnow hlen hB
    obtain ⟨k, rfl⟩ : ∃ m, k = m + 2 := ⟨k - 2, by omega⟩
    have hjl : j < l.length := by omega
    have q1 : (j : Int) < (l.length : Int) := by omega
    have q2 : (0 : Int) ≤ (j : Int) := by omega
    have e1 : wrap64 ((j : Int) + 1) = ((j + 1 : Nat) : Int) := by rw [w64 (by omega) (by omega)]; omega
    have R := Aside0.mk (show l.length - (j + 1) = d ∧ j + 1 ≤ l.length ∧ 2 * d + 5000 ≤ k ∧ took.length ≤ j + 1 ∧ took.length + 1 ≤ j + 1 ∧ took.length < 5864062014805 ∧ 10 ≤ k + 1 from by omega)
    have hj60 : (j : Int) ≤ 59 := by omega
    have HE := Aside0.mk e1
    clear hd hj hk hlen e1
    have t5 := hI.1.2.2.2.2.1
    have d3 := m1023 l[j].f2
    rw [headgatelaw36_QuotaBounds.l0, if_pos q1, if_pos q2, rd37_at l j hjl]
    generalize Go.bits .and .i64 l[j].f2 1023 = D at d3 ⊢
    have hw : wrap64 (now + D) = now + D := w64 (by omega) (by omega)
    rw [hw]
    clear hw
    have hI2 := inv_later hI (show now ≤ now + D by omega) (by omega)
    have hB2 := Aside0.mk <| bnd_later hB.out (show now ≤ now + D by omega)
    have hnow2 : now + D ≤ 1023 * ((j + 1 : Nat) : Int) := by omega
    have w3 := m3 l[j].f0
    have n3 := m65535 l[j].f1
    generalize now + D = T at hI2 hB2 hnow2 ⊢
    generalize Go.bits .and .i64 l[j].f0 3 = w at w3 ⊢
    generalize Go.bits .and .i64 l[j].f1 65535 = n at n3 ⊢
    clear d3 t5 hnow hI hB q1 q2
    rw [take_i hI2 w n _ R.out.2.2.2.2.2.2, Option.bind_some]
    obtain ⟨a1, a2, a3⟩ := takeV_is hI2 w n w3 n3.1
    have f6 : ¬ ((6 : Int) = 0) := by decide
    have f10 : ¬ ((10 : Int) = 0) := by decide
    by_cases c : n > most
    · have e : (takeV tick most acc w n T).2 = (0, 6) := by rw [a1, ansV, if_pos c]
      rw [e, a2 c]
      dsimp only
      rw [if_neg f6, headgatelaw36_QuotaBounds.j2, if_pos (by decide), if_neg (by decide), HE.out]
      exact ih (j + 1) k acc took T R.out.1 R.out.2.1 R.out.2.2.1 hI2 hnow2 R.out.2.2.2.1 hB2
    · obtain ⟨b1, b2, b3, b4⟩ := a3 (by omega)
      by_cases c2 : av tick most acc w T < n
      · have e : (takeV tick most acc w n T).2 = ((n - av tick most acc w T + tick - 1) / tick, 10) := by rw [a1, ansV, if_neg c, if_pos c2]
        have hB3 : Aside0 (Bnd tick most T took (takeV tick most acc w n T).1) := ⟨bnd_same hB2.out (fun q t ht => by
          by_cases hq : q = w
          · rw [hq]; exact b3 c2 t ht
          · exact av_same (b2 q hq) t)⟩
        have hg := ih (j + 1) k _ took T R.out.1 R.out.2.1 R.out.2.2.1 b1 hnow2 R.out.2.2.2.1 hB3
        rw [e]
        dsimp only
        rw [if_neg f10, headgatelaw36_QuotaBounds.j2, if_neg (show ¬ (((10 : Int) != 10) = true) by decide), if_neg f10, HE.out]
        exact hg
      · have e : (takeV tick most acc w n T).2 = (0, 0) := by rw [a1, ansV, if_neg c, if_neg c2]
        have hB3 := Aside0.mk <| bnd_took hI2 hB2.out w n n3 (by omega) b2 (b4 (by omega))
        have hg := ih (j + 1) k _ (took ++ [⟨w, n, T⟩]) T R.out.1 R.out.2.1 R.out.2.2.1 b1 hnow2 (by rw [List.length_append]; exact R.out.2.2.2.2.1) hB3
        rw [e]
        dsimp only
        rw [if_pos rfl, headgatelaw36_QuotaBounds.j2, if_neg (by decide), if_pos rfl, if_pos R.out.2.2.2.2.2.1, HE.out]
        exact hg
theorem QuotaBounds : headgatelaw36_QuotaBounds.Pure := by
  intro tick most l ht hm hl
  refine ⟨6000 + 1, ?_⟩
  have key : ∀ m : List S37, m.length ≤ 60 → headgatelaw36_QuotaBounds.j0 (6000 + 1) m tick most = some true := by
    intro m hm
    rw [headgatelaw36_QuotaBounds.j0, rmay_eq, Option.bind_some]
    by_cases c : 1 ≤ tick ∧ tick ≤ 1048576 ∧ 1 ≤ most ∧ most ≤ 1048576
    · rw [decide_eq_true c, if_pos rfl]
      exact bounds_l0 tick most m hm m.length 0 6000 [] [] 0 rfl (by omega) (by omega) (inv_nil ⟨c.1, c.2.1, c.2.2.1, c.2.2.2, by omega, by omega⟩) (by omega) (by simp) ⟨bnd_nil _ _ _ _⟩
    · rw [decide_eq_false c, if_neg (by decide), awake_eq _ (by omega), Option.bind_some]
  unfold headgatelaw36_QuotaBounds.f
  by_cases c : (l.length : Int) > 60
  · rw [if_pos c, if_pos (by omega)]
    exact key _ (by rw [List.length_take]; omega)
  · rw [if_neg c]
    exact key l (by omega)
end Go.Proofs.Ytkelkigkoceljaa.Pure
