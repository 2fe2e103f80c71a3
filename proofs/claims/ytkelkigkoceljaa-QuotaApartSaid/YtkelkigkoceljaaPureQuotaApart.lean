/- Whatever is asked (40 requests at the most), by any rate: what one takes is of no matter to another one. No condition. -/
import Derived.Test.YtkelkigkoceljaaPx2
import Derived.Test.YtkelkigkoceljaaPx3
import Derived.Test.YtkelkigkoceljaaPx4
import Derived.Test.YtkelkigkoceljaaPx5
import Derived.Test.YtkelkigkoceljaaPx6
import Derived.Test.YtkelkigkoceljaaPx15
set_option linter.unusedVariables false
set_option linter.unusedSimpArgs false
namespace Go.Proofs.Ytkelkigkoceljaa.Qt
open Go.RowKit Go.Proofs.Ytkelkigkoceljaa.P Go.Proofs.YtkelkigkoceljaaW.PrintWords Go.Proofs.YtkelkigkoceljaaW.PrintLast Go.Proofs.YtkelkigkoceljaaW.PrintMore
theorem w64 {x : Int} (h0 : -9223372036854775808 ≤ x) (h1 : x ≤ 9223372036854775807) : wrap64 x = x := by unfold wrap64; omega
theorem rd_at (s : List S49) (j : Nat) (h : j < s.length) : rd_T49 s (j : Int) = s[j] := by
  simp [rd_T49, List.getD_eq_getElem?_getD, List.getElem?_eq_getElem h]
def headB (tick most now : Int) (n : Nat) : Bool := decide (1 ≤ tick ∧ tick ≤ 1048576 ∧ 1 ≤ most ∧ most ≤ 1048576 ∧ 0 ≤ now ∧ now ≤ 1099511627776 ∧ n ≤ 64)
def oneB (most now : Int) (x : S49) : Bool := decide (0 ≤ x.f0 ∧ x.f0 ≤ 1099511627776 ∧ 0 ≤ x.f1 ∧ x.f1 ≤ most ∧ 0 ≤ x.f2 ∧ x.f2 ≤ now)
def upB (l : List S49) : Bool := decide (l.Pairwise fun a b => a.f0 < b.f0)
def rightB (tick most : Int) (l : List S49) (now : Int) : Bool := headB tick most now l.length && l.all (oneB most now) && upB l
theorem rightB_iff {tick most : Int} {l : List S49} {now : Int} : rightB tick most l now = true ↔ (1 ≤ tick ∧ tick ≤ 1048576 ∧ 1 ≤ most ∧ most ≤ 1048576 ∧ 0 ≤ now ∧ now ≤ 1099511627776 ∧ l.length ≤ 64) ∧ (∀ x ∈ l, 0 ≤ x.f0 ∧ x.f0 ≤ 1099511627776 ∧ 0 ≤ x.f1 ∧ x.f1 ≤ most ∧ 0 ≤ x.f2 ∧ x.f2 ≤ now) ∧ l.Pairwise fun a b => a.f0 < b.f0 := by
  unfold rightB headB oneB upB
  simp only [Bool.and_eq_true, decide_eq_true_eq, List.all_eq_true, and_assoc]
/-- Rows that rise from one to the next. -/
theorem pair_of {l : List S49} (h : ∀ j, (hj : j + 1 < l.length) → (l[j]'(by omega)).f0 < l[j + 1].f0) : l.Pairwise fun a b => a.f0 < b.f0 := by
  rw [List.pairwise_iff_getElem]
  intro i j hi hj hij
  obtain ⟨d, rfl⟩ : ∃ d, j = i + 1 + d := ⟨j - (i + 1), by omega⟩
  clear hij
  induction d with
  | zero => exact h i hj
  | succ d ih =>
    have h1 := ih (by omega)
    have h2 := h (i + 1 + d) hj
    exact Int.lt_trans h1 h2
theorem of_pair {l : List S49} (h : l.Pairwise fun a b => a.f0 < b.f0) (j : Nat) (hj : j + 1 < l.length) : (l[j]'(by omega)).f0 < l[j + 1].f0 := List.pairwise_iff_getElem.1 h j (j + 1) (by omega) hj (by omega)
/-- What one round asks of an element. -/
def G (most now : Int) (l : List S49) (j : Nat) (h : j < l.length) : Prop := (0 ≤ l[j].f0 ∧ l[j].f0 ≤ 1099511627776 ∧ 0 ≤ l[j].f1 ∧ l[j].f1 ≤ most ∧ 0 ≤ l[j].f2 ∧ l[j].f2 ≤ now) ∧ (0 < j → (l[j - 1]'(by omega)).f0 < l[j].f0)
theorem all_G {most now : Int} {l : List S49} : (∀ j, (h : j < l.length) → G most now l j h) ↔ (∀ x ∈ l, 0 ≤ x.f0 ∧ x.f0 ≤ 1099511627776 ∧ 0 ≤ x.f1 ∧ x.f1 ≤ most ∧ 0 ≤ x.f2 ∧ x.f2 ≤ now) ∧ l.Pairwise fun a b => a.f0 < b.f0 := by
  constructor
  · intro h
    refine ⟨fun x hx => ?_, pair_of fun j hj => by have := (h (j + 1) hj).2 (by omega); simpa using this⟩
    obtain ⟨j, hj, rfl⟩ := List.getElem_of_mem hx
    exact (h j hj).1
  · rintro ⟨h1, h2⟩ j hj
    refine ⟨h1 _ (List.getElem_mem hj), fun h0 => ?_⟩
    have := of_pair h2 (j - 1) (by omega)
    simpa [show j - 1 + 1 = j by omega] using this
theorem right_l0 (tick most now : Int) (l : List S49) (hl : l.length ≤ 9223372036854775807) (d : Nat) : ∀ (j k : Nat), l.length - j = d → j ≤ l.length → d < k →
    (∃ b, quota_right.l0 k l now true (j : Int) tick most = some b ∧ (b = true ↔ ∀ i, (h : i < l.length) → j ≤ i → G most now l i h)) ∧ quota_right.l0 k l now false (j : Int) tick most = some false := by
  induction d with
  | zero =>
    intro j k hd hj hk
    obtain ⟨k, rfl⟩ : ∃ m, k = m + 1 := ⟨k - 1, by omega⟩
    refine ⟨⟨true, ?_, by simp; intro i h1 h2; omega⟩, ?_⟩
    · rw [quota_right.l0, if_pos rfl, if_neg (by omega)]
    · rw [quota_right.l0, if_neg (by decide)]
  | succ d ih =>
    intro j k hd hj hk
    obtain ⟨k, rfl⟩ : ∃ m, k = m + 1 := ⟨k - 1, by omega⟩
    have hlt : j < l.length := by omega
    have e1 : wrap64 ((j : Int) + 1) = ((j + 1 : Nat) : Int) := by rw [w64 (by omega) (by omega)]; omega
    obtain ⟨⟨b, hb, hbi⟩, hf⟩ := ih (j + 1) k (by omega) (by omega) (by omega)
    refine ⟨?_, by rw [quota_right.l0, if_neg (by decide)]⟩
    rw [quota_right.l0, if_pos rfl, if_pos (by omega), if_pos (by omega), rd_at l j hlt, e1, hf]
    by_cases g : G most now l j hlt
    · obtain ⟨⟨g1, g2, g3, g4, g5, g6⟩, g7⟩ := g
      have hall : (∀ i, (h : i < l.length) → j ≤ i → G most now l i h) ↔ (∀ i, (h : i < l.length) → j + 1 ≤ i → G most now l i h) :=
        ⟨fun h i hi hij => h i hi (by omega), fun h i hi hij => by
          by_cases e : i = j
          · subst e; exact ⟨⟨g1, g2, g3, g4, g5, g6⟩, g7⟩
          · exact h i hi (by omega)⟩
      rw [if_pos g1, if_pos g2, if_pos g3, if_pos g4, if_pos g5, if_pos g6]
      by_cases h0 : j = 0
      · subst h0
        rw [if_pos (by omega)]
        exact ⟨b, hb, hbi.trans hall.symm⟩
      · have e2 : wrap64 ((j : Int) - 1) = ((j - 1 : Nat) : Int) := by rw [w64 (by omega) (by omega)]; omega
        rw [if_neg (by omega), e2, if_pos (by omega), if_pos (by omega), rd_at l (j - 1) (by omega), decide_eq_true (g7 (by omega))]
        exact ⟨b, hb, hbi.trans hall.symm⟩
    · refine ⟨false, ?_, ⟨fun h => by simp at h, fun h => (g (h j hlt (Nat.le_refl _))).elim⟩⟩
      by_cases g1 : l[j].f0 ≥ 0
      · rw [if_pos g1]
        by_cases g2 : l[j].f0 ≤ 1099511627776
        · rw [if_pos g2]
          by_cases g3 : l[j].f1 ≥ 0
          · rw [if_pos g3]
            by_cases g4 : l[j].f1 ≤ most
            · rw [if_pos g4]
              by_cases g5 : l[j].f2 ≥ 0
              · rw [if_pos g5]
                by_cases g6 : l[j].f2 ≤ now
                · rw [if_pos g6]
                  have h0 : j ≠ 0 := fun h0 => g ⟨⟨g1, g2, g3, g4, g5, g6⟩, fun h => by omega⟩
                  have e2 : wrap64 ((j : Int) - 1) = ((j - 1 : Nat) : Int) := by rw [w64 (by omega) (by omega)]; omega
                  rw [if_neg (by omega), e2, if_pos (by omega), if_pos (by omega), rd_at l (j - 1) (by omega), decide_eq_false (fun h => g ⟨⟨g1, g2, g3, g4, g5, g6⟩, fun _ => h⟩), hf]
                · rw [if_neg g6]
              · rw [if_neg g5]
            · rw [if_neg g4]
          · rw [if_neg g3]
        · rw [if_neg g2]
      · rw [if_neg g1]
theorem check_eq (tick most : Int) : quota_Check.f tick most = some (if 1 ≤ tick ∧ tick ≤ 1048576 ∧ 1 ≤ most ∧ most ≤ 1048576 then 0 else 1) := by
  unfold quota_Check.f
  by_cases h1 : tick < 1
  · rw [if_pos h1, if_neg (by omega)]
  · by_cases h2 : tick > 1048576
    · rw [if_neg h1, if_pos h2, if_neg (by omega)]
    · by_cases h3 : most < 1
      · rw [if_neg h1, if_neg h2, if_pos h3, if_neg (by omega)]
      · by_cases h4 : most > 1048576
        · rw [if_neg h1, if_neg h2, if_neg h3, if_pos h4, if_neg (by omega)]
        · rw [if_neg h1, if_neg h2, if_neg h3, if_neg h4, if_pos (by omega)]
theorem bool_ext {a b : Bool} (h : a = true ↔ b = true) : a = b := by cases a <;> cases b <;> simp_all
theorem right_eq (tick most : Int) (l : List S49) (now : Int) (hl : l.length ≤ 9223372036854775807) (k : Nat) (hk : l.length + 2 < k) : quota_right.f k tick most l now = some (rightB tick most l now) := by
  unfold quota_right.f
  rw [check_eq, Option.bind_some]
  obtain ⟨k, rfl⟩ : ∃ m, k = m + 1 := ⟨k - 1, by omega⟩
  obtain ⟨⟨b, hb, hbi⟩, hf⟩ := right_l0 tick most now l hl l.length 0 k (by omega) (by omega) (by omega)
  have hj : ∀ c, quota_right.j0 (k + 1) l now c tick most = quota_right.l0 k l now c ((0 : Nat) : Int) tick most := fun c => by rw [quota_right.j0]; rfl
  have hbi' : b = true ↔ ((∀ x ∈ l, 0 ≤ x.f0 ∧ x.f0 ≤ 1099511627776 ∧ 0 ≤ x.f1 ∧ x.f1 ≤ most ∧ 0 ≤ x.f2 ∧ x.f2 ≤ now) ∧ l.Pairwise fun a b => a.f0 < b.f0) := hbi.trans (Iff.trans ⟨fun h i hi => h i hi (by omega), fun h i hi _ => h i hi⟩ all_G)
  simp only [hj]
  by_cases h1 : 1 ≤ tick ∧ tick ≤ 1048576 ∧ 1 ≤ most ∧ most ≤ 1048576
  · rw [if_pos h1, if_pos rfl]
    by_cases h2 : now ≥ 0
    · rw [if_pos h2]
      by_cases h3 : now ≤ 1099511627776
      · rw [if_pos h3]
        by_cases h4 : (l.length : Int) ≤ 64
        · rw [decide_eq_true h4, hb]
          congr 1
          exact bool_ext (hbi'.trans (Iff.trans ⟨fun h => ⟨by omega, h⟩, fun h => h.2⟩ rightB_iff.symm))
        · rw [decide_eq_false h4, hf]
          congr 1
          exact bool_ext ⟨fun h => by simp at h, fun h => by have := (rightB_iff.1 h).1; omega⟩
      · rw [if_neg h3, hf]
        congr 1
        exact bool_ext ⟨fun h => by simp at h, fun h => by have := (rightB_iff.1 h).1; omega⟩
    · rw [if_neg h2, hf]
      congr 1
      exact bool_ext ⟨fun h => by simp at h, fun h => by have := (rightB_iff.1 h).1; omega⟩
  · rw [if_neg h1, if_neg (by decide), hf]
    congr 1
    exact bool_ext ⟨fun h => by simp at h, fun h => by have := (rightB_iff.1 h).1; omega⟩
/-- What somebody has. -/
def hasV (tick most left since now : Int) : Int := if left + (now - since) * tick < most then left + (now - since) * tick else most
theorem mul_bd {a b A B : Int} (h0 : 0 ≤ a) (h1 : a ≤ A) (h2 : 0 ≤ b) (h3 : b ≤ B) : 0 ≤ a * b ∧ a * b ≤ A * B :=
  ⟨Int.mul_nonneg h0 h2, Int.mul_le_mul h1 h3 h2 (Int.le_trans h0 h1)⟩
theorem has_eq {tick most left since now : Int} (who : Int) (h1 : 1 ≤ tick) (h2 : tick ≤ 1048576) (h3 : 1 ≤ most) (h4 : most ≤ 1048576) (h5 : 0 ≤ left) (h6 : left ≤ most) (h7 : 0 ≤ since) (h8 : since ≤ now) (h9 : now ≤ 1099511627776) :
    quota_has.f tick most who left since now = some (hasV tick most left since now) := by
  unfold quota_has.f hasV
  rw [w64 (by omega) (by omega)]
  by_cases c : now - since < 1048576
  · have hm := mul_bd (show 0 ≤ now - since by omega) (show now - since ≤ 1048576 by omega) (show 0 ≤ tick by omega) h2
    rw [if_pos c, w64 (x := (now - since) * tick) (by omega) (by omega), w64 (by omega) (by omega)]
    rfl
  · have hm : now - since ≤ (now - since) * tick := by
      have := Int.mul_le_mul_of_nonneg_left h1 (show 0 ≤ now - since by omega)
      omega
    rw [if_neg c, if_neg (by omega)]
theorem hasV_bd {tick most left since now : Int} (h1 : 1 ≤ tick) (h3 : 1 ≤ most) (h5 : 0 ≤ left) (h8 : since ≤ now) : 0 ≤ hasV tick most left since now ∧ hasV tick most left since now ≤ most := by
  have hm := Int.mul_nonneg (show 0 ≤ now - since by omega) (show 0 ≤ tick by omega)
  unfold hasV
  split <;> omega
/-- The answer. -/
def finV (tick most : Int) (l : List S49) (i : Nat) (n now : Int) : List S49 × Int × Int :=
  if hasV tick most (rd_T49 l i).f1 (rd_T49 l i).f2 now < n then (l, (n - hasV tick most (rd_T49 l i).f1 (rd_T49 l i).f2 now + tick - 1) / tick, 10)
  else (l.set i ⟨(rd_T49 l i).f0, hasV tick most (rd_T49 l i).f1 (rd_T49 l i).f2 now - n, now⟩, 0, 0)
def insV (l : List S49) (i : Nat) (x : S49) : List S49 := l.take i ++ x :: l.drop i
def takeV (tick most : Int) (l : List S49) (who n now : Int) : List S49 × Int × Int :=
  if rightB tick most l now = true ∧ 0 ≤ who ∧ who ≤ 1099511627776 ∧ 0 ≤ n then
    if n > most then ([], 0, 6)
    else if lt049 l who < l.length ∧ (rd_T49 l (lt049 l who : Int)).f0 = who then finV tick most l (lt049 l who) n now
    else if l.length = 64 then ([], 0, 5)
    else finV tick most (insV l (lt049 l who) ⟨who, most, now⟩) (lt049 l who) n now
  else ([], 0, 1)
theorem lt0_lo : ∀ (l : List S49) (t : Int) (q : Nat), q < lt049 l t → (rd_T49 l (q : Int)).f0 < t
  | [], t, q, h => by simp [lt049] at h
  | x :: l, t, q, h => by
    unfold lt049 at h
    rw [List.takeWhile_cons] at h
    by_cases c : x.f0 < t
    · rw [if_pos (by simpa using c)] at h
      cases q with
      | zero => simpa [rd_T49] using c
      | succ q =>
        have := lt0_lo l t q (by simpa [lt049] using h)
        simpa [rd_T49] using this
    · rw [if_neg (by simpa using c)] at h
      simp at h
theorem lt0_hi : ∀ (l : List S49) (t : Int), lt049 l t < l.length → t ≤ (rd_T49 l (lt049 l t : Int)).f0
  | [], t, h => by simp at h
  | x :: l, t, h => by
    unfold lt049 at h ⊢
    rw [List.takeWhile_cons] at h ⊢
    by_cases c : x.f0 < t
    · rw [if_pos (by simpa using c)] at h ⊢
      have := lt0_hi l t (by simpa [lt049] using h)
      simpa [rd_T49, lt049] using this
    · rw [if_neg (by simpa using c)]
      simp [rd_T49]
      omega
theorem lt0_le (l : List S49) (t : Int) : lt049 l t ≤ l.length := lt0_le49 l t
theorem insV_len (l : List S49) (i : Nat) (x : S49) (hi : i ≤ l.length) : (insV l i x).length = l.length + 1 := by
  unfold insV; rw [List.length_append, List.length_cons, List.length_take, List.length_drop]; omega
theorem insV_at (l : List S49) (i : Nat) (x : S49) (hi : i ≤ l.length) : rd_T49 (insV l i x) (i : Int) = x := by
  rw [rd_at _ _ (by rw [insV_len l i x hi]; omega)]
  unfold insV
  rw [List.getElem_append_right (by rw [List.length_take]; omega)]
  simp [List.length_take, Nat.min_eq_left hi]
theorem insV_set (l : List S49) (i : Nat) (x y : S49) (hi : i ≤ l.length) : (insV l i x).set i y = insV l i y := by
  unfold insV
  have h : (l.take i).length = i := by rw [List.length_take]; omega
  rw [List.set_append_right _ _ (by rw [h]; exact Nat.le_refl _), h, Nat.sub_self, List.set_cons_zero]
/-- The rows' elements are bounded. -/
theorem right_at {tick most : Int} {l : List S49} {now : Int} (h : rightB tick most l now = true) (i : Nat) (hi : i < l.length) : 0 ≤ (rd_T49 l i).f0 ∧ (rd_T49 l i).f0 ≤ 1099511627776 ∧ 0 ≤ (rd_T49 l i).f1 ∧ (rd_T49 l i).f1 ≤ most ∧ 0 ≤ (rd_T49 l i).f2 ∧ (rd_T49 l i).f2 ≤ now := by
  rw [rd_at l i hi]
  exact (rightB_iff.1 h).2.1 _ (List.getElem_mem hi)
theorem body_eq {tick most : Int} {l : List S49} {i : Nat} {n now : Int} (h1 : 1 ≤ tick) (h2 : tick ≤ 1048576) (h3 : 1 ≤ most) (h4 : most ≤ 1048576) (h9 : now ≤ 1099511627776) (h : 0 ≤ (rd_T49 l i).f1 ∧ (rd_T49 l i).f1 ≤ most ∧ 0 ≤ (rd_T49 l i).f2 ∧ (rd_T49 l i).f2 ≤ now) :
    quota_Take.body tick most l i n now = some (finV tick most l i n now) := by
  unfold quota_Take.body finV
  obtain ⟨q1, q2, q3, q4⟩ := h
  have hb := hasV_bd (tick := tick) (most := most) (left := (rd_T49 l i).f1) (since := (rd_T49 l i).f2) (now := now) h1 h3 q1 q4
  rw [has_eq _ h1 h2 h3 h4 q1 q2 q3 q4 h9, Option.bind_some, if_pos (by omega)]
  split <;> rfl
theorem take_eq (tick most : Int) (l : List S49) (who n now : Int) (hl : l.length ≤ 9223372036854775807) (k : Nat) (hk : l.length + 2 < k) : quota_Take.f k tick most l who n now = some (takeV tick most l who n now) := by
  unfold quota_Take.f takeV
  rw [right_eq tick most l now hl k hk, Option.bind_some]
  by_cases hr : rightB tick most l now = true ∧ 0 ≤ who ∧ who ≤ 1099511627776 ∧ 0 ≤ n
  · rw [if_pos hr, if_pos hr]
    obtain ⟨⟨q1, q2, q3, q4, q5, q6, q7⟩, q8, q9⟩ := rightB_iff.1 hr.1
    split
    · rfl
    · rename_i hn
      rw [if_pos (by
        simp only [quota_Take.okB, Bool.and_eq_true, decide_eq_true_eq, List.all_eq_true]
        exact ⟨⟨⟨⟨⟨⟨⟨⟨q1, q2⟩, q3⟩, q4⟩, q5⟩, q6⟩, q7⟩, fun x hx => ⟨(q8 x hx).1, (q8 x hx).2.1⟩⟩, q9⟩)]
      split
      · rename_i hf
        have := right_at hr.1 _ hf.1
        exact body_eq q1 q2 q3 q4 q6 (by omega)
      · split
        · rfl
        · have hle := lt0_le l who
          have e := insV_at l (lt049 l who) ⟨who, most, now⟩ hle
          exact body_eq (l := insV l (lt049 l who) ⟨who, most, now⟩) q1 q2 q3 q4 q6 (by rw [e]; dsimp only; omega)
  · rw [if_neg hr, if_neg hr]
theorem awake_eq (k : Nat) (hk : 10 < k) : headgatelaw36_awake.f k = some true := by
  unfold headgatelaw36_awake.f
  have e1 : takeV 2 5 [] 1 4 0 = ([⟨1, 1, 0⟩], 0, 0) := by rfl
  have e2 : takeV 2 5 [⟨1, 1, 0⟩] 1 4 0 = ([⟨1, 1, 0⟩], 2, 10) := by rfl
  have e3 : takeV 2 5 [⟨1, 1, 0⟩] 1 4 2 = ([⟨1, 1, 2⟩], 0, 0) := by rfl
  rw [take_eq _ _ _ _ _ _ (by simp) k (by simp; omega), e1, Option.bind_some, take_eq _ _ _ _ _ _ (by simp) k (by simp; omega), e2, Option.bind_some, take_eq _ _ _ _ _ _ (by simp) k (by simp; omega), e3, Option.bind_some]
  rfl
end Go.Proofs.Ytkelkigkoceljaa.Qt
set_option linter.unusedVariables false
set_option linter.unusedSimpArgs false
namespace Go.Proofs.Ytkelkigkoceljaa.Qb
open Go.RowKit Go.Proofs.Ytkelkigkoceljaa.Qt Go.Proofs.Ytkelkigkoceljaa.P Go.Proofs.YtkelkigkoceljaaW.PrintWords Go.Proofs.YtkelkigkoceljaaW.PrintLast Go.Proofs.YtkelkigkoceljaaW.PrintMore
/-- The account of somebody. -/
def look (l : List S49) (q : Int) : Option S49 := l.find? fun x => x.f0 == q
theorem look_some {l : List S49} {q : Int} {x : S49} (h : look l q = some x) : x ∈ l ∧ x.f0 = q := ⟨List.mem_of_find?_eq_some h, by simpa using List.find?_some h⟩
theorem look_set : ∀ (l : List S49) (i : Nat) (p : Int) (y : S49) (hi : i < l.length), l[i].f0 = p → y.f0 = p → (l.Pairwise fun a b => a.f0 < b.f0) → ∀ q, look (l.set i y) q = if q = p then some y else look l q
  | [], i, p, y, hi, _, _, _, q => by simp at hi
  | x :: l, 0, p, y, hi, h1, h2, h3, q => by
    simp only [List.getElem_cons_zero] at h1
    rw [List.set_cons_zero, look, look, List.find?_cons, List.find?_cons, h1, h2]
    by_cases e : q = p
    · subst e; simp
    · have : (p == q) = false := by rw [beq_eq_false_iff_ne]; exact fun h => e h.symm
      rw [this, if_neg e]
  | x :: l, i + 1, p, y, hi, h1, h2, h3, q => by
    have h3' := List.pairwise_cons.1 h3
    have hil : i < l.length := by simpa using hi
    simp only [List.getElem_cons_succ] at h1
    have hx : x.f0 < p := by rw [← h1]; exact h3'.1 _ (List.getElem_mem hil)
    have ih := look_set l i p y hil h1 h2 h3'.2 q
    unfold look at ih ⊢
    rw [List.set_cons_succ, List.find?_cons, List.find?_cons]
    by_cases e : x.f0 = q
    · rw [beq_iff_eq.2 e, if_neg (by omega)]
    · rw [beq_eq_false_iff_ne.2 e]
      exact ih
theorem look_ins : ∀ (l : List S49) (i : Nat) (p : Int) (y : S49), i ≤ l.length → y.f0 = p → (∀ x ∈ l, x.f0 ≠ p) → ∀ q, look (l.take i ++ y :: l.drop i) q = if q = p then some y else look l q
  | l, 0, p, y, hi, h1, h2, q => by
    rw [List.take_zero, List.drop_zero, List.nil_append, look, List.find?_cons, h1]
    by_cases e : q = p
    · subst e; simp
    · have : (p == q) = false := by rw [beq_eq_false_iff_ne]; exact fun h => e h.symm
      rw [this, if_neg e]; rfl
  | [], i + 1, p, y, hi, _, _, q => by simp at hi
  | x :: l, i + 1, p, y, hi, h1, h2, q => by
    have hx : x.f0 ≠ p := h2 x List.mem_cons_self
    have ih := look_ins l i p y (by simpa using hi) h1 (fun z hz => h2 z (List.mem_cons_of_mem _ hz)) q
    unfold look at ih ⊢
    rw [List.take_succ_cons, List.drop_succ_cons, List.cons_append, List.find?_cons, List.find?_cons]
    by_cases e : x.f0 = q
    · rw [beq_iff_eq.2 e, if_neg (fun h => hx (e.trans h))]
    · rw [beq_eq_false_iff_ne.2 e]
      exact ih
/-- Nobody's account, where it is not found. -/
theorem no_row {l : List S49} (h2 : l.Pairwise fun a b => a.f0 < b.f0) {p : Int} (hf : ¬ (lt049 l p < l.length ∧ (rd_T49 l (lt049 l p : Int)).f0 = p)) : ∀ x ∈ l, x.f0 ≠ p := by
  intro x hx e
  obtain ⟨j, hj, rfl⟩ := List.getElem_of_mem hx
  have hle := lt0_le49 l p
  rcases Nat.lt_trichotomy j (lt049 l p) with h | h | h
  · have := lt0_lo l p j h
    rw [rd_at l j hj] at this
    omega
  · exact hf ⟨by omega, by rw [← h, rd_at l j hj]; exact e⟩
  · have a := lt0_hi l p (by omega)
    rw [rd_at l _ (by omega)] at a
    have b := List.pairwise_iff_getElem.1 h2 (lt049 l p) j (by omega) hj h
    omega
theorem ins_sorted {l : List S49} (h2 : l.Pairwise fun a b => a.f0 < b.f0) {p : Int} {y : S49} (hy : y.f0 = p) (hn : ∀ x ∈ l, x.f0 ≠ p) : (l.take (lt049 l p) ++ y :: l.drop (lt049 l p)).Pairwise fun a b => a.f0 < b.f0 := by
  have hle := lt0_le49 l p
  have hlo : ∀ x ∈ l.take (lt049 l p), x.f0 < p := by
    intro x hx
    obtain ⟨j, hj, rfl⟩ := List.getElem_of_mem hx
    rw [List.length_take] at hj
    have := lt0_lo l p j (by omega)
    rw [rd_at l j (by omega)] at this
    rw [List.getElem_take]; exact this
  have hhi : ∀ x ∈ l.drop (lt049 l p), p < x.f0 := by
    intro x hx
    obtain ⟨j, hj, rfl⟩ := List.getElem_of_mem hx
    rw [List.length_drop] at hj
    rw [List.getElem_drop]
    have a := lt0_hi l p (by omega)
    rw [rd_at l _ (by omega)] at a
    have ne := hn _ (List.getElem_mem (show lt049 l p < l.length by omega))
    by_cases h0 : j = 0
    · subst h0; simp only [Nat.add_zero]; omega
    · have b := List.pairwise_iff_getElem.1 h2 (lt049 l p) (lt049 l p + j) (by omega) (by omega) (by omega)
      omega
  refine List.pairwise_append.2 ⟨h2.sublist (List.take_sublist _ _), List.pairwise_cons.2 ⟨fun x hx => by have := hhi x hx; omega, h2.sublist (List.drop_sublist _ _)⟩, fun a ha b hb => ?_⟩
  have ha' := hlo a ha
  rcases List.mem_cons.1 hb with rfl | hb
  · omega
  · have := hhi b hb; omega
theorem bits_and_mask (x : Int) (n : Nat) (hn : n ≤ 62) : Go.bits .and .i64 x (((2 ^ n - 1 : Nat) : Int)) = ((x % 18446744073709551616).toNat % 2 ^ n : Nat) := by
  unfold Go.bits
  have h1 : (BitVec.ofInt IntKind.i64.bits x).toNat = (x % 18446744073709551616).toNat := by rw [BitVec.toNat_ofInt]; rfl
  have hp : 2 ^ n ≤ 2 ^ 62 := Nat.pow_le_pow_right (by omega) hn
  have h2 : (BitVec.ofInt IntKind.i64.bits ((2 ^ n - 1 : Nat) : Int)).toNat = 2 ^ n - 1 := by
    rw [BitVec.toNat_ofInt]
    show (((2 ^ n - 1 : Nat) : Int) % 18446744073709551616).toNat = _
    generalize 2 ^ n = m at *
    omega
  have h3 : ((BitVec.ofInt IntKind.i64.bits x) &&& (BitVec.ofInt IntKind.i64.bits ((2 ^ n - 1 : Nat) : Int))).toNat = (x % 18446744073709551616).toNat % 2 ^ n := by
    rw [BitVec.toNat_and, h1, h2, Nat.and_two_pow_sub_one_eq_mod]
  show IntKind.i64.wrap ((((BitVec.ofInt IntKind.i64.bits x) &&& (BitVec.ofInt IntKind.i64.bits ((2 ^ n - 1 : Nat) : Int))).toNat : Nat) : Int) = _
  rw [h3, IntKind.wrap_i64]
  have hpos : 0 < 2 ^ n := Nat.pos_of_ne_zero (by simp)
  have := Nat.mod_lt (x % 18446744073709551616).toNat hpos
  generalize 2 ^ n = m at *
  omega
theorem find_is : ∀ (l : List S49) (p : Int), (l.Pairwise fun a b => a.f0 < b.f0) → look l p = if lt049 l p < l.length ∧ (rd_T49 l (lt049 l p : Int)).f0 = p then some (rd_T49 l (lt049 l p : Int)) else none
  | [], p, h => rfl
  | x :: l, p, h => by
    obtain ⟨h1, h2⟩ := List.pairwise_cons.1 h
    have hc : lt049 (x :: l) p = if x.f0 < p then lt049 l p + 1 else 0 := by
      unfold lt049
      rw [List.takeWhile_cons]
      by_cases c : x.f0 < p
      · rw [if_pos (by simpa using c), if_pos c]; rfl
      · rw [if_neg (by simpa using c), if_neg c]; rfl
    have r0 : rd_T49 (x :: l) ((0 : Nat) : Int) = x := by simp [rd_T49]
    have r1 : ∀ n : Nat, rd_T49 (x :: l) ((n + 1 : Nat) : Int) = rd_T49 l (n : Int) := fun n => by simp [rd_T49]
    have ih := find_is l p h2
    unfold look at ih ⊢
    rw [hc, List.find?_cons]
    by_cases c : x.f0 < p
    · rw [if_pos c, beq_eq_false_iff_ne.2 (by omega), r1]
      have e : (lt049 l p + 1 < (x :: l).length ∧ (rd_T49 l (lt049 l p : Int)).f0 = p) = (lt049 l p < l.length ∧ (rd_T49 l (lt049 l p : Int)).f0 = p) := by simp
      simp only [e]
      exact ih
    · rw [if_neg c, r0]
      by_cases c2 : x.f0 = p
      · rw [beq_iff_eq.2 c2, if_pos ⟨by simp, c2⟩]
      · rw [beq_eq_false_iff_ne.2 c2, if_neg (fun h => c2 h.2)]
        simp only
        rw [List.find?_eq_none]
        intro y hy e
        have := h1 y hy
        have := beq_iff_eq.1 e
        omega
theorem set_sorted {l : List S49} (h2 : l.Pairwise fun a b => a.f0 < b.f0) {i : Nat} (hi : i < l.length) {y : S49} (hy : y.f0 = l[i].f0) : (l.set i y).Pairwise fun a b => a.f0 < b.f0 := by
  have e : ∀ j, (hj : j < (l.set i y).length) → (l.set i y)[j].f0 = (l[j]'(by rw [List.length_set] at hj; exact hj)).f0 := by
    intro j hj
    rw [List.getElem_set]
    split
    · rename_i h; subst h; exact hy
    · rfl
  rw [List.pairwise_iff_getElem]
  intro p q hp hq hpq
  rw [e p hp, e q hq]
  exact List.pairwise_iff_getElem.1 h2 p q (by rw [List.length_set] at hp; exact hp) (by rw [List.length_set] at hq; exact hq) hpq
/-- Accounts that may be, of 0 to 3. -/
def Inv (tick most now : Int) (l : List S49) : Prop := (1 ≤ tick ∧ tick ≤ 1048576 ∧ 1 ≤ most ∧ most ≤ 1048576 ∧ 0 ≤ now ∧ now ≤ 1099511627776) ∧ (∀ x ∈ l, (0 ≤ x.f0 ∧ x.f0 ≤ 3) ∧ 0 ≤ x.f1 ∧ x.f1 ≤ most ∧ 0 ≤ x.f2 ∧ x.f2 ≤ now) ∧ l.Pairwise fun a b => a.f0 < b.f0
theorem len4 {l : List S49} (h1 : ∀ x ∈ l, 0 ≤ x.f0 ∧ x.f0 ≤ 3) (h2 : l.Pairwise fun a b => a.f0 < b.f0) : l.length ≤ 4 := by
  have key : ∀ j, (hj : j < l.length) → (j : Int) ≤ l[j].f0 := by
    intro j
    induction j with
    | zero => intro hj; have := (h1 _ (List.getElem_mem hj)).1; omega
    | succ j ih =>
      intro hj
      have a := ih (by omega)
      have b := List.pairwise_iff_getElem.1 h2 j (j + 1) (by omega) hj (by omega)
      omega
  rcases Nat.lt_or_ge 4 l.length with h | h
  · have a := key 4 h
    have b := (h1 _ (List.getElem_mem h)).2
    omega
  · exact h
theorem inv_len {tick most now : Int} {l : List S49} (h : Inv tick most now l) : l.length ≤ 4 := len4 (fun x hx => (h.2.1 x hx).1) h.2.2
theorem inv_later {tick most now now' : Int} {l : List S49} (h : Inv tick most now l) (h1 : now ≤ now') (h2 : now' ≤ 1099511627776) : Inv tick most now' l :=
  ⟨⟨h.1.1, h.1.2.1, h.1.2.2.1, h.1.2.2.2.1, by have := h.1; omega, h2⟩, fun x hx => by have := h.2.1 x hx; omega, h.2.2⟩
theorem inv_right {tick most now : Int} {l : List S49} (h : Inv tick most now l) : rightB tick most l now = true := by
  have := inv_len h
  obtain ⟨h1, h2, h3⟩ := h
  exact rightB_iff.2 ⟨⟨h1.1, h1.2.1, h1.2.2.1, h1.2.2.2.1, h1.2.2.2.2.1, h1.2.2.2.2.2, by omega⟩, fun x hx => by have := h2 x hx; omega, h3⟩
/-- What somebody has at a time. -/
def av (tick most : Int) (l : List S49) (q t : Int) : Int := match look l q with
  | some x => hasV tick most x.f1 x.f2 t
  | none => most
theorem av_some {tick most : Int} {l : List S49} {q : Int} {x : S49} (h : look l q = some x) (t : Int) : av tick most l q t = hasV tick most x.f1 x.f2 t := by unfold av; rw [h]
theorem av_none {tick most : Int} {l : List S49} {q : Int} (h : look l q = none) (t : Int) : av tick most l q t = most := by unfold av; rw [h]
theorem av_same {tick most : Int} {l m : List S49} {q : Int} (h : look l q = look m q) (t : Int) : av tick most l q t = av tick most m q t := by unfold av; rw [h]
/-- What a request comes to, by what one has. -/
def ansV (tick most left n : Int) : Int × Int := if n > most then (0, 6) else if left < n then ((n - left + tick - 1) / tick, 10) else (0, 0)
theorem fresh_has {tick most now t : Int} (h1 : 1 ≤ tick) (ht : now ≤ t) : hasV tick most most now t = most := by
  unfold hasV
  have := Int.mul_nonneg (show 0 ≤ t - now by omega) (show 0 ≤ tick by omega)
  rw [if_neg (by omega)]
theorem takeV_is {tick most now : Int} {l : List S49} (h : Inv tick most now l) (who n : Int) (hw : 0 ≤ who ∧ who ≤ 3) (hn : 0 ≤ n) :
    (takeV tick most l who n now).2 = ansV tick most (av tick most l who now) n ∧ (n > most → (takeV tick most l who n now).1 = []) ∧
    (n ≤ most → Inv tick most now (takeV tick most l who n now).1 ∧ (∀ q, q ≠ who → look (takeV tick most l who n now).1 q = look l q) ∧
      (av tick most l who now < n → ∀ t, now ≤ t → av tick most (takeV tick most l who n now).1 who t = av tick most l who t) ∧
      (n ≤ av tick most l who now → look (takeV tick most l who n now).1 who = some ⟨who, av tick most l who now - n, now⟩)) := by
  have hr := inv_right h
  have h4 := inv_len h
  obtain ⟨h1, h2, h3⟩ := h
  have hfind := find_is l who h3
  have hc : rightB tick most l now = true ∧ 0 ≤ who ∧ who ≤ 1099511627776 ∧ 0 ≤ n := ⟨hr, hw.1, by omega, hn⟩
  unfold takeV ansV
  rw [if_pos hc]
  by_cases c1 : n > most
  · rw [if_pos c1, if_pos c1]
    exact ⟨rfl, fun _ => rfl, fun h => by omega⟩
  · rw [if_neg c1, if_neg c1]
    by_cases c2 : lt049 l who < l.length ∧ (rd_T49 l (lt049 l who : Int)).f0 = who
    · rw [if_pos c2] at hfind ⊢
      have hav : ∀ t, av tick most l who t = hasV tick most (rd_T49 l (lt049 l who : Int)).f1 (rd_T49 l (lt049 l who : Int)).f2 t := av_some hfind
      have hx := h2 _ (look_some hfind).1
      rw [hav now]
      unfold finV
      by_cases c3 : hasV tick most (rd_T49 l (lt049 l who : Int)).f1 (rd_T49 l (lt049 l who : Int)).f2 now < n
      · rw [if_pos c3, if_pos c3]
        exact ⟨rfl, fun h => by omega, fun _ => ⟨⟨h1, h2, h3⟩, fun _ _ => rfl, fun _ t _ => rfl, fun h => by omega⟩⟩
      · rw [if_neg c3, if_neg c3]
        have hb := hasV_bd (tick := tick) (most := most) (left := (rd_T49 l (lt049 l who : Int)).f1) (since := (rd_T49 l (lt049 l who : Int)).f2) (now := now) h1.1 h1.2.2.1 hx.2.1 hx.2.2.2.2
        have hg : l[lt049 l who].f0 = who := by rw [← rd_at l _ c2.1]; exact c2.2
        have hl := look_set l (lt049 l who) who ⟨(rd_T49 l (lt049 l who : Int)).f0, hasV tick most (rd_T49 l (lt049 l who : Int)).f1 (rd_T49 l (lt049 l who : Int)).f2 now - n, now⟩ c2.1 hg c2.2 h3
        refine ⟨rfl, fun h => by omega, fun _ => ⟨⟨h1, fun y hy => ?_, set_sorted h3 c2.1 (c2.2.trans hg.symm)⟩, fun q hq => by rw [hl q, if_neg hq], fun h => by omega, fun _ => by rw [hl who, if_pos rfl, c2.2]⟩⟩
        rcases List.mem_or_eq_of_mem_set hy with hy | rfl
        · exact h2 y hy
        · dsimp only; omega
    · rw [if_neg c2] at hfind ⊢
      rw [if_neg (show ¬ l.length = 64 by omega)]
      have hn0 := no_row h3 c2
      have hle := lt0_le l who
      have hat := insV_at l (lt049 l who) ⟨who, most, now⟩ hle
      have hav : ∀ t, av tick most l who t = most := av_none hfind
      unfold finV
      rw [hat, hav now, fresh_has h1.1 (Int.le_refl now), if_neg c1, if_neg c1, insV_set _ _ _ _ hle]
      have hl := look_ins l (lt049 l who) who ⟨who, most - n, now⟩ hle rfl hn0
      refine ⟨rfl, fun h => by omega, fun _ => ⟨⟨h1, fun y hy => ?_, ins_sorted h3 rfl hn0⟩, fun q hq => (hl q).trans (if_neg hq), fun h => by omega, fun _ => (hl who).trans (if_pos rfl)⟩⟩
      rcases List.mem_append.1 hy with hy | hy
      · exact h2 y (List.mem_of_mem_take hy)
      · rcases List.mem_cons.1 hy with rfl | hy
        · dsimp only; omega
        · exact h2 y (List.mem_of_mem_drop hy)
theorem inv_nil {tick most now : Int} (h : 1 ≤ tick ∧ tick ≤ 1048576 ∧ 1 ≤ most ∧ most ≤ 1048576 ∧ 0 ≤ now ∧ now ≤ 1099511627776) : Inv tick most now [] := ⟨h, fun x hx => (by cases hx), List.Pairwise.nil⟩
theorem mask_bd (x : Int) (n : Nat) (hn : n ≤ 62) : 0 ≤ Go.bits .and .i64 x (((2 ^ n - 1 : Nat) : Int)) ∧ Go.bits .and .i64 x (((2 ^ n - 1 : Nat) : Int)) ≤ (((2 ^ n - 1 : Nat) : Int)) := by
  rw [bits_and_mask x n hn]
  have hpos : 0 < 2 ^ n := Nat.pos_of_ne_zero (by simp)
  have := Nat.mod_lt (x % 18446744073709551616).toNat hpos
  omega
theorem m3 (x : Int) : 0 ≤ Go.bits .and .i64 x 3 ∧ Go.bits .and .i64 x 3 ≤ 3 := mask_bd x 2 (by omega)
theorem m1023 (x : Int) : 0 ≤ Go.bits .and .i64 x 1023 ∧ Go.bits .and .i64 x 1023 ≤ 1023 := mask_bd x 10 (by omega)
theorem m65535 (x : Int) : 0 ≤ Go.bits .and .i64 x 65535 ∧ Go.bits .and .i64 x 65535 ≤ 65535 := mask_bd x 16 (by omega)
theorem rd37_at (s : List S37) (j : Nat) (h : j < s.length) : rd_T37 s (j : Int) = s[j] := by
  simp [rd_T37, List.getD_eq_getElem?_getD, List.getElem?_eq_getElem h]
/-- A request, of a number ahead. -/
theorem take_i {tick most now : Int} {l : List S49} (h : Inv tick most now l) (who n : Int) (k : Nat) (hk : 10 ≤ k) : quota_Take.f k tick most l who n now = some (takeV tick most l who n now) := by
  have := inv_len h
  exact take_eq tick most l who n now (by omega) k (by omega)
end Go.Proofs.Ytkelkigkoceljaa.Qb
set_option linter.unusedVariables false
set_option linter.unusedSimpArgs false
namespace Go.Proofs.Ytkelkigkoceljaa.Pure
open Go.RowKit Go.Proofs.Ytkelkigkoceljaa.Qt Go.Proofs.Ytkelkigkoceljaa.Qb Go.Proofs.Ytkelkigkoceljaa.P Go.Proofs.YtkelkigkoceljaaW.PrintWords Go.Proofs.YtkelkigkoceljaaW.PrintLast Go.Proofs.YtkelkigkoceljaaW.PrintMore
def OkR (tick most : Int) : Prop := 1 ≤ tick ∧ tick ≤ 1048576 ∧ 1 ≤ most ∧ most ≤ 1048576
theorem takeV_no {tick most : Int} (h : ¬ OkR tick most) (who n now : Int) : takeV tick most [] who n now = ([], 0, 1) := by
  unfold takeV
  rw [if_neg]
  rintro ⟨h1, _⟩
  have := (rightB_iff.1 h1).1
  exact h ⟨this.1, this.2.1, this.2.2.1, this.2.2.2.1⟩
/-- What is known between two requests. -/
def Apart (tick most who now : Int) (a o : List S49) : Prop :=
  (Inv tick most now a ∧ Inv tick most now o ∧ ∀ t, now ≤ t → av tick most a who t = av tick most o who t) ∨ (¬ OkR tick most ∧ a = [] ∧ o = [] ∧ 0 ≤ now)
theorem apart_later {tick most who now now' : Int} {a o : List S49} (h : Apart tick most who now a o) (h1 : now ≤ now') (h2 : now' ≤ 1099511627776) : Apart tick most who now' a o := by
  rcases h with ⟨i1, i2, i3⟩ | ⟨i1, i2, i3, i4⟩
  · exact .inl ⟨inv_later i1 h1 h2, inv_later i2 h1 h2, fun t ht => i3 t (by omega)⟩
  · exact .inr ⟨i1, i2, i3, by omega⟩
/-- What stands behind a request. -/
def nxt (l : List S49) (r : List S49 × Int × Int) : List S49 := if r.2.2 = 0 ∨ r.2.2 = 10 then r.1 else l
theorem inv_nxt {tick most now : Int} {l : List S49} (h : Inv tick most now l) (w n : Int) (hw : 0 ≤ w ∧ w ≤ 3) (hn : 0 ≤ n) : Inv tick most now (nxt l (takeV tick most l w n now)) ∧ (∀ q, q ≠ w → ∀ t, av tick most (nxt l (takeV tick most l w n now)) q t = av tick most l q t) ∧
    (∀ m : List S49, Inv tick most now m → (∀ t, now ≤ t → av tick most l w t = av tick most m w t) → (takeV tick most l w n now).2 = (takeV tick most m w n now).2 ∧ ∀ t, now ≤ t → av tick most (nxt l (takeV tick most l w n now)) w t = av tick most (nxt m (takeV tick most m w n now)) w t) := by
  obtain ⟨a1, a2, a3⟩ := takeV_is h w n hw hn
  by_cases c : n > most
  · have hx : nxt l (takeV tick most l w n now) = l := by
      unfold nxt; rw [a1, ansV, if_pos c, if_neg (by decide)]
    rw [hx]
    refine ⟨h, fun _ _ _ => rfl, fun m hm hav => ?_⟩
    obtain ⟨b1, b2, b3⟩ := takeV_is hm w n hw hn
    have hy : nxt m (takeV tick most m w n now) = m := by
      unfold nxt; rw [b1, ansV, if_pos c, if_neg (by decide)]
    rw [hy]
    exact ⟨by rw [a1, b1, ansV, ansV, if_pos c, if_pos c], hav⟩
  · obtain ⟨a4, a5, a6, a7⟩ := a3 (by omega)
    have hz : ∀ (m : List S49), (takeV tick most m w n now).2 = ansV tick most (av tick most m w now) n → nxt m (takeV tick most m w n now) = (takeV tick most m w n now).1 := fun m e => by
      unfold nxt
      rw [if_pos]
      rw [e, ansV, if_neg c]
      split
      · exact .inr rfl
      · exact .inl rfl
    rw [hz l a1]
    refine ⟨a4, fun q hq t => av_same (a5 q hq) t, fun m hm hav => ?_⟩
    obtain ⟨b1, b2, b3⟩ := takeV_is hm w n hw hn
    obtain ⟨b4, b5, b6, b7⟩ := b3 (by omega)
    rw [hz m b1]
    have h0 := hav now (Int.le_refl _)
    refine ⟨by rw [a1, b1, h0], fun t ht => ?_⟩
    by_cases c2 : av tick most l w now < n
    · rw [a6 c2 t ht, b6 (by omega) t ht, hav t ht]
    · rw [av_some (a7 (by omega)), av_some (b7 (by omega)), h0]
theorem apart_l0 (tick most : Int) (l : List S37) (hl : l.length ≤ 40) (who : Int) (d : Nat) : ∀ (j k : Nat) (a o : List S49) (now : Int), l.length - j = d → 4 * d + 50 ≤ k → Apart tick most who now a o → now ≤ 1023 * j →
    headgatelaw36_QuotaApart.l0 k l who a o now (j : Int) tick most = some true := by
  induction d with
  | zero =>
    intro j k a o now hd hk hA hnow
    obtain ⟨k, rfl⟩ : ∃ m, k = m + 1 := ⟨k - 1, by omega⟩
    rw [headgatelaw36_QuotaApart.l0, if_neg (by omega), awake_eq k (by omega), Option.bind_some]
  | succ d ih =>
    intro j k a o now hd hk hA hnow
    obtain ⟨k, rfl⟩ : ∃ m, k = m + 4 := ⟨k - 4, by omega⟩
    have hjl : j < l.length := by omega
    have w3 := m3 l[j].f0
    have n3 := m65535 l[j].f1
    have d3 := m1023 l[j].f2
    have t5 : 0 ≤ now := by rcases hA with h | h; exact h.1.1.2.2.2.2.1; exact h.2.2.2
    have e1 : wrap64 ((j : Int) + 1) = ((j + 1 : Nat) : Int) := by rw [w64 (by omega) (by omega)]; omega
    rw [headgatelaw36_QuotaApart.l0, if_pos (by omega), if_pos (by omega), rd37_at l j hjl, w64 (x := now + Go.bits .and .i64 l[j].f2 1023) (by omega) (by omega)]
    have hA2 := apart_later hA (show now ≤ now + Go.bits .and .i64 l[j].f2 1023 by omega) (by omega)
    have hnow2 : now + Go.bits .and .i64 l[j].f2 1023 ≤ 1023 * ((j + 1 : Nat) : Int) := by omega
    generalize now + Go.bits .and .i64 l[j].f2 1023 = T at hA2 hnow2 ⊢
    generalize Go.bits .and .i64 l[j].f0 3 = w at w3 ⊢
    generalize Go.bits .and .i64 l[j].f1 65535 = n at n3 ⊢
    rcases hA2 with ⟨i1, i2, i3⟩ | ⟨i1, i2, i3, i4⟩
    · rw [take_i i1 w n _ (by omega), Option.bind_some]
      obtain ⟨p1, p2, p3⟩ := inv_nxt i1 w n w3 n3.1
      have hj2 : ∀ b : Bool, (b = true ↔ ((takeV tick most a w n T).2.2 = 0 ∨ (takeV tick most a w n T).2.2 = 10)) → headgatelaw36_QuotaApart.j2 (k + 3) l who a o T (j : Int) w n (takeV tick most a w n T).1 (takeV tick most a w n T).2.1 (takeV tick most a w n T).2.2 b tick most = some true := by
        intro b hb
        have e2 : headgatelaw36_QuotaApart.j2 (k + 3) l who a o T (j : Int) w n (takeV tick most a w n T).1 (takeV tick most a w n T).2.1 (takeV tick most a w n T).2.2 b tick most = headgatelaw36_QuotaApart.j3 (k + 2) l who (nxt a (takeV tick most a w n T)) o T (j : Int) w n (takeV tick most a w n T).2.1 (takeV tick most a w n T).2.2 tick most := by
          rw [headgatelaw36_QuotaApart.j2]
          unfold nxt
          by_cases c : b = true
          · rw [if_pos c, if_pos (hb.1 c)]
          · rw [if_neg c, if_neg (fun h => c (hb.2 h))]
        rw [e2, headgatelaw36_QuotaApart.j3]
        by_cases c : w = who
        · subst c
          obtain ⟨q1, q2, q3⟩ := inv_nxt i2 w n w3 n3.1
          obtain ⟨r1, r2⟩ := p3 o i2 i3
          rw [if_pos rfl, take_i i2 w n _ (by omega), Option.bind_some]
          have hj4 : ∀ b : Bool, (b = true ↔ ((takeV tick most o w n T).2.2 = 0 ∨ (takeV tick most o w n T).2.2 = 10)) → headgatelaw36_QuotaApart.j4 (k + 1) l w (nxt a (takeV tick most a w n T)) o T (j : Int) (takeV tick most a w n T).2.1 (takeV tick most a w n T).2.2 (takeV tick most o w n T).1 (takeV tick most o w n T).2.1 (takeV tick most o w n T).2.2 b tick most = some true := by
            intro b hb
            have hg := ih (j + 1) k (nxt a (takeV tick most a w n T)) (nxt o (takeV tick most o w n T)) T (by omega) (by omega) (.inl ⟨p1, q1, r2⟩) hnow2
            rw [headgatelaw36_QuotaApart.j4, r1, if_pos rfl, if_pos rfl, if_pos rfl, if_pos rfl, e1]
            unfold nxt at hg
            by_cases c : b = true
            · rw [if_pos (hb.1 c)] at hg
              rw [if_pos c]
              unfold nxt
              exact hg
            · rw [if_neg (fun h => c (hb.2 h))] at hg
              rw [if_neg c]
              unfold nxt
              exact hg
          by_cases c0 : (takeV tick most o w n T).2.2 = 0
          · rw [if_pos c0]
            exact hj4 true ⟨fun _ => .inl c0, fun _ => rfl⟩
          · rw [if_neg c0]
            exact hj4 _ ⟨fun h => .inr (beq_iff_eq.1 h), fun h => beq_iff_eq.2 (h.resolve_left c0)⟩
        · rw [if_neg c, e1]
          exact ih (j + 1) (k + 1) _ o T (by omega) (by omega) (.inl ⟨p1, i2, fun t ht => by rw [p2 who (fun e => c e.symm) t]; exact i3 t ht⟩) hnow2
      by_cases c0 : (takeV tick most a w n T).2.2 = 0
      · rw [if_pos c0]
        exact hj2 true ⟨fun _ => .inl c0, fun _ => rfl⟩
      · rw [if_neg c0]
        exact hj2 _ ⟨fun h => .inr (beq_iff_eq.1 h), fun h => beq_iff_eq.2 (h.resolve_left c0)⟩
    · subst i2
      subst i3
      have ht : ∀ q : Nat, 10 ≤ q → quota_Take.f q tick most [] w n T = some ([], 0, 1) := fun q hq => by
        rw [take_eq _ _ _ _ _ _ (by simp) q (by simp; omega), takeV_no i1]
      have f1 : ¬ ((1 : Int) = 0) := by decide
      have f2 : ((1 : Int) == 10) = false := by decide
      rw [ht _ (by omega), Option.bind_some]
      dsimp only
      rw [if_neg f1, f2, headgatelaw36_QuotaApart.j2, if_neg (by decide), headgatelaw36_QuotaApart.j3]
      by_cases c : w = who
      · rw [if_pos c, ht _ (by omega), Option.bind_some]
        dsimp only
        rw [if_neg f1, f2, headgatelaw36_QuotaApart.j4, if_neg (by decide), if_pos rfl, if_pos rfl, e1]
        exact ih (j + 1) k [] [] T (by omega) (by omega) (.inr ⟨i1, rfl, rfl, i4⟩) hnow2
      · rw [if_neg c, e1]
        exact ih (j + 1) (k + 1) [] [] T (by omega) (by omega) (.inr ⟨i1, rfl, rfl, i4⟩) hnow2
theorem QuotaApart : headgatelaw36_QuotaApart.Pure := by
  intro tick most l who ht hm hl hw
  refine ⟨300 + 1, ?_⟩
  have key : ∀ m : List S37, m.length ≤ 40 → headgatelaw36_QuotaApart.j0 (300 + 1) m who tick most = some true := by
    intro m hm
    rw [headgatelaw36_QuotaApart.j0]
    refine apart_l0 tick most m hm _ m.length 0 300 [] [] 0 rfl (by omega) ?_ (by omega)
    by_cases c : OkR tick most
    · have i := inv_nil (tick := tick) (most := most) (now := 0) ⟨c.1, c.2.1, c.2.2.1, c.2.2.2, by omega, by omega⟩
      exact .inl ⟨i, i, fun _ _ => rfl⟩
    · exact .inr ⟨c, rfl, rfl, by omega⟩
  unfold headgatelaw36_QuotaApart.f
  by_cases c : (l.length : Int) > 40
  · rw [if_pos c, if_pos (by omega)]
    exact key _ (by rw [List.length_take]; omega)
  · rw [if_neg c]
    exact key l (by omega)
end Go.Proofs.Ytkelkigkoceljaa.Pure
