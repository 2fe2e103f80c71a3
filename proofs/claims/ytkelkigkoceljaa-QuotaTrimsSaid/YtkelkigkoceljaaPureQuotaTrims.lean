/- Any accounts are trimmed as the document says, and nobody is told otherwise by that. No condition. -/
import Derived.Test.YtkelkigkoceljaaPx2
import Derived.Test.YtkelkigkoceljaaPx3
import Derived.Test.YtkelkigkoceljaaPx4
import Derived.Test.YtkelkigkoceljaaPx5
import Derived.Test.YtkelkigkoceljaaPx6
import Derived.Test.YtkelkigkoceljaaPx7
import Derived.Test.YtkelkigkoceljaaPx8
import Derived.Test.YtkelkigkoceljaaPx9
import Derived.Test.YtkelkigkoceljaaPx11
import Derived.Test.YtkelkigkoceljaaPx16
import Derived.Test.YtkelkigkoceljaaPx17
import Derived.Test.YtkelkigkoceljaaPx18
set_option linter.unusedVariables false
set_option linter.unusedSimpArgs false
namespace Go.Proofs.Ytkelkigkoceljaa.Qt
open Go.RowKit Go.Proofs.Ytkelkigkoceljaa.P Go.Proofs.YtkelkigkoceljaaW.PrintWords Go.Proofs.YtkelkigkoceljaaW.PrintLast Go.Proofs.YtkelkigkoceljaaW.PrintMore
theorem w64 {x : Int} (h0 : -9223372036854775808 ≤ x) (h1 : x ≤ 9223372036854775807) : wrap64 x = x := by unfold wrap64; omega
theorem rd_at (s : List S49) (j : Nat) (h : j < s.length) : rd_T49 s (j : Int) = s[j] := by
  simp [rd_T49, List.getD_eq_getElem?_getD, List.getElem?_eq_getElem h]
def headB (tick most now : Int) (n : Nat) : Bool := decide (1 ≤ tick ∧ tick ≤ 1048576 ∧ 1 ≤ most ∧ most ≤ 1048576 ∧ 0 ≤ now ∧ now ≤ 1099511627776 ∧ n ≤ 64)
def oneB (most now : Int) (x : S49) : Bool := decide (0 ≤ x.f0 ∧ x.f0 ≤ 1099511627776 ∧ 0 ≤ x.f1 ∧ x.f1 ≤ most ∧ 0 ≤ x.f2 ∧ x.f2 ≤ now)
def upB (l : List S49) : Bool := decide (l.Pairwise fun a b => a.f0 < b.f0)
def rightB (tick most : Int) (l : List S49) (now : Int) : Bool := headB tick most now l.length && l.all (oneB most now) && upB l
theorem rightB_iff {tick most : Int} {l : List S49} {now : Int} : rightB tick most l now = true ↔ (1 ≤ tick ∧ tick ≤ 1048576 ∧ 1 ≤ most ∧ most ≤ 1048576 ∧ 0 ≤ now ∧ now ≤ 1099511627776 ∧ l.length ≤ 64) ∧ (∀ x ∈ l, 0 ≤ x.f0 ∧ x.f0 ≤ 1099511627776 ∧ 0 ≤ x.f1 ∧ x.f1 ≤ most ∧ 0 ≤ x.f2 ∧ x.f2 ≤ now) ∧ l.Pairwise fun a b => a.f0 < b.f0 := by
  unfold rightB headB oneB upB
  simp only [Bool.and_eq_true, decide_eq_true_eq, List.all_eq_true, and_assoc]
/-- Rows that rise from one to the next. -/
theorem pair_of {l : List S49} (h : ∀ j, (hj : j + 1 < l.length) → (l[j]'(by omega)).f0 < l[j + 1].f0) : l.Pairwise fun a b => a.f0 < b.f0 := by
  rw [List.pairwise_iff_getElem]
  intro i j hi hj hij
  obtain ⟨d, rfl⟩ : ∃ d, j = i + 1 + d := ⟨j - (i + 1), by omega⟩
  clear hij
  induction d with
  | zero => exact h i hj
  | succ d ih =>
    have h1 := ih (by omega)
    have h2 := h (i + 1 + d) hj
    exact Int.lt_trans h1 h2
theorem of_pair {l : List S49} (h : l.Pairwise fun a b => a.f0 < b.f0) (j : Nat) (hj : j + 1 < l.length) : (l[j]'(by omega)).f0 < l[j + 1].f0 := List.pairwise_iff_getElem.1 h j (j + 1) (by omega) hj (by omega)
/-- What one round asks of an element. -/
def G (most now : Int) (l : List S49) (j : Nat) (h : j < l.length) : Prop := (0 ≤ l[j].f0 ∧ l[j].f0 ≤ 1099511627776 ∧ 0 ≤ l[j].f1 ∧ l[j].f1 ≤ most ∧ 0 ≤ l[j].f2 ∧ l[j].f2 ≤ now) ∧ (0 < j → (l[j - 1]'(by omega)).f0 < l[j].f0)
theorem all_G {most now : Int} {l : List S49} : (∀ j, (h : j < l.length) → G most now l j h) ↔ (∀ x ∈ l, 0 ≤ x.f0 ∧ x.f0 ≤ 1099511627776 ∧ 0 ≤ x.f1 ∧ x.f1 ≤ most ∧ 0 ≤ x.f2 ∧ x.f2 ≤ now) ∧ l.Pairwise fun a b => a.f0 < b.f0 := by
  constructor
  · intro h
    refine ⟨fun x hx => ?_, pair_of fun j hj => by have := (h (j + 1) hj).2 (by omega); simpa using this⟩
    obtain ⟨j, hj, rfl⟩ := List.getElem_of_mem hx
    exact (h j hj).1
  · rintro ⟨h1, h2⟩ j hj
    refine ⟨h1 _ (List.getElem_mem hj), fun h0 => ?_⟩
    have := of_pair h2 (j - 1) (by omega)
    simpa [show j - 1 + 1 = j by omega] using this
theorem right_l0 (tick most now : Int) (l : List S49) (hl : l.length ≤ 9223372036854775807) (d : Nat) : ∀ (j k : Nat), l.length - j = d → j ≤ l.length → d < k →
    (∃ b, quota_right.l0 k l now true (j : Int) tick most = some b ∧ (b = true ↔ ∀ i, (h : i < l.length) → j ≤ i → G most now l i h)) ∧ quota_right.l0 k l now false (j : Int) tick most = some false := by
  induction d with
  | zero =>
    intro j k hd hj hk
    obtain ⟨k, rfl⟩ : ∃ m, k = m + 1 := ⟨k - 1, by omega⟩
    refine ⟨⟨true, ?_, by simp; intro i h1 h2; omega⟩, ?_⟩
    · rw [quota_right.l0, if_pos rfl, if_neg (by omega)]
    · rw [quota_right.l0, if_neg (by decide)]
  | succ d ih =>
    intro j k hd hj hk
    obtain ⟨k, rfl⟩ : ∃ m, k = m + 1 := ⟨k - 1, by omega⟩
    have hlt : j < l.length := by omega
    have e1 : wrap64 ((j : Int) + 1) = ((j + 1 : Nat) : Int) := by rw [w64 (by omega) (by omega)]; omega
    obtain ⟨⟨b, hb, hbi⟩, hf⟩ := ih (j + 1) k (by omega) (by omega) (by omega)
    refine ⟨?_, by rw [quota_right.l0, if_neg (by decide)]⟩
    rw [quota_right.l0, if_pos rfl, if_pos (by omega), if_pos (by omega), rd_at l j hlt, e1, hf]
    by_cases g : G most now l j hlt
    · obtain ⟨⟨g1, g2, g3, g4, g5, g6⟩, g7⟩ := g
      have hall : (∀ i, (h : i < l.length) → j ≤ i → G most now l i h) ↔ (∀ i, (h : i < l.length) → j + 1 ≤ i → G most now l i h) :=
        ⟨fun h i hi hij => h i hi (by omega), fun h i hi hij => by
          by_cases e : i = j
          · subst e; exact ⟨⟨g1, g2, g3, g4, g5, g6⟩, g7⟩
          · exact h i hi (by omega)⟩
      rw [if_pos g1, if_pos g2, if_pos g3, if_pos g4, if_pos g5, if_pos g6]
      by_cases h0 : j = 0
      · subst h0
        rw [if_pos (by omega)]
        exact ⟨b, hb, hbi.trans hall.symm⟩
      · have e2 : wrap64 ((j : Int) - 1) = ((j - 1 : Nat) : Int) := by rw [w64 (by omega) (by omega)]; omega
        rw [if_neg (by omega), e2, if_pos (by omega), if_pos (by omega), rd_at l (j - 1) (by omega), decide_eq_true (g7 (by omega))]
        exact ⟨b, hb, hbi.trans hall.symm⟩
    · refine ⟨false, ?_, ⟨fun h => by simp at h, fun h => (g (h j hlt (Nat.le_refl _))).elim⟩⟩
      by_cases g1 : l[j].f0 ≥ 0
      · rw [if_pos g1]
        by_cases g2 : l[j].f0 ≤ 1099511627776
        · rw [if_pos g2]
          by_cases g3 : l[j].f1 ≥ 0
          · rw [if_pos g3]
            by_cases g4 : l[j].f1 ≤ most
            · rw [if_pos g4]
              by_cases g5 : l[j].f2 ≥ 0
              · rw [if_pos g5]
                by_cases g6 : l[j].f2 ≤ now
                · rw [if_pos g6]
                  have h0 : j ≠ 0 := fun h0 => g ⟨⟨g1, g2, g3, g4, g5, g6⟩, fun h => by omega⟩
                  have e2 : wrap64 ((j : Int) - 1) = ((j - 1 : Nat) : Int) := by rw [w64 (by omega) (by omega)]; omega
                  rw [if_neg (by omega), e2, if_pos (by omega), if_pos (by omega), rd_at l (j - 1) (by omega), decide_eq_false (fun h => g ⟨⟨g1, g2, g3, g4, g5, g6⟩, fun _ => h⟩), hf]
                · rw [if_neg g6]
              · rw [if_neg g5]
            · rw [if_neg g4]
          · rw [if_neg g3]
        · rw [if_neg g2]
      · rw [if_neg g1]
theorem check_eq (tick most : Int) : quota_Check.f tick most = some (if 1 ≤ tick ∧ tick ≤ 1048576 ∧ 1 ≤ most ∧ most ≤ 1048576 then 0 else 1) := by
  unfold quota_Check.f
  by_cases h1 : tick < 1
  · rw [if_pos h1, if_neg (by omega)]
  · by_cases h2 : tick > 1048576
    · rw [if_neg h1, if_pos h2, if_neg (by omega)]
    · by_cases h3 : most < 1
      · rw [if_neg h1, if_neg h2, if_pos h3, if_neg (by omega)]
      · by_cases h4 : most > 1048576
        · rw [if_neg h1, if_neg h2, if_neg h3, if_pos h4, if_neg (by omega)]
        · rw [if_neg h1, if_neg h2, if_neg h3, if_neg h4, if_pos (by omega)]
theorem rmay_eq (tick most : Int) : headgateref36_May.f tick most = some (decide (1 ≤ tick ∧ tick ≤ 1048576 ∧ 1 ≤ most ∧ most ≤ 1048576)) := by
  unfold headgateref36_May.f
  by_cases h1 : tick ≥ 1
  · rw [if_pos h1]
    by_cases h2 : tick ≤ 1048576
    · rw [if_pos h2]
      by_cases h3 : most ≥ 1
      · rw [if_pos h3]; congr 1; rw [decide_eq_decide]; omega
      · rw [if_neg h3, decide_eq_false (by omega)]
    · rw [if_neg h2, decide_eq_false (by omega)]
  · rw [if_neg h1, decide_eq_false (by omega)]
theorem bool_ext {a b : Bool} (h : a = true ↔ b = true) : a = b := by cases a <;> cases b <;> simp_all
theorem right_eq (tick most : Int) (l : List S49) (now : Int) (hl : l.length ≤ 9223372036854775807) (k : Nat) (hk : l.length + 2 < k) : quota_right.f k tick most l now = some (rightB tick most l now) := by
  unfold quota_right.f
  rw [check_eq, Option.bind_some]
  obtain ⟨k, rfl⟩ : ∃ m, k = m + 1 := ⟨k - 1, by omega⟩
  obtain ⟨⟨b, hb, hbi⟩, hf⟩ := right_l0 tick most now l hl l.length 0 k (by omega) (by omega) (by omega)
  have hj : ∀ c, quota_right.j0 (k + 1) l now c tick most = quota_right.l0 k l now c ((0 : Nat) : Int) tick most := fun c => by rw [quota_right.j0]; rfl
  have hbi' : b = true ↔ ((∀ x ∈ l, 0 ≤ x.f0 ∧ x.f0 ≤ 1099511627776 ∧ 0 ≤ x.f1 ∧ x.f1 ≤ most ∧ 0 ≤ x.f2 ∧ x.f2 ≤ now) ∧ l.Pairwise fun a b => a.f0 < b.f0) := hbi.trans (Iff.trans ⟨fun h i hi => h i hi (by omega), fun h i hi _ => h i hi⟩ all_G)
  simp only [hj]
  by_cases h1 : 1 ≤ tick ∧ tick ≤ 1048576 ∧ 1 ≤ most ∧ most ≤ 1048576
  · rw [if_pos h1, if_pos rfl]
    by_cases h2 : now ≥ 0
    · rw [if_pos h2]
      by_cases h3 : now ≤ 1099511627776
      · rw [if_pos h3]
        by_cases h4 : (l.length : Int) ≤ 64
        · rw [decide_eq_true h4, hb]
          congr 1
          exact bool_ext (hbi'.trans (Iff.trans ⟨fun h => ⟨by omega, h⟩, fun h => h.2⟩ rightB_iff.symm))
        · rw [decide_eq_false h4, hf]
          congr 1
          exact bool_ext ⟨fun h => by simp at h, fun h => by have := (rightB_iff.1 h).1; omega⟩
      · rw [if_neg h3, hf]
        congr 1
        exact bool_ext ⟨fun h => by simp at h, fun h => by have := (rightB_iff.1 h).1; omega⟩
    · rw [if_neg h2, hf]
      congr 1
      exact bool_ext ⟨fun h => by simp at h, fun h => by have := (rightB_iff.1 h).1; omega⟩
  · rw [if_neg h1, if_neg (by decide), hf]
    congr 1
    exact bool_ext ⟨fun h => by simp at h, fun h => by have := (rightB_iff.1 h).1; omega⟩
/-- The reference's walk along the rows. -/
theorem rright_l0 (tick most now : Int) (l : List S49) (hl : l.length ≤ 9223372036854775807) (d : Nat) : ∀ (j k : Nat), l.length - j = d → j ≤ l.length → d < k → (∀ i, (h : i < l.length) → i < j → G most now l i h) →
    ∃ b, headgateref36_Right.l0 k l now (if h : 0 < j ∧ j ≤ l.length then (l[j - 1]'(by omega)).f0 else -1) (j : Int) tick most = some b ∧ (b = true ↔ ∀ i, (h : i < l.length) → G most now l i h) := by
  induction d with
  | zero =>
    intro j k hd hj hk hp
    obtain ⟨k, rfl⟩ : ∃ m, k = m + 1 := ⟨k - 1, by omega⟩
    exact ⟨true, by rw [headgateref36_Right.l0, if_neg (by omega)], by simp; exact fun i hi => hp i hi (by omega)⟩
  | succ d ih =>
    intro j k hd hj hk hp
    obtain ⟨k, rfl⟩ : ∃ m, k = m + 1 := ⟨k - 1, by omega⟩
    have hlt : j < l.length := by omega
    have e1 : wrap64 ((j : Int) + 1) = ((j + 1 : Nat) : Int) := by rw [w64 (by omega) (by omega)]; omega
    rw [headgateref36_Right.l0, if_pos (by omega), if_pos (by omega), rd_at l j hlt, e1]
    have hno : ¬ G most now l j hlt → ((false = true) ↔ ∀ i, (h : i < l.length) → G most now l i h) := fun g => ⟨fun h => by simp at h, fun h => (g (h j hlt)).elim⟩
    generalize hla : (if h : 0 < j ∧ j ≤ l.length then (l[j - 1]'(by omega)).f0 else -1) = la
    have hla1 : 0 < j → la = (l[j - 1]'(by omega)).f0 := fun h0 => by rw [← hla, dif_pos ⟨h0, by omega⟩]
    have hla0 : j = 0 → la = -1 := fun h0 => by rw [← hla, dif_neg (by omega)]
    by_cases g0 : l[j].f0 ≤ la
    · rw [if_pos g0]
      refine ⟨false, rfl, hno fun g => ?_⟩
      by_cases h0 : j = 0
      · have := hla0 h0; have := g.1.1; omega
      · have := hla1 (by omega); have := g.2 (by omega); omega
    · rw [if_neg g0]
      by_cases g2 : l[j].f0 > 1099511627776
      · rw [if_pos g2]; exact ⟨false, rfl, hno fun g => by have := g.1; omega⟩
      · rw [if_neg g2]
        by_cases g3 : l[j].f1 < 0
        · rw [if_pos g3]; exact ⟨false, rfl, hno fun g => by have := g.1; omega⟩
        · rw [if_neg g3]
          by_cases g4 : l[j].f1 > most
          · rw [if_pos g4]; exact ⟨false, rfl, hno fun g => by have := g.1; omega⟩
          · rw [if_neg g4]
            by_cases g5 : l[j].f2 < 0
            · rw [if_pos g5]; exact ⟨false, rfl, hno fun g => by have := g.1; omega⟩
            · rw [if_neg g5]
              by_cases g6 : l[j].f2 > now
              · rw [if_pos g6]; exact ⟨false, rfl, hno fun g => by have := g.1; omega⟩
              · rw [if_neg g6]
                have hG : G most now l j hlt := by
                  by_cases h0 : j = 0
                  · have := hla0 h0; exact ⟨by omega, fun h => by omega⟩
                  · have h1 := hla1 (by omega)
                    have h2 := (hp (j - 1) (by omega) (by omega)).1.1
                    exact ⟨by omega, fun h => by omega⟩
                have := ih (j + 1) k (by omega) (by omega) (by omega) (fun i hi hij => by
                  by_cases e : i = j
                  · subst e; exact hG
                  · exact hp i hi (by omega))
                rw [dif_pos ⟨by omega, by omega⟩] at this
                simpa using this
theorem rright_eq (tick most : Int) (l : List S49) (now : Int) (hl : l.length ≤ 9223372036854775807) (k : Nat) (hk : l.length + 2 < k) : headgateref36_Right.f k tick most l now = some (rightB tick most l now) := by
  unfold headgateref36_Right.f
  rw [rmay_eq, Option.bind_some]
  obtain ⟨k, rfl⟩ : ∃ m, k = m + 1 := ⟨k - 1, by omega⟩
  obtain ⟨b, hb, hbi⟩ := rright_l0 tick most now l hl l.length 0 k (by omega) (by omega) (by omega) (fun i h h2 => by omega)
  rw [dif_neg (by omega)] at hb
  have hjt : headgateref36_Right.j0 (k + 1) l now true tick most = some false := by rw [headgateref36_Right.j0, if_pos rfl]
  have hjf : headgateref36_Right.j0 (k + 1) l now false tick most = some b := by rw [headgateref36_Right.j0, if_neg (by decide)]; exact hb
  have hbi' := hbi.trans all_G
  have no : ¬ ((1 ≤ tick ∧ tick ≤ 1048576 ∧ 1 ≤ most ∧ most ≤ 1048576 ∧ 0 ≤ now ∧ now ≤ 1099511627776 ∧ l.length ≤ 64)) → some false = some (rightB tick most l now) := fun h => by
    congr 1
    exact bool_ext ⟨fun h => by simp at h, fun h2 => (h (rightB_iff.1 h2).1).elim⟩
  by_cases h1 : 1 ≤ tick ∧ tick ≤ 1048576 ∧ 1 ≤ most ∧ most ≤ 1048576
  · rw [decide_eq_true h1, if_pos rfl]
    by_cases h2 : now < 0
    · rw [if_pos h2, hjt]; exact no (by omega)
    · rw [if_neg h2]
      by_cases h3 : now > 1099511627776
      · rw [if_pos h3, hjt]; exact no (by omega)
      · rw [if_neg h3]
        by_cases h4 : (l.length : Int) > 64
        · rw [decide_eq_true h4, hjt]; exact no (by omega)
        · rw [decide_eq_false h4, hjf]
          congr 1
          exact bool_ext (hbi'.trans (Iff.trans ⟨fun h => ⟨by omega, h⟩, fun h => h.2⟩ rightB_iff.symm))
  · rw [decide_eq_false h1, if_neg (by decide), hjt]; exact no (by omega)
/-- What somebody has. -/
def hasV (tick most left since now : Int) : Int := if left + (now - since) * tick < most then left + (now - since) * tick else most
theorem mul_bd {a b A B : Int} (h0 : 0 ≤ a) (h1 : a ≤ A) (h2 : 0 ≤ b) (h3 : b ≤ B) : 0 ≤ a * b ∧ a * b ≤ A * B :=
  ⟨Int.mul_nonneg h0 h2, Int.mul_le_mul h1 h3 h2 (Int.le_trans h0 h1)⟩
theorem has_eq {tick most left since now : Int} (who : Int) (h1 : 1 ≤ tick) (h2 : tick ≤ 1048576) (h3 : 1 ≤ most) (h4 : most ≤ 1048576) (h5 : 0 ≤ left) (h6 : left ≤ most) (h7 : 0 ≤ since) (h8 : since ≤ now) (h9 : now ≤ 1099511627776) :
    quota_has.f tick most who left since now = some (hasV tick most left since now) := by
  unfold quota_has.f hasV
  rw [w64 (by omega) (by omega)]
  by_cases c : now - since < 1048576
  · have hm := mul_bd (show 0 ≤ now - since by omega) (show now - since ≤ 1048576 by omega) (show 0 ≤ tick by omega) h2
    rw [if_pos c, w64 (x := (now - since) * tick) (by omega) (by omega), w64 (by omega) (by omega)]
    rfl
  · have hm : now - since ≤ (now - since) * tick := by
      have := Int.mul_le_mul_of_nonneg_left h1 (show 0 ≤ now - since by omega)
      omega
    rw [if_neg c, if_neg (by omega)]
theorem rhas_l0 (tick most now who : Int) (h1 : 1 ≤ tick) (h2 : tick ≤ 1048576) (h4 : most ≤ 1048576) (h9 : now ≤ 1099511627776) (d : Nat) : ∀ (n t : Int) (k : Nat), 0 ≤ n → n ≤ 3000000 → 0 ≤ t → t ≤ now → (most - n).toNat ≤ d → d < k →
    headgateref36_Has.l0 k now n t tick most = some (if n + (now - t) * tick < most then n + (now - t) * tick else most) := by
  induction d with
  | zero =>
    intro n t k hn hn2 ht htn hd hk
    obtain ⟨k, rfl⟩ : ∃ m, k = m + 1 := ⟨k - 1, by omega⟩
    have hm := Int.mul_nonneg (show 0 ≤ now - t by omega) (show 0 ≤ tick by omega)
    rw [headgateref36_Has.l0]
    have hfin : (if n > most then (some most : Option Int) else some n) = some (if n + (now - t) * tick < most then n + (now - t) * tick else most) := by
      rw [if_neg (show ¬ n + (now - t) * tick < most by omega)]
      split
      · rfl
      · congr 1; omega
    split
    · rw [if_neg (by omega)]; exact hfin
    · exact hfin
  | succ d ih =>
    intro n t k hn hn2 ht htn hd hk
    obtain ⟨k, rfl⟩ : ∃ m, k = m + 1 := ⟨k - 1, by omega⟩
    have hm := Int.mul_nonneg (show 0 ≤ now - t by omega) (show 0 ≤ tick by omega)
    rw [headgateref36_Has.l0]
    by_cases c1 : t < now
    · rw [if_pos c1]
      by_cases c2 : n < most
      · rw [if_pos c2, w64 (x := n + tick) (by omega) (by omega), w64 (x := t + 1) (by omega) (by omega), ih (n + tick) (t + 1) k (by omega) (by omega) (by omega) (by omega) (by omega) (by omega)]
        have e : n + tick + (now - (t + 1)) * tick = n + (now - t) * tick := by
          rw [show now - t = (now - (t + 1)) + 1 by omega, Int.add_mul, Int.one_mul]; omega
        rw [e]
      · rw [if_neg c2, if_neg (show ¬ n + (now - t) * tick < most by omega)]
        split
        · rfl
        · congr 1; omega
    · obtain rfl : t = now := by omega
      rw [if_neg c1, Int.sub_self, Int.zero_mul, Int.add_zero]
      split
      · rw [if_neg (by omega)]
      · split
        · rfl
        · congr 1; omega
theorem rhas_eq {tick most left since now : Int} (who : Int) (h1 : 1 ≤ tick) (h2 : tick ≤ 1048576) (h3 : 1 ≤ most) (h4 : most ≤ 1048576) (h5 : 0 ≤ left) (h6 : left ≤ most) (h7 : 0 ≤ since) (h8 : since ≤ now) (h9 : now ≤ 1099511627776) (k : Nat) (hk : 1048576 < k) :
    headgateref36_Has.f k tick most who left since now = some (hasV tick most left since now) := by
  unfold headgateref36_Has.f hasV
  exact rhas_l0 tick most now who h1 h2 h4 h9 1048576 left since k h5 (by omega) h7 h8 (by omega) hk
theorem hasV_bd {tick most left since now : Int} (h1 : 1 ≤ tick) (h3 : 1 ≤ most) (h5 : 0 ≤ left) (h8 : since ≤ now) : 0 ≤ hasV tick most left since now ∧ hasV tick most left since now ≤ most := by
  have hm := Int.mul_nonneg (show 0 ≤ now - since by omega) (show 0 ≤ tick by omega)
  unfold hasV
  split <;> omega
/-- The answer. -/
def finV (tick most : Int) (l : List S49) (i : Nat) (n now : Int) : List S49 × Int × Int :=
  if hasV tick most (rd_T49 l i).f1 (rd_T49 l i).f2 now < n then (l, (n - hasV tick most (rd_T49 l i).f1 (rd_T49 l i).f2 now + tick - 1) / tick, 10)
  else (l.set i ⟨(rd_T49 l i).f0, hasV tick most (rd_T49 l i).f1 (rd_T49 l i).f2 now - n, now⟩, 0, 0)
def insV (l : List S49) (i : Nat) (x : S49) : List S49 := l.take i ++ x :: l.drop i
def takeV (tick most : Int) (l : List S49) (who n now : Int) : List S49 × Int × Int :=
  if rightB tick most l now = true ∧ 0 ≤ who ∧ who ≤ 1099511627776 ∧ 0 ≤ n then
    if n > most then ([], 0, 6)
    else if lt049 l who < l.length ∧ (rd_T49 l (lt049 l who : Int)).f0 = who then finV tick most l (lt049 l who) n now
    else if l.length = 64 then ([], 0, 5)
    else finV tick most (insV l (lt049 l who) ⟨who, most, now⟩) (lt049 l who) n now
  else ([], 0, 1)
theorem lt0_le (l : List S49) (t : Int) : lt049 l t ≤ l.length := lt0_le49 l t
theorem insV_len (l : List S49) (i : Nat) (x : S49) (hi : i ≤ l.length) : (insV l i x).length = l.length + 1 := by
  unfold insV; rw [List.length_append, List.length_cons, List.length_take, List.length_drop]; omega
theorem insV_at (l : List S49) (i : Nat) (x : S49) (hi : i ≤ l.length) : rd_T49 (insV l i x) (i : Int) = x := by
  rw [rd_at _ _ (by rw [insV_len l i x hi]; omega)]
  unfold insV
  rw [List.getElem_append_right (by rw [List.length_take]; omega)]
  simp [List.length_take, Nat.min_eq_left hi]
/-- The rows' elements are bounded. -/
theorem right_at {tick most : Int} {l : List S49} {now : Int} (h : rightB tick most l now = true) (i : Nat) (hi : i < l.length) : 0 ≤ (rd_T49 l i).f0 ∧ (rd_T49 l i).f0 ≤ 1099511627776 ∧ 0 ≤ (rd_T49 l i).f1 ∧ (rd_T49 l i).f1 ≤ most ∧ 0 ≤ (rd_T49 l i).f2 ∧ (rd_T49 l i).f2 ≤ now := by
  rw [rd_at l i hi]
  exact (rightB_iff.1 h).2.1 _ (List.getElem_mem hi)
theorem body_eq {tick most : Int} {l : List S49} {i : Nat} {n now : Int} (h1 : 1 ≤ tick) (h2 : tick ≤ 1048576) (h3 : 1 ≤ most) (h4 : most ≤ 1048576) (h9 : now ≤ 1099511627776) (h : 0 ≤ (rd_T49 l i).f1 ∧ (rd_T49 l i).f1 ≤ most ∧ 0 ≤ (rd_T49 l i).f2 ∧ (rd_T49 l i).f2 ≤ now) :
    quota_Take.body tick most l i n now = some (finV tick most l i n now) := by
  unfold quota_Take.body finV
  obtain ⟨q1, q2, q3, q4⟩ := h
  have hb := hasV_bd (tick := tick) (most := most) (left := (rd_T49 l i).f1) (since := (rd_T49 l i).f2) (now := now) h1 h3 q1 q4
  rw [has_eq _ h1 h2 h3 h4 q1 q2 q3 q4 h9, Option.bind_some, if_pos (by omega)]
  split <;> rfl
theorem take_eq (tick most : Int) (l : List S49) (who n now : Int) (hl : l.length ≤ 9223372036854775807) (k : Nat) (hk : l.length + 2 < k) : quota_Take.f k tick most l who n now = some (takeV tick most l who n now) := by
  unfold quota_Take.f takeV
  rw [right_eq tick most l now hl k hk, Option.bind_some]
  by_cases hr : rightB tick most l now = true ∧ 0 ≤ who ∧ who ≤ 1099511627776 ∧ 0 ≤ n
  · rw [if_pos hr, if_pos hr]
    obtain ⟨⟨q1, q2, q3, q4, q5, q6, q7⟩, q8, q9⟩ := rightB_iff.1 hr.1
    split
    · rfl
    · rename_i hn
      rw [if_pos (by
        simp only [quota_Take.okB, Bool.and_eq_true, decide_eq_true_eq, List.all_eq_true]
        exact ⟨⟨⟨⟨⟨⟨⟨⟨q1, q2⟩, q3⟩, q4⟩, q5⟩, q6⟩, q7⟩, fun x hx => ⟨(q8 x hx).1, (q8 x hx).2.1⟩⟩, q9⟩)]
      split
      · rename_i hf
        have := right_at hr.1 _ hf.1
        exact body_eq q1 q2 q3 q4 q6 (by omega)
      · split
        · rfl
        · have hle := lt0_le l who
          have e := insV_at l (lt049 l who) ⟨who, most, now⟩ hle
          exact body_eq (l := insV l (lt049 l who) ⟨who, most, now⟩) q1 q2 q3 q4 q6 (by rw [e]; dsimp only; omega)
  · rw [if_neg hr, if_neg hr]
theorem rsame_l0 (l : List S49) (hl : l.length ≤ 9223372036854775807) (d : Nat) : ∀ (j k : Nat), l.length - j = d → j ≤ l.length → d < k → headgateref36_Same.l0 k l l (j : Int) = some true := by
  induction d with
  | zero =>
    intro j k hd hj hk
    obtain ⟨k, rfl⟩ : ∃ m, k = m + 1 := ⟨k - 1, by omega⟩
    rw [headgateref36_Same.l0, if_neg (by omega)]
  | succ d ih =>
    intro j k hd hj hk
    obtain ⟨k, rfl⟩ : ∃ m, k = m + 1 := ⟨k - 1, by omega⟩
    rw [headgateref36_Same.l0, if_pos (by omega), if_pos (by omega), if_pos (by omega), if_neg (by simp), w64 (by omega) (by omega), show (j : Int) + 1 = ((j + 1 : Nat) : Int) by omega]
    exact ih (j + 1) k (by omega) (by omega) (by omega)
theorem rsame_self (l : List S49) (hl : l.length ≤ 9223372036854775807) (k : Nat) (hk : l.length < k) : headgateref36_Same.f k l l = some true := by
  unfold headgateref36_Same.f
  rw [if_pos rfl]
  exact rsame_l0 l hl l.length 0 k (by omega) (by omega) hk
theorem awake_eq (k : Nat) (hk : 10 < k) : headgatelaw36_awake.f k = some true := by
  unfold headgatelaw36_awake.f
  have e1 : takeV 2 5 [] 1 4 0 = ([⟨1, 1, 0⟩], 0, 0) := by rfl
  have e2 : takeV 2 5 [⟨1, 1, 0⟩] 1 4 0 = ([⟨1, 1, 0⟩], 2, 10) := by rfl
  have e3 : takeV 2 5 [⟨1, 1, 0⟩] 1 4 2 = ([⟨1, 1, 2⟩], 0, 0) := by rfl
  rw [take_eq _ _ _ _ _ _ (by simp) k (by simp; omega), e1, Option.bind_some, take_eq _ _ _ _ _ _ (by simp) k (by simp; omega), e2, Option.bind_some, take_eq _ _ _ _ _ _ (by simp) k (by simp; omega), e3, Option.bind_some]
  rfl
end Go.Proofs.Ytkelkigkoceljaa.Qt
set_option linter.unusedVariables false
set_option linter.unusedSimpArgs false
namespace Go.Proofs.Ytkelkigkoceljaa.Qb
open Go.RowKit Go.Proofs.Ytkelkigkoceljaa.Qt Go.Proofs.Ytkelkigkoceljaa.P Go.Proofs.YtkelkigkoceljaaW.PrintWords Go.Proofs.YtkelkigkoceljaaW.PrintLast Go.Proofs.YtkelkigkoceljaaW.PrintMore
/-- The account of somebody. -/
def look (l : List S49) (q : Int) : Option S49 := l.find? fun x => x.f0 == q
theorem look_some {l : List S49} {q : Int} {x : S49} (h : look l q = some x) : x ∈ l ∧ x.f0 = q := ⟨List.mem_of_find?_eq_some h, by simpa using List.find?_some h⟩
theorem find_is : ∀ (l : List S49) (p : Int), (l.Pairwise fun a b => a.f0 < b.f0) → look l p = if lt049 l p < l.length ∧ (rd_T49 l (lt049 l p : Int)).f0 = p then some (rd_T49 l (lt049 l p : Int)) else none
  | [], p, h => rfl
  | x :: l, p, h => by
    obtain ⟨h1, h2⟩ := List.pairwise_cons.1 h
    have hc : lt049 (x :: l) p = if x.f0 < p then lt049 l p + 1 else 0 := by
      unfold lt049
      rw [List.takeWhile_cons]
      by_cases c : x.f0 < p
      · rw [if_pos (by simpa using c), if_pos c]; rfl
      · rw [if_neg (by simpa using c), if_neg c]; rfl
    have r0 : rd_T49 (x :: l) ((0 : Nat) : Int) = x := by simp [rd_T49]
    have r1 : ∀ n : Nat, rd_T49 (x :: l) ((n + 1 : Nat) : Int) = rd_T49 l (n : Int) := fun n => by simp [rd_T49]
    have ih := find_is l p h2
    unfold look at ih ⊢
    rw [hc, List.find?_cons]
    by_cases c : x.f0 < p
    · rw [if_pos c, beq_eq_false_iff_ne.2 (by omega), r1]
      have e : (lt049 l p + 1 < (x :: l).length ∧ (rd_T49 l (lt049 l p : Int)).f0 = p) = (lt049 l p < l.length ∧ (rd_T49 l (lt049 l p : Int)).f0 = p) := by simp
      simp only [e]
      exact ih
    · rw [if_neg c, r0]
      by_cases c2 : x.f0 = p
      · rw [beq_iff_eq.2 c2, if_pos ⟨by simp, c2⟩]
      · rw [beq_eq_false_iff_ne.2 c2, if_neg (fun h => c2 h.2)]
        simp only
        rw [List.find?_eq_none]
        intro y hy e
        have := h1 y hy
        have := beq_iff_eq.1 e
        omega
/-- What somebody has at a time. -/
def av (tick most : Int) (l : List S49) (q t : Int) : Int := match look l q with
  | some x => hasV tick most x.f1 x.f2 t
  | none => most
theorem av_some {tick most : Int} {l : List S49} {q : Int} {x : S49} (h : look l q = some x) (t : Int) : av tick most l q t = hasV tick most x.f1 x.f2 t := by unfold av; rw [h]
theorem av_none {tick most : Int} {l : List S49} {q : Int} (h : look l q = none) (t : Int) : av tick most l q t = most := by unfold av; rw [h]
/-- What a request comes to, by what one has. -/
def ansV (tick most left n : Int) : Int × Int := if n > most then (0, 6) else if left < n then ((n - left + tick - 1) / tick, 10) else (0, 0)
theorem fresh_has {tick most now t : Int} (h1 : 1 ≤ tick) (ht : now ≤ t) : hasV tick most most now t = most := by
  unfold hasV
  have := Int.mul_nonneg (show 0 ≤ t - now by omega) (show 0 ≤ tick by omega)
  rw [if_neg (by omega)]
end Go.Proofs.Ytkelkigkoceljaa.Qb
set_option linter.unusedVariables false
namespace Go.Proofs.Ytkelkigkoceljaa.Pure
open Go.RowKit Go.Proofs.Ytkelkigkoceljaa.Qt Go.Proofs.Ytkelkigkoceljaa.Qb Go.Proofs.Ytkelkigkoceljaa.P Go.Proofs.YtkelkigkoceljaaW.PrintWords Go.Proofs.YtkelkigkoceljaaW.PrintLast Go.Proofs.YtkelkigkoceljaaW.PrintMore
/-- Those that have not all. -/
def trim (tick most now : Int) (l : List S49) : List S49 := l.filter fun x => decide (hasV tick most x.f1 x.f2 now < most)
theorem trim_is {tick most now : Int} {l : List S49} (h : rightB tick most l now = true) : l.filter (fun x => !(quota_Trim.hasD tick most x now == most)) = trim tick most now l := by
  obtain ⟨⟨q1, q2, q3, q4, q5, q6, q7⟩, q8, q9⟩ := rightB_iff.1 h
  unfold trim
  refine List.filter_congr fun x hx => ?_
  have hb := q8 x hx
  have e := has_eq (tick := tick) (most := most) (left := x.f1) (since := x.f2) (now := now) x.f0 q1 q2 q3 q4 hb.2.2.1 hb.2.2.2.1 hb.2.2.2.2.1 hb.2.2.2.2.2 q6
  have hv := hasV_bd (tick := tick) (most := most) (left := x.f1) (since := x.f2) (now := now) q1 q3 hb.2.2.1 hb.2.2.2.2.2
  unfold quota_Trim.hasD
  rw [e, Option.getD_some]
  by_cases c : hasV tick most x.f1 x.f2 now = most
  · rw [beq_iff_eq.2 c, decide_eq_false (by omega)]; rfl
  · rw [beq_eq_false_iff_ne.2 c, decide_eq_true (by omega)]; rfl
theorem rhas_mem {tick most now : Int} {l : List S49} (h : rightB tick most l now = true) {x : S49} (hx : x ∈ l) {k : Nat} (hk : 1048576 < k) : headgateref36_Has.f k tick most x.f0 x.f1 x.f2 now = some (hasV tick most x.f1 x.f2 now) := by
  obtain ⟨⟨q1, q2, q3, q4, q5, q6, q7⟩, q8, q9⟩ := rightB_iff.1 h
  have hb := q8 x hx
  exact rhas_eq x.f0 q1 q2 q3 q4 hb.2.2.1 hb.2.2.2.1 hb.2.2.2.2.1 hb.2.2.2.2.2 q6 k hk
theorem rtrim_l0 (tick most now : Int) (l : List S49) (h : rightB tick most l now = true) (hl : l.length ≤ 64) (N : Nat) (hN : 1048576 < N) (d : Nat) : ∀ (j k : Nat) (acc : List S49), l.length - j = d → j ≤ l.length → acc.length ≤ j → d + N < k →
    headgateref36_Trim.l0 k l now acc (j : Int) tick most = some (acc ++ trim tick most now (l.drop j), 0) := by
  have HH := Aside0.mk (fun (x : S49) (hx : x ∈ l) (k : Nat) (hk : N ≤ k) => rhas_mem h hx (Nat.lt_of_lt_of_le hN hk))
  clear hN
  induction d with
  | zero =>
    intro j k acc hd hj ha hk
    obtain ⟨k, rfl⟩ : ∃ m, k = m + 1 := ⟨k - 1, by omega⟩
    rw [headgateref36_Trim.l0, if_neg (by omega), List.drop_eq_nil_of_le (by omega)]
    simp [trim]
  | succ d ih =>
    intro j k acc hd hj ha hk
    obtain ⟨k, rfl⟩ : ∃ m, k = m + 1 := ⟨k - 1, by omega⟩
    have hlt : j < l.length := by omega
    have a1 : l.length - (j + 1) = d := by omega
    have a2 : j + 1 ≤ l.length := by omega
    have a3 : d + N < k := by omega
    have a4 : N ≤ k := by omega
    have a5 : acc.length < 5864062014805 := by omega
    have e1 : wrap64 ((j : Int) + 1) = ((j + 1 : Nat) : Int) := by rw [w64 (by omega) (by omega)]; omega
    rw [headgateref36_Trim.l0, if_pos (Int.ofNat_lt.2 hlt), if_pos (Int.natCast_nonneg j), rd_at l j hlt, HH.out _ (List.getElem_mem hlt) k a4, Option.bind_some, e1, List.drop_eq_getElem_cons hlt]
    unfold trim
    rw [List.filter_cons]
    by_cases c : hasV tick most l[j].f1 l[j].f2 now < most
    · rw [if_pos c, if_pos a5, ih (j + 1) k _ a1 a2 (by rw [List.length_append, List.length_singleton]; omega) a3, if_pos (decide_eq_true c), List.append_assoc]
      rfl
    · rw [if_neg c, ih (j + 1) k _ a1 a2 (by omega) a3, if_neg (by simpa using c)]
      rfl
theorem trim_right {tick most now : Int} {l : List S49} (h : rightB tick most l now = true) : rightB tick most (trim tick most now l) now = true := by
  obtain ⟨⟨q1, q2, q3, q4, q5, q6, q7⟩, q8, q9⟩ := rightB_iff.1 h
  have hl : (trim tick most now l).length ≤ l.length := List.length_filter_le _ _
  exact rightB_iff.2 ⟨⟨q1, q2, q3, q4, q5, q6, by omega⟩, fun x hx => q8 x ((List.mem_filter.1 hx).1), q9.filter _⟩
theorem look_filter (p : S49 → Bool) (q : Int) : ∀ (l : List S49), (l.Pairwise fun a b => a.f0 < b.f0) → Qb.look (l.filter p) q = (Qb.look l q).bind fun x => if p x = true then some x else none
  | [], _ => rfl
  | x :: l, h => by
    obtain ⟨h1, h2⟩ := List.pairwise_cons.1 h
    have ih := look_filter p q l h2
    by_cases c : x.f0 = q
    · have e : Qb.look (x :: l) q = some x := by unfold Qb.look; rw [List.find?_cons, beq_iff_eq.2 c]
      rw [e, Option.bind_some, List.filter_cons]
      by_cases cp : p x = true
      · rw [if_pos cp, if_pos cp]
        unfold Qb.look
        rw [List.find?_cons, beq_iff_eq.2 c]
      · rw [if_neg cp, if_neg cp, ih]
        have hn : Qb.look l q = none := by
          unfold Qb.look
          rw [List.find?_eq_none]
          intro y hy hq
          have := h1 y hy
          have := beq_iff_eq.1 hq
          omega
        rw [hn]; rfl
    · have e : Qb.look (x :: l) q = Qb.look l q := by unfold Qb.look; rw [List.find?_cons, beq_eq_false_iff_ne.2 c]
      rw [e, ← ih, List.filter_cons]
      by_cases cp : p x = true
      · rw [if_pos cp]
        unfold Qb.look
        rw [List.find?_cons, beq_eq_false_iff_ne.2 c]
      · rw [if_neg cp]
theorem ans_is {tick most now : Int} {l : List S49} (h : rightB tick most l now = true) (who n : Int) (hw : 0 ≤ who ∧ who ≤ 1099511627776) (hn : 0 ≤ n) :
    (takeV tick most l who n now).2 = if n > most then (0, 6) else if Qb.look l who = none ∧ l.length = 64 then (0, 5) else ansV tick most (av tick most l who now) n := by
  obtain ⟨⟨q1, q2, q3, q4, q5, q6, q7⟩, q8, q9⟩ := rightB_iff.1 h
  have hfind := find_is l who q9
  unfold takeV
  rw [if_pos ⟨h, hw.1, hw.2, hn⟩]
  by_cases c1 : n > most
  · rw [if_pos c1, if_pos c1]
  · rw [if_neg c1, if_neg c1]
    by_cases c2 : lt049 l who < l.length ∧ (rd_T49 l (lt049 l who : Int)).f0 = who
    · rw [if_pos c2] at hfind ⊢
      rw [if_neg (fun hh => by rw [hfind] at hh; cases hh.1), av_some hfind]
      unfold finV ansV
      rw [if_neg c1]
      split <;> rfl
    · rw [if_neg c2] at hfind ⊢
      by_cases c3 : l.length = 64
      · rw [if_pos c3, if_pos ⟨hfind, c3⟩]
      · have hle := lt0_le l who
        have hat := insV_at l (lt049 l who) ⟨who, most, now⟩ hle
        rw [if_neg c3, if_neg (fun hh => c3 hh.2), av_none hfind]
        unfold finV ansV
        rw [hat, fresh_has q1 (Int.le_refl now), if_neg c1, if_neg c1, if_neg c1]
theorem av_trim {tick most now : Int} {l : List S49} (h : rightB tick most l now = true) (who : Int) : av tick most (trim tick most now l) who now = av tick most l who now := by
  obtain ⟨⟨q1, q2, q3, q4, q5, q6, q7⟩, q8, q9⟩ := rightB_iff.1 h
  have hf : Qb.look (trim tick most now l) who = _ := look_filter (fun x => decide (hasV tick most x.f1 x.f2 now < most)) who l q9
  cases hl : Qb.look l who with
  | none =>
    rw [hl] at hf
    rw [av_none hl, av_none hf]
  | some x =>
    rw [hl, Option.bind_some] at hf
    have hx := q8 x (look_some hl).1
    have hv := hasV_bd (tick := tick) (most := most) (left := x.f1) (since := x.f2) (now := now) q1 q3 hx.2.2.1 hx.2.2.2.2.2
    by_cases c : hasV tick most x.f1 x.f2 now < most
    · rw [if_pos (decide_eq_true c)] at hf
      rw [av_some hl, av_some hf]
    · rw [if_neg (by simpa using c)] at hf
      rw [av_some hl, av_none hf]
      omega
theorem told {tick most now : Int} {l : List S49} (h : rightB tick most l now = true) (who n : Int) :
    (takeV tick most l who n now).2.1 = (takeV tick most (trim tick most now l) who n now).2.1 ∧ ((takeV tick most l who n now).2.2 = (takeV tick most (trim tick most now l) who n now).2.2 ∨ (takeV tick most l who n now).2.2 = 5) := by
  have ht := trim_right h
  by_cases ha : 0 ≤ who ∧ who ≤ 1099511627776 ∧ 0 ≤ n
  · rw [ans_is h who n ⟨ha.1, ha.2.1⟩ ha.2.2, ans_is ht who n ⟨ha.1, ha.2.1⟩ ha.2.2, av_trim h]
    obtain ⟨⟨q1, q2, q3, q4, q5, q6, q7⟩, q8, q9⟩ := rightB_iff.1 h
    have hf : Qb.look (trim tick most now l) who = _ := look_filter (fun x => decide (hasV tick most x.f1 x.f2 now < most)) who l q9
    have hle : (trim tick most now l).length ≤ l.length := List.length_filter_le _ _
    by_cases c1 : n > most
    · rw [if_pos c1, if_pos c1]
      exact ⟨rfl, .inl rfl⟩
    · rw [if_neg c1, if_neg c1]
      by_cases c2 : Qb.look l who = none ∧ l.length = 64
      · rw [if_pos c2]
        have hn : Qb.look (trim tick most now l) who = none := by
          rw [c2.1] at hf; exact hf
        by_cases c3 : (trim tick most now l).length = 64
        · rw [if_pos ⟨hn, c3⟩]
          exact ⟨rfl, .inl rfl⟩
        · rw [if_neg (fun hh => c3 hh.2), av_none c2.1]
          unfold ansV
          rw [if_neg c1, if_neg (by omega)]
          exact ⟨rfl, .inr rfl⟩
      · rw [if_neg c2, if_neg ?_]
        · exact ⟨rfl, .inl rfl⟩
        · rintro ⟨h1, h2⟩
          have h64 : l.length = 64 := by omega
          have he : trim tick most now l = l := List.Sublist.eq_of_length (List.filter_sublist) (by show (trim tick most now l).length = l.length; omega)
          rw [he] at h1
          exact c2 ⟨h1, h64⟩
  · have e1 : takeV tick most l who n now = ([], 0, 1) := if_neg (fun hh => ha hh.2)
    have e2 : takeV tick most (trim tick most now l) who n now = ([], 0, 1) := if_neg (fun hh => ha hh.2)
    rw [e1, e2]
    exact ⟨rfl, .inl rfl⟩
theorem QuotaTrims : headgatelaw36_QuotaTrims.Pure := by
  intro tick most l who n now h1 h2 hl h3 h4 h5
  refine ⟨l.length + 1048900, ?_⟩
  have hl1 := hl.1
  unfold headgatelaw36_QuotaTrims.f
  by_cases c : (l.length : Int) > 80
  · rw [if_pos c, awake_eq _ (by omega), Option.bind_some]
  · rw [if_neg c]
    unfold quota_Trim.f headgateref36_Trim.f
    rw [right_eq tick most l now hl1 _ (by omega), Option.bind_some, rright_eq tick most l now hl1 _ (by omega), Option.bind_some]
    by_cases hr : rightB tick most l now = true
    · have hlen := List.length_filter_le (fun x => decide (hasV tick most x.f1 x.f2 now < most)) l
      have h64 := (rightB_iff.1 hr).1.2.2.2.2.2.2
      have h0 := rtrim_l0 tick most now l hr (by omega) 1048800 (by omega) l.length 0 (l.length + 1048900) [] (by omega) (by omega) (by simp) (by omega)
      rw [List.nil_append, List.drop_zero, show ((0 : Nat) : Int) = 0 from rfl] at h0
      obtain ⟨t1, t2⟩ := told hr who n
      have ht : (trim tick most now l).length ≤ l.length := hlen
      have hk : l.length + 1048900 = (l.length + 1048899) + 1 := rfl
      rw [if_pos hr, if_pos hr, if_pos (by omega), trim_is hr, Option.bind_some, h0, Option.bind_some]
      dsimp only
      rw [rsame_self _ (by omega) _ (by omega), Option.bind_some, if_pos rfl]
      rw [hk, headgatelaw36_QuotaTrims.j0, if_neg (by decide), if_pos rfl, take_eq _ _ _ _ _ _ hl1 _ (by omega), Option.bind_some, take_eq _ _ _ _ _ _ (by omega) _ (by omega), Option.bind_some, if_pos t1]
      rcases t2 with t2 | t2
      · rw [if_pos t2, awake_eq _ (by omega), Option.bind_some]
      · split
        · rw [awake_eq _ (by omega), Option.bind_some]
        · rw [awake_eq _ (by omega), Option.bind_some]
    · have hk : l.length + 1048900 = (l.length + 1048899) + 1 := rfl
      rw [if_neg hr, if_neg hr, Option.bind_some, Option.bind_some, rsame_self _ (by simp) _ (by simp), Option.bind_some, if_pos rfl]
      dsimp only
      rw [hk, headgatelaw36_QuotaTrims.j0, if_neg (by decide), if_neg (by decide), awake_eq _ (by omega), Option.bind_some]
end Go.Proofs.Ytkelkigkoceljaa.Pure
