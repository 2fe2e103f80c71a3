/- Accounts: what quota.Take and headgateref36.Take come to, in plain words, and that both do. -/
import Derived.Test.YtkelkigkoceljaaPx5
import Derived.Test.YtkelkigkoceljaaPx6
import Derived.Test.YtkelkigkoceljaaPx10
import Derived.Test.YtkelkigkoceljaaPx11
set_option linter.unusedVariables false
set_option linter.unusedSimpArgs false
namespace Go.Proofs.Ytkelkigkoceljaa.Qt
open Go.RowKit Go.Proofs.Ytkelkigkoceljaa.P Go.Proofs.YtkelkigkoceljaaW.PrintWords Go.Proofs.YtkelkigkoceljaaW.PrintLast Go.Proofs.YtkelkigkoceljaaW.PrintMore
theorem w64 {x : Int} (h0 : -9223372036854775808 ≤ x) (h1 : x ≤ 9223372036854775807) : wrap64 x = x := by unfold wrap64; omega
theorem i64_of {n : Int} (h : (Lit.int .i64 n).wf = true) : -9223372036854775808 ≤ n ∧ n ≤ 9223372036854775807 := by
  simp [Lit.wf, IntKind.min, IntKind.max, IntKind.signed, IntKind.bits] at h
  omega
theorem rd_at (s : List S49) (j : Nat) (h : j < s.length) : rd_T49 s (j : Int) = s[j] := by
  simp [rd_T49, List.getD_eq_getElem?_getD, List.getElem?_eq_getElem h]
def headB (tick most now : Int) (n : Nat) : Bool := decide (1 ≤ tick ∧ tick ≤ 1048576 ∧ 1 ≤ most ∧ most ≤ 1048576 ∧ 0 ≤ now ∧ now ≤ 1099511627776 ∧ n ≤ 64)
def oneB (most now : Int) (x : S49) : Bool := decide (0 ≤ x.f0 ∧ x.f0 ≤ 1099511627776 ∧ 0 ≤ x.f1 ∧ x.f1 ≤ most ∧ 0 ≤ x.f2 ∧ x.f2 ≤ now)
def upB (l : List S49) : Bool := decide (l.Pairwise fun a b => a.f0 < b.f0)
def rightB (tick most : Int) (l : List S49) (now : Int) : Bool := headB tick most now l.length && l.all (oneB most now) && upB l
theorem rightB_iff {tick most : Int} {l : List S49} {now : Int} : rightB tick most l now = true ↔ (1 ≤ tick ∧ tick ≤ 1048576 ∧ 1 ≤ most ∧ most ≤ 1048576 ∧ 0 ≤ now ∧ now ≤ 1099511627776 ∧ l.length ≤ 64) ∧ (∀ x ∈ l, 0 ≤ x.f0 ∧ x.f0 ≤ 1099511627776 ∧ 0 ≤ x.f1 ∧ x.f1 ≤ most ∧ 0 ≤ x.f2 ∧ x.f2 ≤ now) ∧ l.Pairwise fun a b => a.f0 < b.f0 := by
  unfold rightB headB oneB upB
  simp only [Bool.and_eq_true, decide_eq_true_eq, List.all_eq_true, and_assoc]
/-- Rows that rise from one to the next. -/
theorem pair_of {l : List S49} (h : ∀ j, (hj : j + 1 < l.length) → (l[j]'(by omega)).f0 < l[j + 1].f0) : l.Pairwise fun a b => a.f0 < b.f0 := by
  rw [List.pairwise_iff_getElem]
  intro i j hi hj hij
  obtain ⟨d, rfl⟩ : ∃ d, j = i + 1 + d := ⟨j - (i + 1), by omega⟩
  clear hij
  induction d with
  | zero => exact h i hj
  | succ d ih =>
    have h1 := ih (by omega)
    have h2 := h (i + 1 + d) hj
    exact Int.lt_trans h1 h2
theorem of_pair {l : List S49} (h : l.Pairwise fun a b => a.f0 < b.f0) (j : Nat) (hj : j + 1 < l.length) : (l[j]'(by omega)).f0 < l[j + 1].f0 := List.pairwise_iff_getElem.1 h j (j + 1) (by omega) hj (by omega)
/-- What one round asks of an element. -/
def G (most now : Int) (l : List S49) (j : Nat) (h : j < l.length) : Prop := (0 ≤ l[j].f0 ∧ l[j].f0 ≤ 1099511627776 ∧ 0 ≤ l[j].f1 ∧ l[j].f1 ≤ most ∧ 0 ≤ l[j].f2 ∧ l[j].f2 ≤ now) ∧ (0 < j → (l[j - 1]'(by omega)).f0 < l[j].f0)
theorem all_G {most now : Int} {l : List S49} : (∀ j, (h : j < l.length) → G most now l j h) ↔ (∀ x ∈ l, 0 ≤ x.f0 ∧ x.f0 ≤ 1099511627776 ∧ 0 ≤ x.f1 ∧ x.f1 ≤ most ∧ 0 ≤ x.f2 ∧ x.f2 ≤ now) ∧ l.Pairwise fun a b => a.f0 < b.f0 := by
  constructor
  · intro h
    refine ⟨fun x hx => ?_, pair_of fun j hj => by have := (h (j + 1) hj).2 (by omega); simpa using this⟩
    obtain ⟨j, hj, rfl⟩ := List.getElem_of_mem hx
    exact (h j hj).1
  · rintro ⟨h1, h2⟩ j hj
    refine ⟨h1 _ (List.getElem_mem hj), fun h0 => ?_⟩
    have := of_pair h2 (j - 1) (by omega)
    simpa [show j - 1 + 1 = j by omega] using this
theorem right_l0 (tick most now : Int) (l : List S49) (hl : l.length ≤ 9223372036854775807) (d : Nat) : ∀ (j k : Nat), l.length - j = d → j ≤ l.length → d < k →
    (∃ b, quota_right.l0 k l now true (j : Int) tick most = some b ∧ (b = true ↔ ∀ i, (h : i < l.length) → j ≤ i → G most now l i h)) ∧ quota_right.l0 k l now false (j : Int) tick most = some false := by
  induction d with
  | zero =>
    intro j k hd hj hk
    obtain ⟨k, rfl⟩ : ∃ m, k = m + 1 := ⟨k - 1, by omega⟩
    refine ⟨⟨true, ?_, by simp; intro i h1 h2; omega⟩, ?_⟩
    · rw [quota_right.l0, if_pos rfl, if_neg (by omega)]
    · rw [quota_right.l0, if_neg (by decide)]
  | succ d ih =>
    intro j k hd hj hk
    obtain ⟨k, rfl⟩ : ∃ m, k = m + 1 := ⟨k - 1, by omega⟩
    have hlt : j < l.length := by omega
    have e1 : wrap64 ((j : Int) + 1) = ((j + 1 : Nat) : Int) := by rw [w64 (by omega) (by omega)]; omega
    obtain ⟨⟨b, hb, hbi⟩, hf⟩ := ih (j + 1) k (by omega) (by omega) (by omega)
    refine ⟨?_, by rw [quota_right.l0, if_neg (by decide)]⟩
    rw [quota_right.l0, if_pos rfl, if_pos (by omega), if_pos (by omega), rd_at l j hlt, e1, hf]
    by_cases g : G most now l j hlt
    · obtain ⟨⟨g1, g2, g3, g4, g5, g6⟩, g7⟩ := g
      have hall : (∀ i, (h : i < l.length) → j ≤ i → G most now l i h) ↔ (∀ i, (h : i < l.length) → j + 1 ≤ i → G most now l i h) :=
        ⟨fun h i hi hij => h i hi (by omega), fun h i hi hij => by
          by_cases e : i = j
          · subst e; exact ⟨⟨g1, g2, g3, g4, g5, g6⟩, g7⟩
          · exact h i hi (by omega)⟩
      rw [if_pos g1, if_pos g2, if_pos g3, if_pos g4, if_pos g5, if_pos g6]
      by_cases h0 : j = 0
      · subst h0
        rw [if_pos (by omega)]
        exact ⟨b, hb, hbi.trans hall.symm⟩
      · have e2 : wrap64 ((j : Int) - 1) = ((j - 1 : Nat) : Int) := by rw [w64 (by omega) (by omega)]; omega
        rw [if_neg (by omega), e2, if_pos (by omega), if_pos (by omega), rd_at l (j - 1) (by omega), decide_eq_true (g7 (by omega))]
        exact ⟨b, hb, hbi.trans hall.symm⟩
    · refine ⟨false, ?_, ⟨fun h => by simp at h, fun h => (g (h j hlt (Nat.le_refl _))).elim⟩⟩
      by_cases g1 : l[j].f0 ≥ 0
      · rw [if_pos g1]
        by_cases g2 : l[j].f0 ≤ 1099511627776
        · rw [if_pos g2]
          by_cases g3 : l[j].f1 ≥ 0
          · rw [if_pos g3]
            by_cases g4 : l[j].f1 ≤ most
            · rw [if_pos g4]
              by_cases g5 : l[j].f2 ≥ 0
              · rw [if_pos g5]
                by_cases g6 : l[j].f2 ≤ now
                · rw [if_pos g6]
                  have h0 : j ≠ 0 := fun h0 => g ⟨⟨g1, g2, g3, g4, g5, g6⟩, fun h => by omega⟩
                  have e2 : wrap64 ((j : Int) - 1) = ((j - 1 : Nat) : Int) := by rw [w64 (by omega) (by omega)]; omega
                  rw [if_neg (by omega), e2, if_pos (by omega), if_pos (by omega), rd_at l (j - 1) (by omega), decide_eq_false (fun h => g ⟨⟨g1, g2, g3, g4, g5, g6⟩, fun _ => h⟩), hf]
                · rw [if_neg g6]
              · rw [if_neg g5]
            · rw [if_neg g4]
          · rw [if_neg g3]
        · rw [if_neg g2]
      · rw [if_neg g1]
theorem check_eq (tick most : Int) : quota_Check.f tick most = some (if 1 ≤ tick ∧ tick ≤ 1048576 ∧ 1 ≤ most ∧ most ≤ 1048576 then 0 else 1) := by
  unfold quota_Check.f
  by_cases h1 : tick < 1
  · rw [if_pos h1, if_neg (by omega)]
  · by_cases h2 : tick > 1048576
    · rw [if_neg h1, if_pos h2, if_neg (by omega)]
    · by_cases h3 : most < 1
      · rw [if_neg h1, if_neg h2, if_pos h3, if_neg (by omega)]
      · by_cases h4 : most > 1048576
        · rw [if_neg h1, if_neg h2, if_neg h3, if_pos h4, if_neg (by omega)]
        · rw [if_neg h1, if_neg h2, if_neg h3, if_neg h4, if_pos (by omega)]
theorem rmay_eq (tick most : Int) : headgateref36_May.f tick most = some (decide (1 ≤ tick ∧ tick ≤ 1048576 ∧ 1 ≤ most ∧ most ≤ 1048576)) := by
  unfold headgateref36_May.f
  by_cases h1 : tick ≥ 1
  · rw [if_pos h1]
    by_cases h2 : tick ≤ 1048576
    · rw [if_pos h2]
      by_cases h3 : most ≥ 1
      · rw [if_pos h3]; congr 1; rw [decide_eq_decide]; omega
      · rw [if_neg h3, decide_eq_false (by omega)]
    · rw [if_neg h2, decide_eq_false (by omega)]
  · rw [if_neg h1, decide_eq_false (by omega)]
theorem bool_ext {a b : Bool} (h : a = true ↔ b = true) : a = b := by cases a <;> cases b <;> simp_all
theorem right_eq (tick most : Int) (l : List S49) (now : Int) (hl : l.length ≤ 9223372036854775807) (k : Nat) (hk : l.length + 2 < k) : quota_right.f k tick most l now = some (rightB tick most l now) := by
  unfold quota_right.f
  rw [check_eq, Option.bind_some]
  obtain ⟨k, rfl⟩ : ∃ m, k = m + 1 := ⟨k - 1, by omega⟩
  obtain ⟨⟨b, hb, hbi⟩, hf⟩ := right_l0 tick most now l hl l.length 0 k (by omega) (by omega) (by omega)
  have hj : ∀ c, quota_right.j0 (k + 1) l now c tick most = quota_right.l0 k l now c ((0 : Nat) : Int) tick most := fun c => by rw [quota_right.j0]; rfl
  have hbi' : b = true ↔ ((∀ x ∈ l, 0 ≤ x.f0 ∧ x.f0 ≤ 1099511627776 ∧ 0 ≤ x.f1 ∧ x.f1 ≤ most ∧ 0 ≤ x.f2 ∧ x.f2 ≤ now) ∧ l.Pairwise fun a b => a.f0 < b.f0) := hbi.trans (Iff.trans ⟨fun h i hi => h i hi (by omega), fun h i hi _ => h i hi⟩ all_G)
  simp only [hj]
  by_cases h1 : 1 ≤ tick ∧ tick ≤ 1048576 ∧ 1 ≤ most ∧ most ≤ 1048576
  · rw [if_pos h1, if_pos rfl]
    by_cases h2 : now ≥ 0
    · rw [if_pos h2]
      by_cases h3 : now ≤ 1099511627776
      · rw [if_pos h3]
        by_cases h4 : (l.length : Int) ≤ 64
        · rw [decide_eq_true h4, hb]
          congr 1
          exact bool_ext (hbi'.trans (Iff.trans ⟨fun h => ⟨by omega, h⟩, fun h => h.2⟩ rightB_iff.symm))
        · rw [decide_eq_false h4, hf]
          congr 1
          exact bool_ext ⟨fun h => by simp at h, fun h => by have := (rightB_iff.1 h).1; omega⟩
      · rw [if_neg h3, hf]
        congr 1
        exact bool_ext ⟨fun h => by simp at h, fun h => by have := (rightB_iff.1 h).1; omega⟩
    · rw [if_neg h2, hf]
      congr 1
      exact bool_ext ⟨fun h => by simp at h, fun h => by have := (rightB_iff.1 h).1; omega⟩
  · rw [if_neg h1, if_neg (by decide), hf]
    congr 1
    exact bool_ext ⟨fun h => by simp at h, fun h => by have := (rightB_iff.1 h).1; omega⟩
/-- The reference's walk along the rows. -/
theorem rright_l0 (tick most now : Int) (l : List S49) (hl : l.length ≤ 9223372036854775807) (d : Nat) : ∀ (j k : Nat), l.length - j = d → j ≤ l.length → d < k → (∀ i, (h : i < l.length) → i < j → G most now l i h) →
    ∃ b, headgateref36_Right.l0 k l now (if h : 0 < j ∧ j ≤ l.length then (l[j - 1]'(by omega)).f0 else -1) (j : Int) tick most = some b ∧ (b = true ↔ ∀ i, (h : i < l.length) → G most now l i h) := by
  induction d with
  | zero =>
    intro j k hd hj hk hp
    obtain ⟨k, rfl⟩ : ∃ m, k = m + 1 := ⟨k - 1, by omega⟩
    exact ⟨true, by rw [headgateref36_Right.l0, if_neg (by omega)], by simp; exact fun i hi => hp i hi (by omega)⟩
  | succ d ih =>
    intro j k hd hj hk hp
    obtain ⟨k, rfl⟩ : ∃ m, k = m + 1 := ⟨k - 1, by omega⟩
    have hlt : j < l.length := by omega
    have e1 : wrap64 ((j : Int) + 1) = ((j + 1 : Nat) : Int) := by rw [w64 (by omega) (by omega)]; omega
    rw [headgateref36_Right.l0, if_pos (by omega), if_pos (by omega), rd_at l j hlt, e1]
    have hno : ¬ G most now l j hlt → ((false = true) ↔ ∀ i, (h : i < l.length) → G most now l i h) := fun g => ⟨fun h => by simp at h, fun h => (g (h j hlt)).elim⟩
    generalize hla : (if h : 0 < j ∧ j ≤ l.length then (l[j - 1]'(by omega)).f0 else -1) = la
    have hla1 : 0 < j → la = (l[j - 1]'(by omega)).f0 := fun h0 => by rw [← hla, dif_pos ⟨h0, by omega⟩]
    have hla0 : j = 0 → la = -1 := fun h0 => by rw [← hla, dif_neg (by omega)]
    by_cases g0 : l[j].f0 ≤ la
    · rw [if_pos g0]
      refine ⟨false, rfl, hno fun g => ?_⟩
      by_cases h0 : j = 0
      · have := hla0 h0; have := g.1.1; omega
      · have := hla1 (by omega); have := g.2 (by omega); omega
    · rw [if_neg g0]
      by_cases g2 : l[j].f0 > 1099511627776
      · rw [if_pos g2]; exact ⟨false, rfl, hno fun g => by have := g.1; omega⟩
      · rw [if_neg g2]
        by_cases g3 : l[j].f1 < 0
        · rw [if_pos g3]; exact ⟨false, rfl, hno fun g => by have := g.1; omega⟩
        · rw [if_neg g3]
          by_cases g4 : l[j].f1 > most
          · rw [if_pos g4]; exact ⟨false, rfl, hno fun g => by have := g.1; omega⟩
          · rw [if_neg g4]
            by_cases g5 : l[j].f2 < 0
            · rw [if_pos g5]; exact ⟨false, rfl, hno fun g => by have := g.1; omega⟩
            · rw [if_neg g5]
              by_cases g6 : l[j].f2 > now
              · rw [if_pos g6]; exact ⟨false, rfl, hno fun g => by have := g.1; omega⟩
              · rw [if_neg g6]
                have hG : G most now l j hlt := by
                  by_cases h0 : j = 0
                  · have := hla0 h0; exact ⟨by omega, fun h => by omega⟩
                  · have h1 := hla1 (by omega)
                    have h2 := (hp (j - 1) (by omega) (by omega)).1.1
                    exact ⟨by omega, fun h => by omega⟩
                have := ih (j + 1) k (by omega) (by omega) (by omega) (fun i hi hij => by
                  by_cases e : i = j
                  · subst e; exact hG
                  · exact hp i hi (by omega))
                rw [dif_pos ⟨by omega, by omega⟩] at this
                simpa using this
theorem rright_eq (tick most : Int) (l : List S49) (now : Int) (hl : l.length ≤ 9223372036854775807) (k : Nat) (hk : l.length + 2 < k) : headgateref36_Right.f k tick most l now = some (rightB tick most l now) := by
  unfold headgateref36_Right.f
  rw [rmay_eq, Option.bind_some]
  obtain ⟨k, rfl⟩ : ∃ m, k = m + 1 := ⟨k - 1, by omega⟩
  obtain ⟨b, hb, hbi⟩ := rright_l0 tick most now l hl l.length 0 k (by omega) (by omega) (by omega) (fun i h h2 => by omega)
  rw [dif_neg (by omega)] at hb
  have hjt : headgateref36_Right.j0 (k + 1) l now true tick most = some false := by rw [headgateref36_Right.j0, if_pos rfl]
  have hjf : headgateref36_Right.j0 (k + 1) l now false tick most = some b := by rw [headgateref36_Right.j0, if_neg (by decide)]; exact hb
  have hbi' := hbi.trans all_G
  have no : ¬ ((1 ≤ tick ∧ tick ≤ 1048576 ∧ 1 ≤ most ∧ most ≤ 1048576 ∧ 0 ≤ now ∧ now ≤ 1099511627776 ∧ l.length ≤ 64)) → some false = some (rightB tick most l now) := fun h => by
    congr 1
    exact bool_ext ⟨fun h => by simp at h, fun h2 => (h (rightB_iff.1 h2).1).elim⟩
  by_cases h1 : 1 ≤ tick ∧ tick ≤ 1048576 ∧ 1 ≤ most ∧ most ≤ 1048576
  · rw [decide_eq_true h1, if_pos rfl]
    by_cases h2 : now < 0
    · rw [if_pos h2, hjt]; exact no (by omega)
    · rw [if_neg h2]
      by_cases h3 : now > 1099511627776
      · rw [if_pos h3, hjt]; exact no (by omega)
      · rw [if_neg h3]
        by_cases h4 : (l.length : Int) > 64
        · rw [decide_eq_true h4, hjt]; exact no (by omega)
        · rw [decide_eq_false h4, hjf]
          congr 1
          exact bool_ext (hbi'.trans (Iff.trans ⟨fun h => ⟨by omega, h⟩, fun h => h.2⟩ rightB_iff.symm))
  · rw [decide_eq_false h1, if_neg (by decide), hjt]; exact no (by omega)
/-- What somebody has. -/
def hasV (tick most left since now : Int) : Int := if left + (now - since) * tick < most then left + (now - since) * tick else most
theorem mul_bd {a b A B : Int} (h0 : 0 ≤ a) (h1 : a ≤ A) (h2 : 0 ≤ b) (h3 : b ≤ B) : 0 ≤ a * b ∧ a * b ≤ A * B :=
  ⟨Int.mul_nonneg h0 h2, Int.mul_le_mul h1 h3 h2 (Int.le_trans h0 h1)⟩
theorem has_eq {tick most left since now : Int} (who : Int) (h1 : 1 ≤ tick) (h2 : tick ≤ 1048576) (h3 : 1 ≤ most) (h4 : most ≤ 1048576) (h5 : 0 ≤ left) (h6 : left ≤ most) (h7 : 0 ≤ since) (h8 : since ≤ now) (h9 : now ≤ 1099511627776) :
    quota_has.f tick most who left since now = some (hasV tick most left since now) := by
  unfold quota_has.f hasV
  rw [w64 (by omega) (by omega)]
  by_cases c : now - since < 1048576
  · have hm := mul_bd (show 0 ≤ now - since by omega) (show now - since ≤ 1048576 by omega) (show 0 ≤ tick by omega) h2
    rw [if_pos c, w64 (x := (now - since) * tick) (by omega) (by omega), w64 (by omega) (by omega)]
    rfl
  · have hm : now - since ≤ (now - since) * tick := by
      have := Int.mul_le_mul_of_nonneg_left h1 (show 0 ≤ now - since by omega)
      omega
    rw [if_neg c, if_neg (by omega)]
theorem rhas_l0 (tick most now who : Int) (h1 : 1 ≤ tick) (h2 : tick ≤ 1048576) (h4 : most ≤ 1048576) (h9 : now ≤ 1099511627776) (d : Nat) : ∀ (n t : Int) (k : Nat), 0 ≤ n → n ≤ 3000000 → 0 ≤ t → t ≤ now → (most - n).toNat ≤ d → d < k →
    headgateref36_Has.l0 k now n t tick most = some (if n + (now - t) * tick < most then n + (now - t) * tick else most) := by
  induction d with
  | zero =>
    intro n t k hn hn2 ht htn hd hk
    obtain ⟨k, rfl⟩ : ∃ m, k = m + 1 := ⟨k - 1, by omega⟩
    have hm := Int.mul_nonneg (show 0 ≤ now - t by omega) (show 0 ≤ tick by omega)
    rw [headgateref36_Has.l0]
    have hfin : (if n > most then (some most : Option Int) else some n) = some (if n + (now - t) * tick < most then n + (now - t) * tick else most) := by
      rw [if_neg (show ¬ n + (now - t) * tick < most by omega)]
      split
      · rfl
      · congr 1; omega
    split
    · rw [if_neg (by omega)]; exact hfin
    · exact hfin
  | succ d ih =>
    intro n t k hn hn2 ht htn hd hk
    obtain ⟨k, rfl⟩ : ∃ m, k = m + 1 := ⟨k - 1, by omega⟩
    have hm := Int.mul_nonneg (show 0 ≤ now - t by omega) (show 0 ≤ tick by omega)
    rw [headgateref36_Has.l0]
    by_cases c1 : t < now
    · rw [if_pos c1]
      by_cases c2 : n < most
      · rw [if_pos c2, w64 (x := n + tick) (by omega) (by omega), w64 (x := t + 1) (by omega) (by omega), ih (n + tick) (t + 1) k (by omega) (by omega) (by omega) (by omega) (by omega) (by omega)]
        have e : n + tick + (now - (t + 1)) * tick = n + (now - t) * tick := by
          rw [show now - t = (now - (t + 1)) + 1 by omega, Int.add_mul, Int.one_mul]; omega
        rw [e]
      · rw [if_neg c2, if_neg (show ¬ n + (now - t) * tick < most by omega)]
        split
        · rfl
        · congr 1; omega
    · obtain rfl : t = now := by omega
      rw [if_neg c1, Int.sub_self, Int.zero_mul, Int.add_zero]
      split
      · rw [if_neg (by omega)]
      · split
        · rfl
        · congr 1; omega
theorem rhas_eq {tick most left since now : Int} (who : Int) (h1 : 1 ≤ tick) (h2 : tick ≤ 1048576) (h3 : 1 ≤ most) (h4 : most ≤ 1048576) (h5 : 0 ≤ left) (h6 : left ≤ most) (h7 : 0 ≤ since) (h8 : since ≤ now) (h9 : now ≤ 1099511627776) (k : Nat) (hk : 1048576 < k) :
    headgateref36_Has.f k tick most who left since now = some (hasV tick most left since now) := by
  unfold headgateref36_Has.f hasV
  exact rhas_l0 tick most now who h1 h2 h4 h9 1048576 left since k h5 (by omega) h7 h8 (by omega) hk
theorem hasV_bd {tick most left since now : Int} (h1 : 1 ≤ tick) (h3 : 1 ≤ most) (h5 : 0 ≤ left) (h8 : since ≤ now) : 0 ≤ hasV tick most left since now ∧ hasV tick most left since now ≤ most := by
  have hm := Int.mul_nonneg (show 0 ≤ now - since by omega) (show 0 ≤ tick by omega)
  unfold hasV
  split <;> omega
/-- The answer. -/
def finV (tick most : Int) (l : List S49) (i : Nat) (n now : Int) : List S49 × Int × Int :=
  if hasV tick most (rd_T49 l i).f1 (rd_T49 l i).f2 now < n then (l, (n - hasV tick most (rd_T49 l i).f1 (rd_T49 l i).f2 now + tick - 1) / tick, 10)
  else (l.set i ⟨(rd_T49 l i).f0, hasV tick most (rd_T49 l i).f1 (rd_T49 l i).f2 now - n, now⟩, 0, 0)
def insV (l : List S49) (i : Nat) (x : S49) : List S49 := l.take i ++ x :: l.drop i
def takeV (tick most : Int) (l : List S49) (who n now : Int) : List S49 × Int × Int :=
  if rightB tick most l now = true ∧ 0 ≤ who ∧ who ≤ 1099511627776 ∧ 0 ≤ n then
    if n > most then ([], 0, 6)
    else if lt049 l who < l.length ∧ (rd_T49 l (lt049 l who : Int)).f0 = who then finV tick most l (lt049 l who) n now
    else if l.length = 64 then ([], 0, 5)
    else finV tick most (insV l (lt049 l who) ⟨who, most, now⟩) (lt049 l who) n now
  else ([], 0, 1)
theorem lt0_lo : ∀ (l : List S49) (t : Int) (q : Nat), q < lt049 l t → (rd_T49 l (q : Int)).f0 < t
  | [], t, q, h => by simp [lt049] at h
  | x :: l, t, q, h => by
    unfold lt049 at h
    rw [List.takeWhile_cons] at h
    by_cases c : x.f0 < t
    · rw [if_pos (by simpa using c)] at h
      cases q with
      | zero => simpa [rd_T49] using c
      | succ q =>
        have := lt0_lo l t q (by simpa [lt049] using h)
        simpa [rd_T49] using this
    · rw [if_neg (by simpa using c)] at h
      simp at h
theorem lt0_hi : ∀ (l : List S49) (t : Int), lt049 l t < l.length → t ≤ (rd_T49 l (lt049 l t : Int)).f0
  | [], t, h => by simp at h
  | x :: l, t, h => by
    unfold lt049 at h ⊢
    rw [List.takeWhile_cons] at h ⊢
    by_cases c : x.f0 < t
    · rw [if_pos (by simpa using c)] at h ⊢
      have := lt0_hi l t (by simpa [lt049] using h)
      simpa [rd_T49, lt049] using this
    · rw [if_neg (by simpa using c)]
      simp [rd_T49]
      omega
theorem lt0_le (l : List S49) (t : Int) : lt049 l t ≤ l.length := lt0_le49 l t
theorem insV_len (l : List S49) (i : Nat) (x : S49) (hi : i ≤ l.length) : (insV l i x).length = l.length + 1 := by
  unfold insV; rw [List.length_append, List.length_cons, List.length_take, List.length_drop]; omega
theorem insV_at (l : List S49) (i : Nat) (x : S49) (hi : i ≤ l.length) : rd_T49 (insV l i x) (i : Int) = x := by
  rw [rd_at _ _ (by rw [insV_len l i x hi]; omega)]
  unfold insV
  rw [List.getElem_append_right (by rw [List.length_take]; omega)]
  simp [List.length_take, Nat.min_eq_left hi]
theorem insV_set (l : List S49) (i : Nat) (x y : S49) (hi : i ≤ l.length) : (insV l i x).set i y = insV l i y := by
  unfold insV
  have h : (l.take i).length = i := by rw [List.length_take]; omega
  rw [List.set_append_right _ _ (by rw [h]; exact Nat.le_refl _), h, Nat.sub_self, List.set_cons_zero]
theorem set_split (l : List S49) (i : Nat) (y : S49) (hi : i < l.length) : l.set i y = l.take i ++ y :: l.drop (i + 1) := by
  rw [List.set_eq_take_append_cons_drop, if_pos hi]
theorem self_split (l : List S49) (i : Nat) (hi : i < l.length) : l.take i ++ l[i] :: l.drop (i + 1) = l := by
  rw [← set_split l i _ hi, List.set_getElem_self]
/-- The rows' elements are bounded. -/
theorem right_at {tick most : Int} {l : List S49} {now : Int} (h : rightB tick most l now = true) (i : Nat) (hi : i < l.length) : 0 ≤ (rd_T49 l i).f0 ∧ (rd_T49 l i).f0 ≤ 1099511627776 ∧ 0 ≤ (rd_T49 l i).f1 ∧ (rd_T49 l i).f1 ≤ most ∧ 0 ≤ (rd_T49 l i).f2 ∧ (rd_T49 l i).f2 ≤ now := by
  rw [rd_at l i hi]
  exact (rightB_iff.1 h).2.1 _ (List.getElem_mem hi)
theorem body_eq {tick most : Int} {l : List S49} {i : Nat} {n now : Int} (h1 : 1 ≤ tick) (h2 : tick ≤ 1048576) (h3 : 1 ≤ most) (h4 : most ≤ 1048576) (h9 : now ≤ 1099511627776) (h : 0 ≤ (rd_T49 l i).f1 ∧ (rd_T49 l i).f1 ≤ most ∧ 0 ≤ (rd_T49 l i).f2 ∧ (rd_T49 l i).f2 ≤ now) :
    quota_Take.body tick most l i n now = some (finV tick most l i n now) := by
  unfold quota_Take.body finV
  obtain ⟨q1, q2, q3, q4⟩ := h
  have hb := hasV_bd (tick := tick) (most := most) (left := (rd_T49 l i).f1) (since := (rd_T49 l i).f2) (now := now) h1 h3 q1 q4
  rw [has_eq _ h1 h2 h3 h4 q1 q2 q3 q4 h9, Option.bind_some, if_pos (by omega)]
  split <;> rfl
theorem take_eq (tick most : Int) (l : List S49) (who n now : Int) (hl : l.length ≤ 9223372036854775807) (k : Nat) (hk : l.length + 2 < k) : quota_Take.f k tick most l who n now = some (takeV tick most l who n now) := by
  unfold quota_Take.f takeV
  rw [right_eq tick most l now hl k hk, Option.bind_some]
  by_cases hr : rightB tick most l now = true ∧ 0 ≤ who ∧ who ≤ 1099511627776 ∧ 0 ≤ n
  · rw [if_pos hr, if_pos hr]
    obtain ⟨⟨q1, q2, q3, q4, q5, q6, q7⟩, q8, q9⟩ := rightB_iff.1 hr.1
    split
    · rfl
    · rename_i hn
      rw [if_pos (by
        simp only [quota_Take.okB, Bool.and_eq_true, decide_eq_true_eq, List.all_eq_true]
        exact ⟨⟨⟨⟨⟨⟨⟨⟨q1, q2⟩, q3⟩, q4⟩, q5⟩, q6⟩, q7⟩, fun x hx => ⟨(q8 x hx).1, (q8 x hx).2.1⟩⟩, q9⟩)]
      split
      · rename_i hf
        have := right_at hr.1 _ hf.1
        exact body_eq q1 q2 q3 q4 q6 (by omega)
      · split
        · rfl
        · have hle := lt0_le l who
          have e := insV_at l (lt049 l who) ⟨who, most, now⟩ hle
          exact body_eq (l := insV l (lt049 l who) ⟨who, most, now⟩) q1 q2 q3 q4 q6 (by rw [e]; dsimp only; omega)
  · rw [if_neg hr, if_neg hr]
/-- The reference: how long to wait. -/
theorem rwait (tick n : Int) (l out : List S49) (hl : l.length ≤ 64) (ho : out.length ≤ 64) (i : Nat) (hi : i ≤ l.length) (a : S49) (x0 x1 : Int) (h1 : 1 ≤ tick) (h2 : tick ≤ 1048576) (hn : n ≤ 1048576) (d : Nat) : ∀ (left w : Int) (k : Nat), 0 ≤ left → left < n + tick → 0 ≤ w → w ≤ 3000000 → (n - left).toNat ≤ d → w + d ≤ 3000000 → d < k →
    headgateref36_Take.l1 k l n out (i : Int) left w 10 tick x1 a.f0 a.f1 a.f2 = some (out ++ a :: l.drop i, w + (if left < n then (n - left + tick - 1) / tick else 0), 10) := by
  have hfin : ∀ w : Int, (if out.length < 5864062014805 then ((some (out ++ [(⟨a.f0, a.f1, a.f2⟩ : S49)] : List (S49))).bind fun y148 => (if 0 ≤ (i : Int) then (if (i : Int) ≤ (l.length : Int) then ((some (l.drop ((i : Int) : Int).toNat : List (S49))).bind fun y151 => (if y148.length + y151.length < 5864062014805 then (some ((y148 ++ y151), w, (10 : Int))) else (none))) else (none)) else (none))) else (none)) = some (out ++ a :: l.drop i, w, 10) := by
    intro w
    rw [if_pos (by omega), Option.bind_some, if_pos (by omega), if_pos (by omega), Option.bind_some, Int.toNat_natCast, if_pos (by simp only [List.length_append, List.length_drop, List.length_singleton]; omega)]
    simp
  induction d with
  | zero =>
    intro left w k hl0 hl1 hw hw2 hd hd2 hk
    obtain ⟨k, rfl⟩ : ∃ m, k = m + 1 := ⟨k - 1, by omega⟩
    rw [headgateref36_Take.l1, if_neg (by omega), hfin, if_neg (by omega), Int.add_zero]
  | succ d ih =>
    intro left w k hl0 hl1 hw hw2 hd hd2 hk
    obtain ⟨k, rfl⟩ : ∃ m, k = m + 1 := ⟨k - 1, by omega⟩
    by_cases c : left < n
    · rw [headgateref36_Take.l1, if_pos c, if_pos c, w64 (x := left + tick) (by omega) (by omega), w64 (x := w + 1) (by omega) (by omega), ih (left + tick) (w + 1) k (by omega) (by omega) (by omega) (by omega) (by omega) (by omega) (by omega)]
      congr 2
      rw [Prod.mk.injEq]
      refine ⟨?_, rfl⟩
      by_cases c2 : left + tick < n
      · rw [if_pos c2]
        have e : n - left + tick - 1 = (n - (left + tick) + tick - 1) + 1 * tick := by omega
        rw [e, Int.add_mul_ediv_right _ _ (by omega)]
        omega
      · rw [if_neg c2]
        have e : n - left + tick - 1 = (n - left - 1) + 1 * tick := by omega
        rw [e, Int.add_mul_ediv_right _ _ (by omega), Int.ediv_eq_zero_of_lt (by omega) (by omega)]
        omega
    · rw [headgateref36_Take.l1, if_neg c, hfin, if_neg c, Int.add_zero]
def finR (tick most : Int) (out : List S49) (a : S49) (rest : List S49) (n now : Int) : List S49 × Int × Int :=
  if hasV tick most a.f1 a.f2 now < n then (out ++ a :: rest, (n - hasV tick most a.f1 a.f2 now + tick - 1) / tick, 10) else (out ++ ⟨a.f0, hasV tick most a.f1 a.f2 now - n, now⟩ :: rest, 0, 0)
theorem rj4 (tick most n now : Int) (l out : List S49) (hl : l.length ≤ 64) (ho : out.length ≤ 64) (i : Nat) (hi : i ≤ l.length) (a : S49) (h1 : 1 ≤ tick) (h2 : tick ≤ 1048576) (h3 : 1 ≤ most) (h4 : most ≤ 1048576) (h9 : now ≤ 1099511627776) (hn : n ≤ most) (hn0 : 0 ≤ n) (q1 : 0 ≤ a.f1) (q2 : a.f1 ≤ most) (q3 : 0 ≤ a.f2) (q4 : a.f2 ≤ now) (k : Nat) (hk : 1048580 < k) :
    headgateref36_Take.j4 k l a.f0 n now out (i : Int) tick most a.f0 a.f1 a.f2 = some (finR tick most out a (l.drop i) n now) := by
  obtain ⟨k, rfl⟩ : ∃ m, k = m + 1 := ⟨k - 1, by omega⟩
  have hb := hasV_bd (tick := tick) (most := most) (left := a.f1) (since := a.f2) (now := now) h1 h3 q1 q4
  rw [headgateref36_Take.j4, rhas_eq _ h1 h2 h3 h4 q1 q2 q3 q4 h9 k (by omega), Option.bind_some]
  unfold finR
  by_cases c : hasV tick most a.f1 a.f2 now < n
  · rw [if_pos c, if_pos c, rwait tick n l out hl ho i hi a a.f0 most h1 h2 (by omega) 1048576 _ 0 k (by omega) (by omega) (by omega) (by omega) (by omega) (by omega) (by omega), if_pos c, Int.zero_add]
  · rw [if_neg c, if_neg c, if_pos (by omega), Option.bind_some, if_pos (by omega), if_pos (by omega), Option.bind_some, Int.toNat_natCast, if_pos (by simp only [List.length_append, List.length_drop, List.length_singleton]; omega), w64 (by omega) (by omega)]
    simp
theorem take_ref (tick most : Int) (l : List S49) (who n now : Int) (hl : l.length ≤ 9223372036854775807) (k : Nat) (hk : l.length + 1048700 < k) (hs : l.length ≤ 64 ∨ rightB tick most l now = false) : headgateref36_Take.f k tick most l who n now = some (takeV tick most l who n now) := by
  unfold headgateref36_Take.f takeV
  rw [rright_eq tick most l now hl k (by omega), Option.bind_some]
  obtain ⟨k, rfl⟩ : ∃ m, k = m + 1 := ⟨k - 1, by omega⟩
  have hjt : headgateref36_Take.j0 (k + 1) l who n now true tick most = some ([], 0, 1) := by rw [headgateref36_Take.j0, if_pos rfl]
  by_cases hr : rightB tick most l now = true
  · rw [if_pos hr]
    by_cases h1 : who < 0
    · rw [if_pos h1, hjt, if_neg (by omega)]
    · rw [if_neg h1]
      by_cases h2 : who > 1099511627776
      · rw [if_pos h2, hjt, if_neg (by omega)]
      · rw [if_neg h2]
        by_cases h3 : n < 0
        · rw [decide_eq_true h3, hjt, if_neg (by omega)]
        · rw [decide_eq_false h3, if_pos ⟨hr, by omega, by omega, by omega⟩, headgateref36_Take.j0, if_neg (by decide)]
          by_cases h4 : n > most
          · rw [if_pos h4, if_pos h4]
          · rw [if_neg h4, if_neg h4]
            obtain ⟨⟨q1, q2, q3, q4, q5, q6, q7⟩, q8, q9⟩ := rightB_iff.1 hr
            have key : ∀ (d j k : Nat), lt049 l who - j = d → j ≤ lt049 l who → d + 1048600 < k → (∀ q : Nat, q < lt049 l who → (rd_T49 l (q : Int)).f0 < who) → (lt049 l who < l.length → who ≤ (rd_T49 l (lt049 l who : Int)).f0) →
                headgateref36_Take.l0 k l who n now (l.take j) (j : Int) tick most who most now = some (if lt049 l who < l.length ∧ (rd_T49 l (lt049 l who : Int)).f0 = who then finV tick most l (lt049 l who) n now else if l.length = 64 then ([], 0, 5) else finV tick most (insV l (lt049 l who) ⟨who, most, now⟩) (lt049 l who) n now) := by
              intro d
              induction d with
              | zero =>
                intro j k hd hj hk hP hQ
                have hle := lt0_le l who
                obtain rfl : j = lt049 l who := by omega
                obtain ⟨k, rfl⟩ : ∃ m, k = m + 3 := ⟨k - 3, by omega⟩
                generalize lt049 l who = i at *
                have hj2 : headgateref36_Take.l0 (k + 3) l who n now (l.take i) (i : Int) tick most who most now = headgateref36_Take.j2 (k + 2) l who n now (l.take i) (i : Int) tick most who most now := by
                  rw [headgateref36_Take.l0]
                  split
                  · rw [if_pos (by omega), if_neg (by have := hQ (by omega); omega)]
                  · rfl
                rw [hj2, headgateref36_Take.j2]
                by_cases hi : i < l.length
                · rw [if_pos (by omega), if_pos (by omega)]
                  by_cases he : (rd_T49 l (i : Int)).f0 = who
                  · have ha := right_at hr i hi
                    rw [if_pos ⟨hi, he⟩, beq_iff_eq.2 he, headgateref36_Take.j3, if_pos rfl, if_pos (by omega), if_pos (by omega), w64 (by omega) (by omega), show (i : Int) + 1 = ((i + 1 : Nat) : Int) by omega]
                    have := rj4 tick most n now l (l.take i) q7 (by rw [List.length_take]; omega) (i + 1) (by omega) (rd_T49 l (i : Int)) q1 q2 q3 q4 q6 (by omega) (by omega) ha.2.2.1 ha.2.2.2.1 ha.2.2.2.2.1 ha.2.2.2.2.2 k (by omega)
                    rw [he] at this ⊢
                    rw [this]
                    congr 1
                    unfold finR finV
                    rw [rd_at l i hi]
                    rw [rd_at l i hi] at he
                    split
                    · rw [self_split l i hi]
                    · rw [set_split l i _ hi]
                  · rw [if_neg (fun h => he h.2), beq_eq_false_iff_ne.2 he, headgateref36_Take.j3, if_neg (by decide)]
                    by_cases h64 : l.length = 64
                    · rw [if_pos (by omega), if_pos h64]
                    · rw [if_neg (by omega), if_neg h64]
                      have := rj4 tick most n now l (l.take i) q7 (by rw [List.length_take]; omega) i (by omega) ⟨who, most, now⟩ q1 q2 q3 q4 q6 (by omega) (by omega) (by dsimp only; omega) (by dsimp only; omega) (by dsimp only; omega) (by dsimp only; omega) k (by omega)
                      dsimp only at this
                      rw [this]
                      congr 1
                      unfold finR finV
                      rw [insV_at l i _ (by omega), insV_set l i _ _ (by omega)]
                      rfl
                · rw [if_neg (by omega), if_neg (fun h => hi h.1), headgateref36_Take.j3, if_neg (by decide)]
                  by_cases h64 : l.length = 64
                  · rw [if_pos (by omega), if_pos h64]
                  · rw [if_neg (by omega), if_neg h64]
                    have := rj4 tick most n now l (l.take i) q7 (by rw [List.length_take]; omega) i (by omega) ⟨who, most, now⟩ q1 q2 q3 q4 q6 (by omega) (by omega) (by dsimp only; omega) (by dsimp only; omega) (by dsimp only; omega) (by dsimp only; omega) k (by omega)
                    dsimp only at this
                    rw [this]
                    congr 1
                    unfold finR finV
                    rw [insV_at l i _ (by omega), insV_set l i _ _ (by omega)]
                    rfl
              | succ d ih =>
                intro j k hd hj hk hP hQ
                obtain ⟨k, rfl⟩ : ∃ m, k = m + 1 := ⟨k - 1, by omega⟩
                have hle := lt0_le l who
                have hjl : j < l.length := by omega
                rw [headgateref36_Take.l0, if_pos (by omega), if_pos (by omega), if_pos (hP j (by omega)), if_pos (by rw [List.length_take]; omega), w64 (by omega) (by omega), show (j : Int) + 1 = ((j + 1 : Nat) : Int) by omega, ← ih (j + 1) k (by omega) (by omega) (by omega) hP hQ, rd_at l j hjl, List.take_succ_eq_append_getElem hjl]
            exact key (lt049 l who) 0 k (by omega) (by omega) (by have := lt0_le l who; omega) (lt0_lo l who) (lt0_hi l who)
  · rw [if_neg hr, hjt, if_neg (fun h => hr h.1)]
theorem rsame_l0 (l : List S49) (hl : l.length ≤ 9223372036854775807) (d : Nat) : ∀ (j k : Nat), l.length - j = d → j ≤ l.length → d < k → headgateref36_Same.l0 k l l (j : Int) = some true := by
  induction d with
  | zero =>
    intro j k hd hj hk
    obtain ⟨k, rfl⟩ : ∃ m, k = m + 1 := ⟨k - 1, by omega⟩
    rw [headgateref36_Same.l0, if_neg (by omega)]
  | succ d ih =>
    intro j k hd hj hk
    obtain ⟨k, rfl⟩ : ∃ m, k = m + 1 := ⟨k - 1, by omega⟩
    rw [headgateref36_Same.l0, if_pos (by omega), if_pos (by omega), if_pos (by omega), if_neg (by simp), w64 (by omega) (by omega), show (j : Int) + 1 = ((j + 1 : Nat) : Int) by omega]
    exact ih (j + 1) k (by omega) (by omega) (by omega)
theorem rsame_self (l : List S49) (hl : l.length ≤ 9223372036854775807) (k : Nat) (hk : l.length < k) : headgateref36_Same.f k l l = some true := by
  unfold headgateref36_Same.f
  rw [if_pos rfl]
  exact rsame_l0 l hl l.length 0 k (by omega) (by omega) hk
theorem finV_len (tick most : Int) (l : List S49) (i : Nat) (n now : Int) : (finV tick most l i n now).1.length = l.length := by
  unfold finV; split
  · rfl
  · exact List.length_set
theorem takeV_len (tick most : Int) (l : List S49) (who n now : Int) : (takeV tick most l who n now).1.length ≤ l.length + 1 := by
  unfold takeV
  split
  · split
    · simp
    · split
      · rw [finV_len]; omega
      · split
        · simp
        · rw [finV_len, insV_len _ _ _ (lt0_le l who)]; omega
  · simp
theorem awake_eq (k : Nat) (hk : 10 < k) : headgatelaw36_awake.f k = some true := by
  unfold headgatelaw36_awake.f
  have e1 : takeV 2 5 [] 1 4 0 = ([⟨1, 1, 0⟩], 0, 0) := by rfl
  have e2 : takeV 2 5 [⟨1, 1, 0⟩] 1 4 0 = ([⟨1, 1, 0⟩], 2, 10) := by rfl
  have e3 : takeV 2 5 [⟨1, 1, 0⟩] 1 4 2 = ([⟨1, 1, 2⟩], 0, 0) := by rfl
  rw [take_eq _ _ _ _ _ _ (by simp) k (by simp; omega), e1, Option.bind_some, take_eq _ _ _ _ _ _ (by simp) k (by simp; omega), e2, Option.bind_some, take_eq _ _ _ _ _ _ (by simp) k (by simp; omega), e3, Option.bind_some]
  rfl
end Go.Proofs.Ytkelkigkoceljaa.Qt
