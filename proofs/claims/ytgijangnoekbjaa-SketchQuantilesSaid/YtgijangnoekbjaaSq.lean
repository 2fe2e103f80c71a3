/- The sketch's shares: the bucket of the k-th number, by size. -/
import Derived.Test.YtgijangnoekbjaaSc
set_option linter.unusedVariables false
set_option linter.unusedSimpArgs false
namespace Go.Proofs.Ytgijangnoekbjaa.Sq
open Go.RowKit Go.Proofs.Ytgijangnoekbjaa.Vm Go.Proofs.Ytgijangnoekbjaa.Sm Go.Proofs.Ytgijangnoekbjaa.Sp Go.Proofs.Ytgijangnoekbjaa.Sc Go.Proofs.Ytgijangnoekbjaa.P Go.Proofs.YtgijangnoekbjaaW.PrintWords Go.Proofs.YtgijangnoekbjaaW.PrintLast

theorem quant_l0 (s : List S61) (hl : s.length ≤ 9223372036854775807) (hp : ∀ y ∈ s, 1 ≤ y.f1 ∧ y.f1 ≤ 1099511627776) (d : Nat) : ∀ (j k : Nat) (r : Int), s.length - j = d → j ≤ s.length → d < k → 1 ≤ r → r ≤ tot (s.drop j) → r ≤ 1099511627776 →
    sketch_Quantile.l0 k s r s (s.length : Int) (j : Int) = some (pk r (s.drop j), 0) ∧ headgateref29_Quantile.l0 k s r (j : Int) = some (pk r (s.drop j), 0) := by
  induction d with
  | zero =>
    intro j k r hd hj hk h0 h1 h2
    rw [List.drop_of_length_le (by omega)] at h1
    exact absurd (show r ≤ 0 from h1) (by omega)
  | succ d ih =>
    intro j k r hd hj hk h0 h1 h2
    obtain ⟨k, rfl⟩ : ∃ m, k = m + 1 := ⟨k - 1, by omega⟩
    have hjl : j < s.length := by omega
    obtain ⟨hx, hx2⟩ := hp s[j] (List.getElem_mem hjl)
    have hd' : s.drop j = s[j] :: s.drop (j + 1) := List.drop_eq_getElem_cons hjl
    have ht : tot (s.drop j) = s[j].f1 + tot (s.drop (j + 1)) := by rw [hd']; rfl
    have hpk : pk r (s.drop j) = if r ≤ s[j].f1 then s[j].f0 else pk (r - s[j].f1) (s.drop (j + 1)) := by rw [hd']; rfl
    rw [hpk]
    constructor
    · rw [sketch_Quantile.l0, if_pos (by omega), if_pos (by omega), if_pos (by omega), rd_at s j hjl, w64 (x := r - s[j].f1) (by omega) (by omega), w64 (x := (j : Int) + 1) (by omega) (by omega)]
      by_cases c : r ≤ s[j].f1
      · rw [if_pos c, if_pos (by omega)]
      · rw [if_neg c, if_neg (by omega), show ((j : Int) + 1) = ((j + 1 : Nat) : Int) by omega]
        exact (ih (j + 1) k (r - s[j].f1) (by omega) (by omega) (by omega) (by omega) (by omega) (by omega)).1
    · rw [headgateref29_Quantile.l0, if_pos (by omega), if_pos (by omega), rd_at s j hjl, w64 (x := r - s[j].f1) (by omega) (by omega), w64 (x := (j : Int) + 1) (by omega) (by omega)]
      by_cases c : r ≤ s[j].f1
      · rw [if_pos c, if_neg (by omega)]
      · rw [if_neg c, if_pos (by omega), show ((j : Int) + 1) = ((j + 1 : Nat) : Int) by omega]
        exact (ih (j + 1) k (r - s[j].f1) (by omega) (by omega) (by omega) (by omega) (by omega) (by omega)).2
/-- Which number, by size, a share is. -/
def rank (n part of_ : Int) : Int := mx 1 (n / of_ * part + (n % of_ * part / of_ + if n % of_ * part % of_ > 0 then 1 else 0))
theorem ceil_eq (x o : Int) (ho : 1 ≤ o) (hx : 0 ≤ x) : (x + o - 1) / o = x / o + if x % o > 0 then 1 else 0 := by
  have h1 := Int.mul_ediv_add_emod x o
  have h2 := Int.emod_nonneg x (show o ≠ 0 by omega)
  have h3 := Int.emod_lt_of_pos x (show 0 < o by omega)
  generalize x / o = a at h1
  generalize x % o = b at h1 h2 h3
  split
  · rw [show x + o - 1 = (b - 1) + o * (a + 1) by rw [Int.mul_add]; omega, Int.add_mul_ediv_left _ _ (by omega), Int.ediv_eq_zero_of_lt (by omega) (by omega)]
    omega
  · rw [show x + o - 1 = (o - 1) + o * a by omega, Int.add_mul_ediv_left _ _ (by omega), Int.ediv_eq_zero_of_lt (by omega) (by omega)]
    omega
theorem parts_bd (n part o : Int) (hn0 : 0 ≤ n) (hn : n ≤ 1099511627776) (ho : 1 ≤ o) (ho2 : o ≤ 1000000) (hp0 : 0 ≤ part) (hp : part ≤ o) :
    0 ≤ n / o ∧ 0 ≤ n % o ∧ n % o < o ∧ n / o ≤ n ∧ 0 ≤ n / o * part ∧ n / o * part ≤ n ∧ 0 ≤ n % o * part ∧ n % o * part ≤ 1000000000000 ∧ 0 ≤ n % o * part / o ∧ n / o * part + (n % o * part / o + if n % o * part % o > 0 then 1 else 0) ≤ n ∧ 0 ≤ n % o * part % o ∧ n % o * part / o ≤ 1000000 := by
  have h1 := Int.mul_ediv_add_emod n o
  have h2 := Int.emod_nonneg n (show o ≠ 0 by omega)
  have h3 := Int.emod_lt_of_pos n (show 0 < o by omega)
  have h4 : 0 ≤ n / o := Int.ediv_nonneg hn0 (by omega)
  have h5 : 0 ≤ n / o * part := Int.mul_nonneg h4 hp0
  have h6 : n / o * part ≤ o * (n / o) := by rw [Int.mul_comm o]; exact Int.mul_le_mul_of_nonneg_left hp h4
  have h7 : 0 ≤ n % o * part := Int.mul_nonneg h2 hp0
  have h8 : n % o * part ≤ n % o * o := Int.mul_le_mul_of_nonneg_left hp h2
  have h9 : n % o * o ≤ o * o := Int.mul_le_mul_of_nonneg_right (by omega) (by omega)
  have h10 : o * o ≤ 1000000 * 1000000 := Int.mul_le_mul ho2 ho2 (by omega) (by omega)
  have h11 : n / o ≤ n := Int.ediv_le_self _ hn0
  have g1 := Int.mul_ediv_add_emod (n % o * part) o
  have g2 := Int.emod_nonneg (n % o * part) (show o ≠ 0 by omega)
  have g3 := Int.emod_lt_of_pos (n % o * part) (show 0 < o by omega)
  have g4 : 0 ≤ n % o * part / o := Int.ediv_nonneg h7 (by omega)
  generalize n % o * part = X at *
  generalize n / o * part = Y at *
  generalize n / o = q at *
  generalize n % o = m at *
  generalize X % o = b at *
  generalize X / o = a at *
  have g5 : a + (if b > 0 then 1 else 0) ≤ m := by
    rw [Int.mul_comm m o] at h8
    split
    · have : o * a < o * m := by omega
      have := Int.lt_of_mul_lt_mul_left this (by omega)
      omega
    · have : o * a ≤ o * m := by omega
      have := Int.le_of_mul_le_mul_left this (by omega)
      omega
  refine ⟨h4, h2, h3, h11, h5, by omega, h7, by omega, g4, by omega, g2, by split at g5 <;> omega⟩
theorem rank_bd (n part o : Int) (hn0 : 1 ≤ n) (hn : n ≤ 1099511627776) (ho : 1 ≤ o) (ho2 : o ≤ 1000000) (hp0 : 0 ≤ part) (hp : part ≤ o) : 1 ≤ rank n part o ∧ rank n part o ≤ n := by
  have := parts_bd n part o (by omega) hn ho ho2 hp0 hp
  unfold rank mx
  split <;> omega
theorem srank_eq (n part o : Int) (hn0 : 0 ≤ n) (hn : n ≤ 1099511627776) (ho : 1 ≤ o) (ho2 : o ≤ 1000000) (hp0 : 0 ≤ part) (hp : part ≤ o) :
    mx 1 (wrap64 ((wrap64 ((wrap64 (Int.tdiv n o)) * part)) + (wrap64 (Int.tdiv (wrap64 ((wrap64 ((wrap64 ((Int.tmod n o) * part)) + o)) - 1)) o)))) = rank n part o := by
  obtain ⟨b1, b2, b3, b4, b5, b6, b7, b8, b9, b10, b11, b12⟩ := parts_bd n part o hn0 hn ho ho2 hp0 hp
  have hc := ceil_eq (n % o * part) o ho b7
  unfold rank
  rw [Int.tdiv_eq_ediv_of_nonneg hn0, Int.tmod_eq_emod_of_nonneg hn0]
  generalize n % o * part = X at *
  have hq : wrap64 (n / o) = n / o := w64 (by omega) (by omega)
  rw [hq]
  generalize n / o * part = Y at *
  rw [w64 (x := Y) (by omega) (by omega), w64 (x := X) (by omega) (by omega), w64 (x := X + o) (by omega) (by omega), w64 (x := X + o - 1) (by omega) (by omega), Int.tdiv_eq_ediv_of_nonneg (by omega), hc]
  generalize X / o = A at *
  generalize X % o = B at *
  have : (0 : Int) ≤ (if B > 0 then 1 else 0) ∧ (if B > 0 then (1 : Int) else 0) ≤ 1 := by split <;> omega
  generalize (if B > 0 then (1 : Int) else 0) = C at *
  rw [w64 (x := A + C) (by omega) (by omega), w64 (by omega) (by omega)]
theorem rrank_eq (n part o : Int) (hn0 : 0 ≤ n) (hn : n ≤ 1099511627776) (ho : 1 ≤ o) (ho2 : o ≤ 1000000) (hp0 : 0 ≤ part) (hp : part ≤ o) : headgateref29_Rank.f n part o = some (rank n part o) := by
  obtain ⟨b1, b2, b3, b4, b5, b6, b7, b8, b9, b10, b11, b12⟩ := parts_bd n part o hn0 hn ho ho2 hp0 hp
  unfold rank headgateref29_Rank.f
  rw [if_neg (by omega), Int.tdiv_eq_ediv_of_nonneg hn0, Int.tmod_eq_emod_of_nonneg hn0]
  generalize n % o * part = X at *
  have hq : wrap64 (n / o) = n / o := w64 (by omega) (by omega)
  rw [hq]
  generalize n / o * part = Y at *
  rw [w64 (x := Y) (by omega) (by omega), w64 (x := X) (by omega) (by omega), Int.tmod_eq_emod_of_nonneg b7, Int.tdiv_eq_ediv_of_nonneg b7]
  generalize X / o = A at *
  generalize X % o = B at *
  rw [w64 (x := A) (by omega) (by omega), w64 (x := Y + A) (by omega) (by omega)]
  unfold mx
  by_cases c : B > 0
  · rw [if_pos c] at b10
    rw [if_pos c, if_pos c, w64 (x := Y + A + 1) (by omega) (by omega)]
    by_cases c2 : Y + A + 1 < 1
    · rw [if_pos c2, if_neg (by omega)]
    · rw [if_neg c2]
      by_cases c3 : (1 : Int) < Y + (A + 1)
      · rw [if_pos c3]; exact congrArg some (by omega)
      · rw [if_neg c3]; exact congrArg some (by omega)
  · rw [if_neg c] at b10
    rw [if_neg c, if_neg c]
    by_cases c2 : Y + A < 1
    · rw [if_pos c2, if_neg (by omega)]
    · rw [if_neg c2]
      by_cases c3 : (1 : Int) < Y + (A + 0)
      · rw [if_pos c3]; exact congrArg some (by omega)
      · rw [if_neg c3]; exact congrArg some (by omega)
def quantR (s : List S61) (part o : Int) : Int × Int :=
  if may s = true ∧ 1 ≤ o ∧ o ≤ 1000000 ∧ 0 ≤ part ∧ part ≤ o then (if s = [] then (0, 3) else (pk (rank (tot s) part o) s, 0)) else (0, 1)
theorem quant_eq (s : List S61) (hw : Wf s) (hl : s.length ≤ 9223372036854775807) (part o : Int) (k : Nat) (hk : s.length + 2 < k) : sketch_Quantile.f k s part o = some (quantR s part o) ∧ headgateref29_Quantile.f k s part o = some (quantR s part o) := by
  obtain ⟨k, rfl⟩ : ∃ m, k = m + 1 := ⟨k - 1, by omega⟩
  unfold sketch_Quantile.f headgateref29_Quantile.f quantR
  have f1 : ∀ a b, sketch_Quantile.j0 (k + 1) s a b true = some (0, 1) := fun a b => by rw [sketch_Quantile.j0, if_pos rfl]
  have f2 : ∀ a b, headgateref29_Quantile.j0 (k + 1) s a b true = some (0, 1) := fun a b => by rw [headgateref29_Quantile.j0, if_pos rfl]
  rw [check_eq s hw hl _ (by omega), Option.bind_some, rmay_eq s hw hl _ (by omega), Option.bind_some]
  by_cases c0 : may s = true
  · rw [if_pos c0, if_pos rfl, if_pos c0]
    by_cases c1 : o < 1
    · rw [if_pos c1, if_pos c1, if_neg (by omega), f1, f2]; exact ⟨rfl, rfl⟩
    · rw [if_neg c1, if_neg c1]
      by_cases c2 : o > 1000000
      · rw [if_pos c2, if_pos c2, if_neg (by omega), f1, f2]; exact ⟨rfl, rfl⟩
      · rw [if_neg c2, if_neg c2]
        by_cases c3 : part < 0
        · rw [if_pos c3, if_pos c3, if_neg (by omega), f1, f2]; exact ⟨rfl, rfl⟩
        · rw [if_neg c3, if_neg c3]
          by_cases c4 : part > o
          · rw [decide_eq_true c4, if_neg (by omega), f1, f2]; exact ⟨rfl, rfl⟩
          · have ht := tot_le c0 (by omega)
            have hc : cnt s = tot s := if_pos c0
            rw [decide_eq_false c4, if_pos ⟨c0, by omega, by omega, by omega, by omega⟩, sketch_Quantile.j0, headgateref29_Quantile.j0, if_neg (show ¬ (false = true) from Bool.false_ne_true), if_neg (show ¬ (false = true) from Bool.false_ne_true), count_eq s hw hl _ (by omega), Option.bind_some, rcount_eq s hw hl _ (by omega), Option.bind_some, hc]
            by_cases c5 : s = []
            · subst c5
              rw [if_pos rfl, if_pos (show tot [] = 0 from rfl), if_pos (show ((List.length ([] : List S61) : Nat) : Int) = 0 from rfl)]
              exact ⟨rfl, rfl⟩
            · have hlen : s.length ≠ 0 := fun h => c5 (List.length_eq_zero_iff.1 h)
              have hr := rank_bd (tot s) part o (by omega) (by omega) (by omega) (by omega) (by omega) (by omega)
              have hq := quant_l0 s hl (fun y hy => ⟨(ht.2.2 y hy).2.2.1, by have := (ht.2.2 y hy).2.2.2; omega⟩) s.length 0 k (rank (tot s) part o) (by omega) (by omega) (by omega) hr.1 (by rw [List.drop_zero]; exact hr.2) (by omega)
              rw [List.drop_zero] at hq
              rw [if_neg c5, if_neg (show ¬ tot s = 0 by omega), if_neg (show ¬ o = 0 by omega), if_neg (show ¬ ((s.length : Nat) : Int) = 0 by omega), srank_eq (tot s) part o (by omega) (by omega) (by omega) (by omega) (by omega) (by omega), rrank_eq (tot s) part o (by omega) (by omega) (by omega) (by omega) (by omega) (by omega), Option.bind_some]
              exact hq
  · rw [if_neg c0, if_neg (by omega), if_neg c0, if_neg (fun h => c0 h.1), f1, f2]
    exact ⟨rfl, rfl⟩
end Go.Proofs.Ytgijangnoekbjaa.Sq
