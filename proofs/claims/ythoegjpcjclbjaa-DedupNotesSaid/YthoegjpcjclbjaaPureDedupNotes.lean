/- Behind any batch that is light any rows (their first 30) are those that the document says; what was handed in stays. No condition. -/
import Derived.Test.YthoegjpcjclbjaaPx2
import Derived.Test.YthoegjpcjclbjaaPx3
import Derived.Test.YthoegjpcjclbjaaPx4
import Derived.Test.YthoegjpcjclbjaaPx5
import Derived.Test.YthoegjpcjclbjaaPx7
import Derived.Test.YthoegjpcjclbjaaPx8
import Derived.Test.YthoegjpcjclbjaaPx9
import Derived.Test.YthoegjpcjclbjaaPx10
import Derived.Test.YthoegjpcjclbjaaPx14
import Derived.Test.YthoegjpcjclbjaaPx15
import Derived.Test.YthoegjpcjclbjaaPx16
set_option linter.unusedVariables false
set_option linter.unusedSimpArgs false
namespace Go.Proofs.Ythoegjpcjclbjaa.Bk
open Go.RowKit Go.Proofs.Ythoegjpcjclbjaa.P Go.Proofs.YthoegjpcjclbjaaW.PrintWords Go.Proofs.YthoegjpcjclbjaaW.PrintLast
theorem w64 {x : Int} (h0 : -9223372036854775808 ≤ x) (h1 : x ≤ 9223372036854775807) : wrap64 x = x := by unfold wrap64; omega
def mayR (x : S49) : Bool := decide (0 ≤ x.f0 ∧ x.f0 ≤ 1048576 ∧ 0 ≤ x.f1 ∧ x.f1 ≤ 1099511627776 ∧ (x.f2.size : Int) ≤ 512)
theorem mayR_iff {x : S49} : mayR x = true ↔ (0 ≤ x.f0 ∧ x.f0 ≤ 1048576 ∧ 0 ≤ x.f1 ∧ x.f1 ≤ 1099511627776 ∧ (x.f2.size : Int) ≤ 512) := by unfold mayR; exact decide_eq_true_iff
theorem may_eq (x : S49) : batch_may.f x.f0 x.f1 x.f2 = some (mayR x) := by
  unfold batch_may.f batch_within.f
  rw [Option.bind_some]
  have h2 : ([x.f0, x.f1].any batch_within.p) = decide ((x.f0 < 0 ∨ x.f0 > 1099511627776) ∨ (x.f1 < 0 ∨ x.f1 > 1099511627776)) := by
    rw [Bool.decide_or]
    show (batch_within.p x.f0 || (batch_within.p x.f1 || false)) = _
    rw [Bool.or_false]
    rfl
  rw [h2]
  by_cases c : (x.f0 < 0 ∨ x.f0 > 1099511627776) ∨ (x.f1 < 0 ∨ x.f1 > 1099511627776)
  · rw [decide_eq_true c, if_neg (by decide)]
    refine congrArg some (Bool.eq_false_iff.2 fun h => ?_).symm
    rw [mayR_iff] at h; omega
  · rw [decide_eq_false c, if_pos (show (!false) = true from rfl)]
    by_cases c2 : x.f0 ≤ 1048576
    · rw [if_pos c2]
      refine congrArg some (decide_eq_decide.mpr ⟨fun h => ⟨by omega, by omega, by omega, by omega, h⟩, fun h => h.2.2.2.2⟩)
    · rw [if_neg c2]
      refine congrArg some (Bool.eq_false_iff.2 fun h => ?_).symm
      rw [mayR_iff] at h; omega
theorem rd_at (s : List S49) (j : Nat) (h : j < s.length) : rd_T49 s (j : Int) = s[j] := by
  unfold rd_T49
  rw [Int.toNat_natCast, List.getD_eq_getElem?_getD, List.getElem?_eq_getElem h]
  rfl
/-- What a kind asks of a batch that is good else. -/
def mayK (k p e s : Int) (n : Nat) : Bool :=
  decide ((k = 1 ∧ 0 < n ∧ ((p = 0 ∧ e = 0 ∧ s = 0) ∨ (p > 0 ∧ e > 0))) ∨ (k = 2 ∧ 0 < n ∧ p > 0 ∧ e > 0) ∨ ((k = 3 ∨ k = 4) ∧ n = 0 ∧ p > 0 ∧ e > 0 ∧ s = 0))
def mayH (p e s : Int) : Bool := decide (0 ≤ p ∧ p ≤ 8 ∧ 0 ≤ e ∧ e ≤ 1099511627776 ∧ 0 ≤ s ∧ s ≤ 1099511627776)
def mayB (k p e s : Int) (l : List S49) : Bool := mayH p e s && decide (l.length ≤ 64) && l.all mayR && mayK k p e s l.length
theorem j4_eq (k : Nat) (a b : Bool) (kd p e s : Int) (l : List S49) (c : Bool) (hk : 0 < k) : batch_Check.j4 k a b c kd p e s l = some (if (c && a && decide (l.length = 0) && b && decide (s = 0)) = true then 0 else 1) := by
  obtain ⟨k, rfl⟩ : ∃ m, k = m + 1 := ⟨k - 1, by omega⟩
  rw [batch_Check.j4]
  cases c <;> cases a <;> cases b <;> by_cases h1 : l.length = 0 <;> by_cases h2 : s = 0 <;> simp [h1, h2]
theorem j3_eq (k : Nat) (a n y : Bool) (kd p e s : Int) (l : List S49) (hk : 1 < k) : batch_Check.j3 k a n y kd p e s l = some (if (a && ((decide (kd = 1) && decide (0 < l.length) && (n || y)) || (decide (kd = 2) && decide (0 < l.length) && y) || ((decide (kd = 3) || decide (kd = 4)) && decide (l.length = 0) && y && decide (s = 0)))) = true then 0 else 1) := by
  obtain ⟨k, rfl⟩ : ∃ m, k = m + 1 := ⟨k - 1, by omega⟩
  rw [batch_Check.j3]
  have hl : ((l.length : Int) > 0) = (0 < l.length) := by apply propext; omega
  by_cases k1 : kd = 1
  · subst k1; simp only [hl, if_true]
    cases a <;> cases n <;> cases y <;> by_cases h1 : 0 < l.length <;> simp [h1]
  · by_cases k2 : kd = 2
    · subst k2; simp only [hl]
      cases a <;> cases n <;> cases y <;> by_cases h1 : 0 < l.length <;> simp [h1]
    · rw [if_neg k1, if_neg k2]
      by_cases k3 : kd = 3
      · subst k3; rw [if_pos rfl, j4_eq _ _ _ _ _ _ _ _ _ (by omega)]
        cases a <;> cases y <;> by_cases h1 : l.length = 0 <;> by_cases h2 : s = 0 <;> simp [h1, h2]
      · rw [if_neg k3, j4_eq _ _ _ _ _ _ _ _ _ (by omega)]
        by_cases k4 : kd = 4
        · subst k4
          cases a <;> cases y <;> by_cases h1 : l.length = 0 <;> by_cases h2 : s = 0 <;> simp [h1, h2]
        · have : (kd == 4) = false := by simpa using k4
          rw [this]; simp [k1, k2, k3, k4]
theorem mayK_eq (k p e s : Int) (n : Nat) : mayK k p e s n = ((decide (k = 1) && decide (0 < n) && (decide (p = 0 ∧ e = 0 ∧ s = 0) || decide (p > 0 ∧ e > 0))) || (decide (k = 2) && decide (0 < n) && decide (p > 0 ∧ e > 0)) || ((decide (k = 3) || decide (k = 4)) && decide (n = 0) && decide (p > 0 ∧ e > 0) && decide (s = 0))) := by
  unfold mayK
  simp only [Bool.decide_and, Bool.decide_or, Bool.and_assoc, Bool.or_assoc]
theorem j2_eq (k : Nat) (a n : Bool) (kd p e s : Int) (l : List S49) (hk : 2 < k) : batch_Check.j2 k a n kd p e s l = batch_Check.j3 (k - 1) a n (decide (p > 0 ∧ e > 0)) kd p e s l := by
  obtain ⟨k, rfl⟩ : ∃ m, k = m + 1 := ⟨k - 1, by omega⟩
  rw [batch_Check.j2]
  by_cases h1 : p > 0
  · rw [if_pos h1]; simp [h1]
  · rw [if_neg h1]; simp [h1]
theorem check_l0 (kd p e s : Int) (l : List S49) (hl : l.length ≤ 9223372036854775807) (d : Nat) : ∀ (j k : Nat) (a : Bool), l.length - j = d → j ≤ l.length → d + 5 < k →
    batch_Check.l0 k a l (l.length : Int) (j : Int) kd p e s l = some (if (a && (l.drop j).all mayR && mayK kd p e s l.length) = true then 0 else 1) := by
  induction d with
  | zero =>
    intro j k a hd hj hk
    obtain ⟨k, rfl⟩ : ∃ m, k = m + 1 := ⟨k - 1, by omega⟩
    have hf : (if p = 0 then (if e = 0 then (batch_Check.j2 k a (s == 0) kd p e s l) else (batch_Check.j2 k a false kd p e s l)) else (batch_Check.j2 k a false kd p e s l)) = batch_Check.j2 k a (decide (p = 0 ∧ e = 0 ∧ s = 0)) kd p e s l := by
      by_cases h1 : p = 0
      · rw [if_pos h1]
        by_cases h2 : e = 0
        · rw [if_pos h2]; congr 1; by_cases h3 : s = 0 <;> simp [h1, h2, h3]
        · rw [if_neg h2]; congr 1; simp [h2]
      · rw [if_neg h1]; congr 1; simp [h1]
    rw [batch_Check.l0, if_neg (by omega), hf, j2_eq _ _ _ _ _ _ _ _ (by omega), j3_eq _ _ _ _ _ _ _ _ _ (by omega), ← mayK_eq, List.drop_of_length_le (by omega)]
    simp
  | succ d ih =>
    intro j k a hd hj hk
    obtain ⟨k, rfl⟩ : ∃ m, k = m + 1 := ⟨k - 1, by omega⟩
    have hjl : j < l.length := by omega
    have e1 : wrap64 ((j : Int) + 1) = ((j + 1 : Nat) : Int) := by rw [w64 (by omega) (by omega)]; omega
    rw [batch_Check.l0, if_pos (by omega), if_pos (by omega), if_pos (by omega), rd_at l j hjl, may_eq, Option.bind_some, e1, List.drop_eq_getElem_cons hjl]
    cases a with
    | true =>
      rw [if_pos rfl, ih (j + 1) k _ (by omega) (by omega) (by omega), List.all_cons, Bool.true_and]
    | false =>
      rw [if_neg (by decide), ih (j + 1) k _ (by omega) (by omega) (by omega), Bool.false_and, Bool.false_and, Bool.false_and, Bool.false_and]
theorem check_eq (kd p e s : Int) (l : List S49) (hl : l.length ≤ 9223372036854775807) (k : Nat) (hk : l.length + 7 < k) : batch_Check.f k kd p e s l = some (if mayB kd p e s l = true then 0 else 1) := by
  unfold batch_Check.f batch_within.f
  rw [Option.bind_some]
  have j0 : ∀ a, batch_Check.j0 k a kd p e s l = some (if (a && l.all mayR && mayK kd p e s l.length) = true then 0 else 1) := fun a => by
    obtain ⟨k, rfl⟩ : ∃ m, k = m + 1 := ⟨k - 1, by omega⟩
    rw [batch_Check.j0]
    exact check_l0 kd p e s l hl l.length 0 k a (by omega) (by omega) (by omega)
  rw [j0, j0]
  have h3 : (!([p, e, s].any batch_within.p)) = decide (0 ≤ p ∧ p ≤ 1099511627776 ∧ 0 ≤ e ∧ e ≤ 1099511627776 ∧ 0 ≤ s ∧ s ≤ 1099511627776) := by
    show (!(batch_within.p p || (batch_within.p e || (batch_within.p s || false)))) = _
    rw [Bool.or_false]
    unfold batch_within.p
    rw [← Bool.decide_or, ← Bool.decide_or, ← decide_not]
    exact decide_eq_decide.mpr (by omega)
  rw [h3]
  unfold mayB mayH
  have hlen : decide ((l.length : Int) ≤ 64) = decide (l.length ≤ 64) := decide_eq_decide.mpr (by omega)
  by_cases c : 0 ≤ p ∧ p ≤ 1099511627776 ∧ 0 ≤ e ∧ e ≤ 1099511627776 ∧ 0 ≤ s ∧ s ≤ 1099511627776
  · rw [decide_eq_true c, if_pos rfl, hlen]
    by_cases c2 : p ≤ 8
    · rw [if_pos c2, decide_eq_true (show 0 ≤ p ∧ p ≤ 8 ∧ 0 ≤ e ∧ e ≤ 1099511627776 ∧ 0 ≤ s ∧ s ≤ 1099511627776 by omega), Bool.true_and]
    · rw [if_neg c2, decide_eq_false (show ¬ (0 ≤ p ∧ p ≤ 8 ∧ 0 ≤ e ∧ e ≤ 1099511627776 ∧ 0 ≤ s ∧ s ≤ 1099511627776) by omega), Bool.false_and, Bool.false_and, Bool.false_and, Bool.false_and, Bool.false_and]
  · rw [decide_eq_false c, if_neg (by decide), decide_eq_false (show ¬ (0 ≤ p ∧ p ≤ 8 ∧ 0 ≤ e ∧ e ≤ 1099511627776 ∧ 0 ≤ s ∧ s ≤ 1099511627776) by omega), Bool.false_and, Bool.false_and, Bool.false_and, Bool.false_and, Bool.false_and]
theorem light_l0 (kd p e s : Int) (l : List S49) (hl : l.length ≤ 9223372036854775807) (d : Nat) : ∀ (j k : Nat), l.length - j = d → j ≤ l.length → d < k →
    headgatelaw06_Light.l0 k (j : Int) kd p e s l = some ((l.drop j).all fun x => decide ((x.f2.size : Int) ≤ 1000)) := by
  induction d with
  | zero =>
    intro j k hd hj hk
    obtain ⟨k, rfl⟩ : ∃ m, k = m + 1 := ⟨k - 1, by omega⟩
    rw [headgatelaw06_Light.l0, if_neg (by omega), List.drop_of_length_le (by omega)]
    rfl
  | succ d ih =>
    intro j k hd hj hk
    obtain ⟨k, rfl⟩ : ∃ m, k = m + 1 := ⟨k - 1, by omega⟩
    have hjl : j < l.length := by omega
    have e1 : wrap64 ((j : Int) + 1) = ((j + 1 : Nat) : Int) := by rw [w64 (by omega) (by omega)]; omega
    rw [headgatelaw06_Light.l0, if_pos (by omega), if_pos (by omega), rd_at l j hjl, e1, List.drop_eq_getElem_cons hjl, List.all_cons]
    by_cases c : (l[j].f2.size : Int) > 1000
    · rw [if_pos c, decide_eq_false (by omega)]; rfl
    · rw [if_neg c, ih (j + 1) k (by omega) (by omega) (by omega), decide_eq_true (by omega), Bool.true_and]
def light (l : List S49) : Bool := decide (l.length ≤ 70) && l.all fun x => decide ((x.f2.size : Int) ≤ 1000)
theorem light_eq (kd p e s : Int) (l : List S49) (hl : l.length ≤ 9223372036854775807) (k : Nat) (hk : l.length < k) : headgatelaw06_Light.f k kd p e s l = some (light l) := by
  unfold headgatelaw06_Light.f light
  by_cases c : (l.length : Int) > 70
  · rw [if_pos c, decide_eq_false (by omega)]; rfl
  · rw [if_neg c, decide_eq_true (by omega), Bool.true_and]
    exact light_l0 kd p e s l hl l.length 0 k (by omega) (by omega) hk
end Go.Proofs.Ythoegjpcjclbjaa.Bk
set_option linter.unusedVariables false
set_option linter.unusedSimpArgs false
namespace Go.Proofs.Ythoegjpcjclbjaa.Dd
open Go.RowKit Go.Proofs.Ythoegjpcjclbjaa.Bk Go.Proofs.Ythoegjpcjclbjaa.P Go.Proofs.YthoegjpcjclbjaaW.PrintWords Go.Proofs.YthoegjpcjclbjaaW.PrintLast
theorem rd44_at (s : List S44) (j : Nat) (h : j < s.length) : rd_T44 s (j : Int) = s[j] := by
  simp [rd_T44, List.getD_eq_getElem?_getD, List.getElem?_eq_getElem h]
/-- The first place at which p holds. -/
def fi (p : S44 → Bool) : List S44 → Option Nat
  | [] => none
  | x :: l => if p x = true then some 0 else (fi p l).map (· + 1)
theorem idx_fi (p : S44 → Bool) : ∀ (l : List S44) (i : Nat), idxB44 p l i = match fi p l with
    | some j => ((i + j : Nat) : Int)
    | none => -1
  | [], i => rfl
  | x :: l, i => by
    unfold idxB44 fi
    by_cases c : p x = true
    · rw [if_pos c, if_pos c]; rfl
    · rw [if_neg c, if_neg c, idx_fi p l (i + 1)]
      cases fi p l with
      | none => rfl
      | some j =>
        show ((i + 1 + j : Nat) : Int) = ((i + (j + 1) : Nat) : Int)
        congr 1; omega
theorem fi_some {p : S44 → Bool} : ∀ {l : List S44} {j : Nat}, fi p l = some j → ∃ h : j < l.length, p l[j] = true ∧ l.find? p = some l[j]
  | [], j, h => by cases h
  | x :: l, j, h => by
    unfold fi at h
    by_cases c : p x = true
    · rw [if_pos c] at h
      injection h with h
      subst h
      exact ⟨by simp, c, by rw [List.find?_cons, c]; rfl⟩
    · rw [if_neg c] at h
      obtain ⟨i, hi, rfl⟩ := Option.map_eq_some_iff.1 h
      obtain ⟨h1, h2, h3⟩ := fi_some hi
      exact ⟨by simpa using h1, by simpa using h2, by rw [List.find?_cons, Bool.eq_false_iff.2 c]; simpa using h3⟩
theorem fi_none {p : S44 → Bool} : ∀ {l : List S44}, fi p l = none → l.find? p = none
  | [], h => rfl
  | x :: l, h => by
    unfold fi at h
    by_cases c : p x = true
    · rw [if_pos c] at h; cases h
    · rw [if_neg c] at h
      rw [List.find?_cons, Bool.eq_false_iff.2 c]
      exact fi_none (Option.map_eq_none_iff.1 h)
/-- A producer's row. -/
def rowOf (l : List S44) (pid : Int) : S44 := (l.find? fun x => x.f0 == pid).getD ⟨pid, 0, 0, 0, 0⟩
theorem find_is (l : List S44) (pid : Int) : (∃ j : Nat, fi (fun x => x.f0 == pid) l = some j ∧ dedup_find.v l pid = ((j : Int), true)) ∨
    (fi (fun x => x.f0 == pid) l = none ∧ ∃ j : Nat, j ≤ l.length ∧ dedup_find.v l pid = ((j : Int), false) ∧ (fi (fun x => decide (pid < x.f0)) l = some j ∨ (fi (fun x => decide (pid < x.f0)) l = none ∧ j = l.length))) := by
  have h1 := idx_fi (fun x => x.f0 == pid) l 0
  have h2 := idx_fi (fun x => decide (pid < x.f0)) l 0
  unfold dedup_find.v
  rw [h1, h2]
  cases hf : fi (fun x => x.f0 == pid) l with
  | some j =>
    left
    refine ⟨j, rfl, ?_⟩
    simp only [Nat.zero_add]
    rw [if_pos (by omega)]
  | none =>
    right
    refine ⟨rfl, ?_⟩
    simp only
    rw [if_neg (by decide)]
    cases hg : fi (fun x => decide (pid < x.f0)) l with
    | some j =>
      refine ⟨j, Nat.le_of_lt (fi_some hg).1, ?_, .inl rfl⟩
      simp only [Nat.zero_add]
      rw [if_pos (by omega)]
    | none =>
      refine ⟨l.length, Nat.le_refl _, ?_, .inr ⟨rfl, rfl⟩⟩
      simp only
      rw [if_neg (by decide)]
theorem row_found {l : List S44} {pid : Int} {j : Nat} (h : fi (fun x => x.f0 == pid) l = some j) : ∃ hj : j < l.length, rowOf l pid = l[j] ∧ l[j].f0 = pid := by
  obtain ⟨h1, h2, h3⟩ := fi_some h
  refine ⟨h1, ?_, beq_iff_eq.1 h2⟩
  unfold rowOf
  rw [h3]; rfl
theorem row_none {l : List S44} {pid : Int} (h : fi (fun x => x.f0 == pid) l = none) : rowOf l pid = ⟨pid, 0, 0, 0, 0⟩ := by
  unfold rowOf
  rw [fi_none h]; rfl
theorem rrow_l0 (l : List S44) (q : Int) (hl : l.length ≤ 1000) (d : Nat) : ∀ (j k : Nat), l.length - j = d → d < k → headgateref07_Row.l0 k l q (j : Int) = some (match (l.drop j).find? (fun x => x.f0 == q) with | some x => (x.f0, x.f1, x.f2, x.f3, x.f4, true) | none => (q, 0, 0, 0, 0, false)) := by
  induction d with
  | zero =>
    intro j k hd hk
    obtain ⟨k, rfl⟩ : ∃ m, k = m + 1 := ⟨k - 1, by omega⟩
    rw [headgateref07_Row.l0, if_neg (by omega), List.drop_eq_nil_of_le (by omega)]
    rfl
  | succ d ih =>
    intro j k hd hk
    obtain ⟨k, rfl⟩ : ∃ m, k = m + 1 := ⟨k - 1, by omega⟩
    have hlt : j < l.length := by omega
    have e1 : wrap64 ((j : Int) + 1) = ((j + 1 : Nat) : Int) := by rw [w64 (by omega) (by omega)]; omega
    rw [headgateref07_Row.l0, if_pos (by omega), if_pos (by omega), rd44_at l j hlt, e1, ih (j + 1) k (by omega) (by omega), List.drop_eq_getElem_cons hlt, List.find?_cons]
    by_cases c : l[j].f0 = q
    · rw [if_pos c, beq_iff_eq.2 c]
    · rw [if_neg c, beq_eq_false_iff_ne.2 c]
theorem rrow_eq (l : List S44) (q : Int) (hl : l.length ≤ 1000) (k : Nat) (hk : l.length < k) : headgateref07_Row.f k l q = some ((rowOf l q).f0, (rowOf l q).f1, (rowOf l q).f2, (rowOf l q).f3, (rowOf l q).f4, (fi (fun x => x.f0 == q) l).isSome) := by
  have h := rrow_l0 l q hl l.length 0 k (by omega) hk
  rw [List.drop_zero] at h
  refine Eq.trans h ?_
  cases hf : fi (fun x => x.f0 == q) l with
  | some j =>
    obtain ⟨h1, h2, h3⟩ := fi_some hf
    rw [h3]
    unfold rowOf
    rw [h3]
    rfl
  | none =>
    have h3 := fi_none hf
    rw [h3]
    unfold rowOf
    rw [h3]
    rfl
/-- What a batch is told, by its producer's row. -/
def lookV (p : S44) (epoch seq : Int) (n : Nat) : Int × Bool × Int :=
  if epoch < p.f1 then (0, false, 8) else if epoch > p.f1 ∨ p.f3 ≤ 0 then (if seq > 0 then (0, false, 7) else (0, false, 0))
  else if seq = p.f2 ∧ (n : Int) = p.f3 then (p.f4, true, 0) else if wrap64 (seq - p.f3) = p.f2 then (0, false, 0) else (0, false, 7)
theorem look_j2 (kd pid e seq : Int) (rs : List S49) (p : S44) (hs : 0 ≤ seq) (k : Nat) (hk : 3 ≤ k) : dedup_Look.j2 k kd pid e seq rs p.f0 p.f1 p.f2 p.f3 p.f4 =
    some (if p.f3 ≤ 0 then (if seq > 0 then (0, false, 7) else (0, false, 0)) else if seq = p.f2 ∧ (rs.length : Int) = p.f3 then (p.f4, true, 0) else if wrap64 (seq - p.f3) = p.f2 then (0, false, 0) else (0, false, 7)) := by
  obtain ⟨k, rfl⟩ : ∃ m, k = m + 3 := ⟨k - 3, by omega⟩
  have hb : ¬ (false = true) := Bool.false_ne_true
  rw [dedup_Look.j2]
  by_cases c1 : p.f3 > 0
  · have r1 : ¬ p.f3 ≤ 0 := by omega
    rw [if_pos c1, if_neg r1]
    have fin : ∀ b, b = false → dedup_Look.j3 (k + 2) b kd pid e seq rs p.f0 p.f1 p.f2 p.f3 p.f4 = some (if wrap64 (seq - p.f3) = p.f2 then (0, false, 0) else (0, false, 7)) := fun b hb2 => by
      rw [hb2, dedup_Look.j3, if_neg hb, if_pos c1, dedup_Look.j4]
      by_cases c3 : wrap64 (seq - p.f3) = p.f2
      · rw [beq_iff_eq.2 c3, if_pos rfl, if_pos c3]
      · rw [beq_eq_false_iff_ne.2 c3, if_neg hb, if_neg r1, if_neg c3]
    by_cases c2 : seq = p.f2
    · rw [if_pos c2]
      by_cases c4 : (rs.length : Int) = p.f3
      · rw [beq_iff_eq.2 c4, if_pos ⟨c2, c4⟩, dedup_Look.j3, if_pos rfl]
      · rw [if_neg (fun h => c4 h.2), fin _ (beq_eq_false_iff_ne.2 c4)]
    · rw [if_neg c2, if_neg (fun h => c2 h.1), fin _ rfl]
  · rw [if_neg c1, if_pos (show p.f3 ≤ 0 by omega), dedup_Look.j3, if_neg hb, if_neg c1, dedup_Look.j4, if_neg hb, if_pos (show p.f3 ≤ 0 by omega)]
    by_cases c2 : seq = 0
    · rw [if_pos c2, if_neg (by omega)]
    · rw [if_neg c2, if_pos (by omega)]
theorem look_j1 (kd pid e seq : Int) (rs : List S49) (p : S44) (hs : 0 ≤ seq) (k : Nat) (hk : 4 ≤ k) : dedup_Look.j1 k kd pid e seq rs p.f0 p.f1 p.f2 p.f3 p.f4 = some (lookV p e seq rs.length) := by
  obtain ⟨k, rfl⟩ : ∃ m, k = m + 1 := ⟨k - 1, by omega⟩
  rw [dedup_Look.j1]
  unfold lookV
  by_cases c1 : e < p.f1
  · rw [if_pos c1, if_pos c1]
  · rw [if_neg c1, if_neg c1]
    by_cases c2 : e > p.f1
    · have h := look_j2 kd pid e seq rs ⟨pid, e, 0, 0, 0⟩ hs k (by omega)
      dsimp only at h
      rw [if_pos c2, if_pos (show e > p.f1 ∨ p.f3 ≤ 0 from .inl c2), h, if_pos (Int.le_refl 0)]
    · have h := look_j2 kd pid e seq rs p hs k (by omega)
      rw [if_neg c2, h]
      by_cases c3 : p.f3 ≤ 0
      · rw [if_pos c3, if_pos (show e > p.f1 ∨ p.f3 ≤ 0 from .inr c3)]
      · rw [if_neg c3, if_neg (show ¬ (e > p.f1 ∨ p.f3 ≤ 0) from fun h => h.elim c2 c3)]
def lookA (l : List S44) (kd pid e seq : Int) (rs : List S49) : Int × Bool × Int :=
  if mayB kd pid e seq rs = true ∧ kd ≤ 2 then (if pid = 0 then (0, false, 0) else lookV (rowOf l pid) e seq rs.length) else (0, false, 1)
theorem mayB_seq {kd pid e seq : Int} {rs : List S49} (h : mayB kd pid e seq rs = true) : 0 ≤ seq ∧ 0 ≤ pid ∧ pid ≤ 8 ∧ 0 ≤ e ∧ e ≤ 1099511627776 ∧ seq ≤ 1099511627776 ∧ rs.length ≤ 64 := by
  unfold mayB at h
  simp only [Bool.and_eq_true, mayH, decide_eq_true_eq] at h
  omega
theorem look_eq (l : List S44) (hl : l.length ≤ 1000) (kd pid e seq : Int) (rs : List S49) (hr : rs.length ≤ 9223372036854775807) (k : Nat) (hk : rs.length + 20 < k) : dedup_Look.f k l kd pid e seq rs = some (lookA l kd pid e seq rs) := by
  obtain ⟨k, rfl⟩ : ∃ m, k = m + 1 := ⟨k - 1, by omega⟩
  unfold dedup_Look.f lookA
  rw [check_eq kd pid e seq rs hr _ (by omega), Option.bind_some]
  by_cases c : mayB kd pid e seq rs = true
  · have hs := (mayB_seq c).1
    rw [if_pos c, if_pos rfl]
    by_cases c2 : kd > 2
    · rw [decide_eq_true c2, dedup_Look.j0, if_pos rfl, if_neg (by omega)]
    · rw [decide_eq_false c2, dedup_Look.j0, if_neg Bool.false_ne_true, if_pos (show mayB kd pid e seq rs = true ∧ kd ≤ 2 from ⟨c, by omega⟩)]
      by_cases c3 : pid = 0
      · rw [if_pos c3, if_pos c3]
      · have hf : dedup_find.f l pid = some (dedup_find.v l pid) := rfl
        rw [if_neg c3, if_neg c3, hf, Option.bind_some]
        rcases find_is l pid with ⟨j, h1, h2⟩ | ⟨h1, j, h2, h3, _⟩
        · obtain ⟨hj, h4, h5⟩ := row_found h1
          rw [h2]
          dsimp only
          rw [if_pos rfl, if_pos (by omega), if_pos (by omega), rd44_at l j hj, h4]
          exact look_j1 kd pid e seq rs _ hs k (by omega)
        · rw [h3]
          dsimp only
          rw [if_neg Bool.false_ne_true, row_none h1]
          exact look_j1 kd pid e seq rs ⟨pid, 0, 0, 0, 0⟩ hs k (by omega)
  · rw [if_neg c, if_neg (by decide), dedup_Look.j0, if_pos rfl, if_neg (fun h => c h.1)]
/-- A row in its place, as the reference puts it. -/
def putT (y : S44) (is : Bool) : Bool → List S44 → List S44
  | done, [] => if done = true then [] else [y]
  | done, x :: l => if is = true ∧ done = false ∧ x.f0 = y.f0 then y :: putT y is true l else if is = false ∧ done = false ∧ x.f0 > y.f0 then y :: x :: putT y is true l else x :: putT y is done l
theorem putT_done (y : S44) (is : Bool) : ∀ l, putT y is true l = l
  | [] => rfl
  | x :: l => by
    unfold putT
    rw [if_neg (fun h => by cases h.2.1), if_neg (fun h => by cases h.2.1), putT_done y is l]
theorem put_found (y : S44) : ∀ (l : List S44) (j : Nat), fi (fun x => x.f0 == y.f0) l = some j → putT y true false l = l.set j y
  | [], j, h => by cases h
  | x :: l, j, h => by
    unfold fi at h
    unfold putT
    by_cases c : x.f0 = y.f0
    · rw [if_pos (by simpa using c)] at h
      injection h with h
      subst h
      rw [if_pos ⟨rfl, rfl, c⟩, putT_done]
      rfl
    · rw [if_neg (by simpa using c)] at h
      obtain ⟨i, hi, rfl⟩ := Option.map_eq_some_iff.1 h
      rw [if_neg (fun h => c h.2.2), if_neg (fun h => by cases h.1), put_found y l i hi]
      rfl
theorem put_new (y : S44) : ∀ (l : List S44) (j : Nat), (fi (fun x => decide (y.f0 < x.f0)) l = some j ∨ (fi (fun x => decide (y.f0 < x.f0)) l = none ∧ j = l.length)) → putT y false false l = l.take j ++ y :: l.drop j
  | [], j, h => by
    rcases h with h | ⟨_, h⟩
    · cases h
    · subst h; rfl
  | x :: l, j, h => by
    unfold fi at h
    unfold putT
    by_cases c : y.f0 < x.f0
    · rw [if_pos (by simpa using c)] at h
      rcases h with h | ⟨h, _⟩
      · injection h with h
        subst h
        rw [if_neg (fun h => by cases h.1), if_pos ⟨rfl, rfl, c⟩, putT_done]
        rfl
      · cases h
    · rw [if_neg (by simpa using c)] at h
      rw [if_neg (fun h => by cases h.1), if_neg (fun h => c h.2.2)]
      rcases h with h | ⟨h, h2⟩
      · obtain ⟨i, hi, rfl⟩ := Option.map_eq_some_iff.1 h
        rw [put_new y l i (.inl hi)]
        rfl
      · rw [put_new y l l.length (.inr ⟨Option.map_eq_none_iff.1 h, rfl⟩), h2]
        rfl
theorem rput_l0 (l : List S44) (hl : l.length ≤ 1000) (y : S44) (is : Bool) (d : Nat) : ∀ (j k : Nat) (acc : List S44) (done : Bool), l.length - j = d → j ≤ l.length → 2 * d + 1 < k → acc.length ≤ j + 1 ∧ (done = false → acc.length ≤ j) →
    headgateref07_Put.l0 k l is acc done (j : Int) y.f0 y.f1 y.f2 y.f3 y.f4 = some (acc ++ putT y is done (l.drop j)) := by
  have hb : ¬ (false = true) := Bool.false_ne_true
  induction d with
  | zero =>
    intro j k acc done hd hj hk ⟨ha, ha0⟩
    obtain ⟨k, rfl⟩ : ∃ m, k = m + 1 := ⟨k - 1, by omega⟩
    rw [headgateref07_Put.l0, if_neg (by omega), List.drop_eq_nil_of_le (by omega)]
    cases done with
    | true => rw [if_pos rfl, putT, if_pos rfl, List.append_nil]
    | false => rw [if_neg hb, if_pos (by omega), putT, if_neg hb]
  | succ d ih =>
    intro j k acc done hd hj hk ⟨ha, ha0⟩
    obtain ⟨k, rfl⟩ : ∃ m, k = m + 2 := ⟨k - 2, by omega⟩
    have hlt : j < l.length := by omega
    have q1 : (j : Int) < (l.length : Int) := by omega
    have q0 : (0 : Int) ≤ (j : Int) := by omega
    have q2 : acc.length < 3518437208883 := by omega
    have q3 : acc.length + 1 < 3518437208883 := by omega
    have e1 : wrap64 ((j : Int) + 1) = ((j + 1 : Nat) : Int) := by rw [w64 (by omega) (by omega)]; omega
    have hd' : l.drop j = l[j] :: l.drop (j + 1) := List.drop_eq_getElem_cons hlt
    have hst : (⟨l[j].f0, l[j].f1, l[j].f2, l[j].f3, l[j].f4⟩ : S44) = l[j] := rfl
    have go : ∀ (acc2 : List S44) (done2 : Bool), (acc2.length ≤ j + 2 ∧ (done2 = false → acc2.length ≤ j + 1)) → headgateref07_Put.l0 k l is acc2 done2 ((j + 1 : Nat) : Int) y.f0 y.f1 y.f2 y.f3 y.f4 = some (acc2 ++ putT y is done2 (l.drop (j + 1))) := fun acc2 done2 h => ih (j + 1) k acc2 done2 (by omega) (by omega) (by omega) h
    rw [headgateref07_Put.l0, if_pos q1, hd', putT]
    cases is with
    | true =>
      rw [if_pos rfl]
      cases done with
      | true =>
        rw [if_pos rfl, headgateref07_Put.j1, if_neg hb, if_pos rfl, if_pos q0, if_pos q1, if_pos q2, rd44_at l j hlt, e1, hst, go _ _ ⟨by rw [List.length_append]; simp; omega, fun h => by cases h⟩, if_neg (fun h => by cases h.2.1), if_neg (fun h => by cases h.1), List.append_assoc]
        rfl
      | false =>
        rw [if_neg hb, if_pos q0, rd44_at l j hlt, headgateref07_Put.j1]
        by_cases c : l[j].f0 = y.f0
        · rw [beq_iff_eq.2 c, if_pos rfl, if_pos q2, e1, go _ _ ⟨by rw [List.length_append]; simp; omega, fun h => by cases h⟩, if_pos ⟨rfl, rfl, c⟩, List.append_assoc]
          rfl
        · rw [beq_eq_false_iff_ne.2 c, if_neg hb, if_pos rfl, if_pos q0, if_pos q1, if_pos q2, rd44_at l j hlt, e1, hst, go _ _ ⟨by rw [List.length_append]; simp; omega, fun _ => by have := ha0 rfl; rw [List.length_append]; simp; omega⟩, if_neg (fun h => c h.2.2), if_neg (fun h => by cases h.1), List.append_assoc]
          rfl
    | false =>
      rw [if_neg hb, headgateref07_Put.j1, if_neg hb, if_neg hb]
      cases done with
      | true =>
        rw [if_pos rfl, if_pos q0, if_pos q1, if_pos q2, rd44_at l j hlt, e1, hst, go _ _ ⟨by rw [List.length_append]; simp; omega, fun h => by cases h⟩, if_neg (fun h => by cases h.1), if_neg (fun h => by cases h.2.1), List.append_assoc]
        rfl
      | false =>
        rw [if_neg hb, if_pos q0, if_pos q1, rd44_at l j hlt]
        by_cases c : l[j].f0 > y.f0
        · rw [if_pos c, if_pos q2, Option.bind_some, if_pos (by rw [List.length_append]; exact q3), e1, hst, go _ _ ⟨by have := ha0 rfl; rw [List.length_append, List.length_append]; simp; omega, fun h => by cases h⟩, if_neg (fun h => by cases h.1), if_pos ⟨rfl, rfl, c⟩, List.append_assoc, List.append_assoc]
          rfl
        · rw [if_neg c, if_pos q2, e1, hst, go _ _ ⟨by rw [List.length_append]; simp; omega, fun _ => by have := ha0 rfl; rw [List.length_append]; simp; omega⟩, if_neg (fun h => by cases h.1), if_neg (fun h => c h.2.2), List.append_assoc]
          rfl
theorem rput_eq (l : List S44) (hl : l.length ≤ 1000) (y : S44) (k : Nat) (hk : 2 * l.length + 10 < k) : headgateref07_Put.f k l y.f0 y.f1 y.f2 y.f3 y.f4 = some (putT y (fi (fun x => x.f0 == y.f0) l).isSome false l) := by
  unfold headgateref07_Put.f
  rw [rrow_eq l y.f0 hl k (by omega), Option.bind_some]
  have := rput_l0 l hl y (fi (fun x => x.f0 == y.f0) l).isSome l.length 0 k [] false (by omega) (by omega) (by omega) ⟨by simp, fun _ => by simp⟩
  exact this
/-- What stands behind a batch. -/
def noteA (l : List S44) (kd pid e seq : Int) (n : Nat) (base : Int) : List S44 := dedup_Note.v l kd pid e seq n base
theorem note_eq (l : List S44) (hl : l.length ≤ 1000) (kd pid e seq : Int) (rs : List S49) (base : Int) : dedup_Note.f l kd pid e seq rs base = some (noteA l kd pid e seq rs.length base) := by
  unfold dedup_Note.f noteA
  rcases find_is l pid with ⟨j, h1, h2⟩ | ⟨h1, j, h2, h3, _⟩
  · obtain ⟨hj, h4, h5⟩ := row_found h1
    rw [h2]
    exact if_pos ⟨by omega, by dsimp only; omega, by dsimp only; omega, fun _ => by dsimp only; omega⟩
  · rw [h3]
    exact if_pos ⟨by omega, by dsimp only; omega, by dsimp only; omega, fun h => by cases h⟩
theorem rnote_eq (l : List S44) (hl : l.length ≤ 1000) (kd pid e seq : Int) (rs : List S49) (base : Int) (k : Nat) (hk : 2 * l.length + 20 < k) : headgateref07_Note.f k l kd pid e seq rs base = some (noteA l kd pid e seq rs.length base) := by
  unfold headgateref07_Note.f noteA dedup_Note.v
  by_cases c : pid = 0
  · rw [if_pos c, if_pos c]
  · rw [if_neg c, if_neg c]
    have put : ∀ y : S44, y.f0 = pid → headgateref07_Put.f k l pid y.f1 y.f2 y.f3 y.f4 = some (if (dedup_find.v l pid).2 = true then l.set (dedup_find.v l pid).1.toNat y else l.take (dedup_find.v l pid).1.toNat ++ y :: l.drop (dedup_find.v l pid).1.toNat) := by
      intro y hy
      have h := rput_eq l hl y k (by omega)
      rw [hy] at h
      rw [h]
      rcases find_is l pid with ⟨j, h1, h2⟩ | ⟨h1, j, h2, h3, h4⟩
      · rw [h2, h1]
        dsimp only
        rw [if_pos rfl, Int.toNat_natCast]
        exact congrArg some (put_found y l j (by rw [hy]; exact h1))
      · rw [h3, h1]
        dsimp only
        rw [if_neg Bool.false_ne_true, Int.toNat_natCast]
        exact congrArg some (put_new y l j (by rw [hy]; exact h4))
    by_cases c2 : kd ≤ 2
    · have hp := put ⟨pid, e, seq, (rs.length : Int), base⟩ rfl
      dsimp only at hp
      have hrow : dedup_Note.row kd pid e seq rs.length base = ⟨pid, e, seq, (rs.length : Int), base⟩ := if_neg (by omega)
      rw [if_pos c2, hp, Option.bind_some, hrow]
      by_cases c3 : (dedup_find.v l pid).2 = true
      · rw [if_pos c3, if_pos c3, if_neg (by omega)]
      · rw [if_neg c3, if_neg c3]
    · have hp := put ⟨pid, e, 0, 0, base⟩ rfl
      dsimp only at hp
      have hrow : dedup_Note.row kd pid e seq rs.length base = ⟨pid, e, 0, 0, base⟩ := if_pos (by omega)
      rw [if_neg c2, rrow_eq l pid hl k (by omega), Option.bind_some, hrow]
      dsimp only
      rcases find_is l pid with ⟨j, h1, h2⟩ | ⟨h1, j, h2, h3, h4⟩
      · obtain ⟨hj, h5, h6⟩ := row_found h1
        rw [h2] at hp ⊢
        rw [h1]
        dsimp only at hp ⊢
        rw [if_pos rfl] at hp ⊢
        rw [if_pos (show (some j).isSome = true from rfl), rd44_at l j hj, ← h5]
        by_cases c4 : (rowOf l pid).f1 ≥ e
        · rw [if_pos c4, if_pos ⟨by omega, c4⟩]
        · rw [if_neg c4, if_neg (fun h => c4 h.2), hp, Option.bind_some]
      · rw [h3] at hp ⊢
        rw [h1]
        dsimp only at hp ⊢
        rw [if_neg Bool.false_ne_true] at hp ⊢
        rw [if_neg (show ¬ ((none : Option Nat).isSome = true) by decide), hp, Option.bind_some]
theorem noteA_len (l : List S44) (kd pid e seq : Int) (n : Nat) (base : Int) : (noteA l kd pid e seq n base).length ≤ l.length + 1 := by
  unfold noteA dedup_Note.v
  split
  · omega
  · split
    · split
      · omega
      · rw [List.length_set]; omega
    · rw [List.length_append, List.length_cons, List.length_take, List.length_drop]; omega
theorem same_l0 (l : List S44) (hl : l.length ≤ 1000) (d : Nat) : ∀ (j k : Nat), l.length - j = d → d < k → headgateref07_Same.l0 k l l (j : Int) = some true := by
  induction d with
  | zero =>
    intro j k hd hk
    obtain ⟨k, rfl⟩ : ∃ m, k = m + 1 := ⟨k - 1, by omega⟩
    rw [headgateref07_Same.l0, if_neg (by omega)]
  | succ d ih =>
    intro j k hd hk
    obtain ⟨k, rfl⟩ : ∃ m, k = m + 1 := ⟨k - 1, by omega⟩
    have e1 : wrap64 ((j : Int) + 1) = ((j + 1 : Nat) : Int) := by rw [w64 (by omega) (by omega)]; omega
    rw [headgateref07_Same.l0, if_pos (by omega), if_pos (by omega), if_pos (by omega), if_neg (by simp), e1, ih (j + 1) k (by omega) (by omega)]
theorem same_self (l : List S44) (hl : l.length ≤ 1000) (k : Nat) (hk : l.length < k) : headgateref07_Same.f k l l = some true := by
  unfold headgateref07_Same.f
  rw [if_pos rfl]
  have := same_l0 l hl l.length 0 k (by omega) hk
  exact this
theorem rows_eq (l : List S44) : headgatelaw07_rows.f l = some (l.take 30) := by
  unfold headgatelaw07_rows.f
  by_cases h : (l.length : Int) > 30
  · rw [if_pos h, if_pos (by omega)]
  · rw [if_neg h, List.take_of_length_le (by omega)]
theorem of_eq (e s : Int) (n : Nat) (hn : n ≤ 100) : headgatelaw07_of.f e s (n : Int) = some (1, 1, e, s, List.replicate n z49) := by
  unfold headgatelaw07_of.f
  rw [if_pos (by omega), Int.toNat_natCast, if_pos (by omega)]
theorem awake_eq (k : Nat) (hk : 200 ≤ k) : headgatelaw07_awake.f k = some true := by
  unfold headgatelaw07_awake.f
  have o1 : headgatelaw07_of.f 2 0 3 = some (1, 1, 2, 0, List.replicate 3 z49) := of_eq 2 0 3 (by omega)
  have o2 : headgatelaw07_of.f 2 3 1 = some (1, 1, 2, 3, List.replicate 1 z49) := of_eq 2 3 1 (by omega)
  have o3 : headgatelaw07_of.f 2 4 1 = some (1, 1, 2, 4, List.replicate 1 z49) := of_eq 2 4 1 (by omega)
  have o4 : headgatelaw07_of.f 1 3 1 = some (1, 1, 1, 3, List.replicate 1 z49) := of_eq 1 3 1 (by omega)
  have hl : ([(⟨1, 2, 0, 3, 7⟩ : S44)] : List S44).length ≤ 1000 := by decide
  have r1 : lookA [⟨1, 2, 0, 3, 7⟩] 1 1 2 0 (List.replicate 3 z49) = (7, true, 0) := by rfl
  have r2 : lookA [⟨1, 2, 0, 3, 7⟩] 1 1 2 3 (List.replicate 1 z49) = (0, false, 0) := by
    show lookV ⟨1, 2, 0, 3, 7⟩ 2 3 1 = (0, false, 0)
    unfold lookV
    rw [if_neg (by decide), if_neg (by decide), if_neg (by decide), w64 (by decide) (by decide)]
    rfl
  have r3 : lookA [⟨1, 2, 0, 3, 7⟩] 1 1 2 4 (List.replicate 1 z49) = (0, false, 7) := by
    show lookV ⟨1, 2, 0, 3, 7⟩ 2 4 1 = (0, false, 7)
    unfold lookV
    rw [if_neg (by decide), if_neg (by decide), if_neg (by decide), w64 (by decide) (by decide)]
    rfl
  have r4 : lookA [⟨1, 2, 0, 3, 7⟩] 1 1 1 3 (List.replicate 1 z49) = (0, false, 8) := by rfl
  have n1 : noteA [] 1 1 2 0 (List.replicate 3 z49).length 7 = [⟨1, 2, 0, 3, 7⟩] := by rfl
  rw [Option.bind_some, o1, Option.bind_some]
  dsimp only
  rw [look_eq _ hl _ _ _ _ _ (by simp) k (by simp; omega), r1, Option.bind_some, o2, Option.bind_some]
  dsimp only
  rw [look_eq _ hl _ _ _ _ _ (by simp) k (by simp; omega), r2, Option.bind_some, o3, Option.bind_some]
  dsimp only
  rw [look_eq _ hl _ _ _ _ _ (by simp) k (by simp; omega), r3, Option.bind_some, o4, Option.bind_some]
  dsimp only
  rw [look_eq _ hl _ _ _ _ _ (by simp) k (by simp; omega), r4, Option.bind_some, Option.bind_some]
  dsimp only
  rw [note_eq [] (by simp), n1, Option.bind_some, if_pos rfl, if_pos rfl, if_pos rfl, if_neg Bool.false_ne_true, if_pos rfl, if_pos rfl, if_pos rfl, same_self _ hl k (by simp; omega), Option.bind_some]
end Go.Proofs.Ythoegjpcjclbjaa.Dd
set_option linter.unusedVariables false
namespace Go.Proofs.Ythoegjpcjclbjaa.Pure
open Go.RowKit Go.Proofs.Ythoegjpcjclbjaa.Bk Go.Proofs.Ythoegjpcjclbjaa.Dd Go.Proofs.Ythoegjpcjclbjaa.P Go.Proofs.YthoegjpcjclbjaaW.PrintWords Go.Proofs.YthoegjpcjclbjaaW.PrintLast
theorem DedupNotes : headgatelaw07_DedupNotes.Pure := by
  intro l kd pid e seq rs base hl h1 h2 h3 h4 hr hb
  refine ⟨rs.length + 500, ?_⟩
  have hn : (l.take 30).length ≤ 30 := by rw [List.length_take]; omega
  unfold headgatelaw07_DedupNotes.f
  rw [light_eq kd pid e seq rs hr.1 _ (by omega), Option.bind_some]
  by_cases c : light rs = true
  · have hq := noteA_len (l.take 30) kd pid e seq rs.length base
    rw [if_pos c, rows_eq, Option.bind_some, if_pos (by simp; omega), Option.bind_some, List.nil_append, note_eq _ (by omega), Option.bind_some, rnote_eq _ (by omega) _ _ _ _ _ _ _ (by omega), Option.bind_some, same_self _ (by omega) _ (by omega), Option.bind_some, if_pos rfl, same_self _ (by omega) _ (by omega), Option.bind_some, if_pos rfl, awake_eq _ (by omega), Option.bind_some]
  · rw [if_neg c, awake_eq _ (by omega), Option.bind_some]
end Go.Proofs.Ythoegjpcjclbjaa.Pure
