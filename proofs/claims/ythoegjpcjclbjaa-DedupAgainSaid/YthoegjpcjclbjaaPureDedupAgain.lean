/- Whatever was sent: the last batch of a producer that was let in is known when it comes once more, and the next one is let in. No condition. -/
import Derived.Test.YthoegjpcjclbjaaPx2
import Derived.Test.YthoegjpcjclbjaaPx3
import Derived.Test.YthoegjpcjclbjaaPx4
import Derived.Test.YthoegjpcjclbjaaPx5
import Derived.Test.YthoegjpcjclbjaaPx7
import Derived.Test.YthoegjpcjclbjaaPx8
import Derived.Test.YthoegjpcjclbjaaPx9
import Derived.Test.YthoegjpcjclbjaaPx10
import Derived.Test.YthoegjpcjclbjaaPx11
import Derived.Test.YthoegjpcjclbjaaPx12
set_option linter.unusedVariables false
set_option linter.unusedSimpArgs false
namespace Go.Proofs.Ythoegjpcjclbjaa.Bk
open Go.RowKit Go.Proofs.Ythoegjpcjclbjaa.P Go.Proofs.YthoegjpcjclbjaaW.PrintWords Go.Proofs.YthoegjpcjclbjaaW.PrintLast
theorem w64 {x : Int} (h0 : -9223372036854775808 ≤ x) (h1 : x ≤ 9223372036854775807) : wrap64 x = x := by unfold wrap64; omega
def mayR (x : S49) : Bool := decide (0 ≤ x.f0 ∧ x.f0 ≤ 1048576 ∧ 0 ≤ x.f1 ∧ x.f1 ≤ 1099511627776 ∧ (x.f2.size : Int) ≤ 512)
theorem mayR_iff {x : S49} : mayR x = true ↔ (0 ≤ x.f0 ∧ x.f0 ≤ 1048576 ∧ 0 ≤ x.f1 ∧ x.f1 ≤ 1099511627776 ∧ (x.f2.size : Int) ≤ 512) := by unfold mayR; exact decide_eq_true_iff
theorem may_eq (x : S49) : batch_may.f x.f0 x.f1 x.f2 = some (mayR x) := by
  unfold batch_may.f batch_within.f
  rw [Option.bind_some]
  have h2 : ([x.f0, x.f1].any batch_within.p) = decide ((x.f0 < 0 ∨ x.f0 > 1099511627776) ∨ (x.f1 < 0 ∨ x.f1 > 1099511627776)) := by
    rw [Bool.decide_or]
    show (batch_within.p x.f0 || (batch_within.p x.f1 || false)) = _
    rw [Bool.or_false]
    rfl
  rw [h2]
  by_cases c : (x.f0 < 0 ∨ x.f0 > 1099511627776) ∨ (x.f1 < 0 ∨ x.f1 > 1099511627776)
  · rw [decide_eq_true c, if_neg (by decide)]
    refine congrArg some (Bool.eq_false_iff.2 fun h => ?_).symm
    rw [mayR_iff] at h; omega
  · rw [decide_eq_false c, if_pos (show (!false) = true from rfl)]
    by_cases c2 : x.f0 ≤ 1048576
    · rw [if_pos c2]
      refine congrArg some (decide_eq_decide.mpr ⟨fun h => ⟨by omega, by omega, by omega, by omega, h⟩, fun h => h.2.2.2.2⟩)
    · rw [if_neg c2]
      refine congrArg some (Bool.eq_false_iff.2 fun h => ?_).symm
      rw [mayR_iff] at h; omega
theorem rd_at (s : List S49) (j : Nat) (h : j < s.length) : rd_T49 s (j : Int) = s[j] := by
  unfold rd_T49
  rw [Int.toNat_natCast, List.getD_eq_getElem?_getD, List.getElem?_eq_getElem h]
  rfl
/-- What a kind asks of a batch that is good else. -/
def mayK (k p e s : Int) (n : Nat) : Bool :=
  decide ((k = 1 ∧ 0 < n ∧ ((p = 0 ∧ e = 0 ∧ s = 0) ∨ (p > 0 ∧ e > 0))) ∨ (k = 2 ∧ 0 < n ∧ p > 0 ∧ e > 0) ∨ ((k = 3 ∨ k = 4) ∧ n = 0 ∧ p > 0 ∧ e > 0 ∧ s = 0))
def mayH (p e s : Int) : Bool := decide (0 ≤ p ∧ p ≤ 8 ∧ 0 ≤ e ∧ e ≤ 1099511627776 ∧ 0 ≤ s ∧ s ≤ 1099511627776)
def mayB (k p e s : Int) (l : List S49) : Bool := mayH p e s && decide (l.length ≤ 64) && l.all mayR && mayK k p e s l.length
theorem j4_eq (k : Nat) (a b : Bool) (kd p e s : Int) (l : List S49) (c : Bool) (hk : 0 < k) : batch_Check.j4 k a b c kd p e s l = some (if (c && a && decide (l.length = 0) && b && decide (s = 0)) = true then 0 else 1) := by
  obtain ⟨k, rfl⟩ : ∃ m, k = m + 1 := ⟨k - 1, by omega⟩
  rw [batch_Check.j4]
  cases c <;> cases a <;> cases b <;> by_cases h1 : l.length = 0 <;> by_cases h2 : s = 0 <;> simp [h1, h2]
theorem j3_eq (k : Nat) (a n y : Bool) (kd p e s : Int) (l : List S49) (hk : 1 < k) : batch_Check.j3 k a n y kd p e s l = some (if (a && ((decide (kd = 1) && decide (0 < l.length) && (n || y)) || (decide (kd = 2) && decide (0 < l.length) && y) || ((decide (kd = 3) || decide (kd = 4)) && decide (l.length = 0) && y && decide (s = 0)))) = true then 0 else 1) := by
  obtain ⟨k, rfl⟩ : ∃ m, k = m + 1 := ⟨k - 1, by omega⟩
  rw [batch_Check.j3]
  have hl : ((l.length : Int) > 0) = (0 < l.length) := by apply propext; omega
  by_cases k1 : kd = 1
  · subst k1; simp only [hl, if_true]
    cases a <;> cases n <;> cases y <;> by_cases h1 : 0 < l.length <;> simp [h1]
  · by_cases k2 : kd = 2
    · subst k2; simp only [hl]
      cases a <;> cases n <;> cases y <;> by_cases h1 : 0 < l.length <;> simp [h1]
    · rw [if_neg k1, if_neg k2]
      by_cases k3 : kd = 3
      · subst k3; rw [if_pos rfl, j4_eq _ _ _ _ _ _ _ _ _ (by omega)]
        cases a <;> cases y <;> by_cases h1 : l.length = 0 <;> by_cases h2 : s = 0 <;> simp [h1, h2]
      · rw [if_neg k3, j4_eq _ _ _ _ _ _ _ _ _ (by omega)]
        by_cases k4 : kd = 4
        · subst k4
          cases a <;> cases y <;> by_cases h1 : l.length = 0 <;> by_cases h2 : s = 0 <;> simp [h1, h2]
        · have : (kd == 4) = false := by simpa using k4
          rw [this]; simp [k1, k2, k3, k4]
theorem mayK_eq (k p e s : Int) (n : Nat) : mayK k p e s n = ((decide (k = 1) && decide (0 < n) && (decide (p = 0 ∧ e = 0 ∧ s = 0) || decide (p > 0 ∧ e > 0))) || (decide (k = 2) && decide (0 < n) && decide (p > 0 ∧ e > 0)) || ((decide (k = 3) || decide (k = 4)) && decide (n = 0) && decide (p > 0 ∧ e > 0) && decide (s = 0))) := by
  unfold mayK
  simp only [Bool.decide_and, Bool.decide_or, Bool.and_assoc, Bool.or_assoc]
theorem j2_eq (k : Nat) (a n : Bool) (kd p e s : Int) (l : List S49) (hk : 2 < k) : batch_Check.j2 k a n kd p e s l = batch_Check.j3 (k - 1) a n (decide (p > 0 ∧ e > 0)) kd p e s l := by
  obtain ⟨k, rfl⟩ : ∃ m, k = m + 1 := ⟨k - 1, by omega⟩
  rw [batch_Check.j2]
  by_cases h1 : p > 0
  · rw [if_pos h1]; simp [h1]
  · rw [if_neg h1]; simp [h1]
theorem check_l0 (kd p e s : Int) (l : List S49) (hl : l.length ≤ 9223372036854775807) (d : Nat) : ∀ (j k : Nat) (a : Bool), l.length - j = d → j ≤ l.length → d + 5 < k →
    batch_Check.l0 k a l (l.length : Int) (j : Int) kd p e s l = some (if (a && (l.drop j).all mayR && mayK kd p e s l.length) = true then 0 else 1) := by
  induction d with
  | zero =>
    intro j k a hd hj hk
    obtain ⟨k, rfl⟩ : ∃ m, k = m + 1 := ⟨k - 1, by omega⟩
    have hf : (if p = 0 then (if e = 0 then (batch_Check.j2 k a (s == 0) kd p e s l) else (batch_Check.j2 k a false kd p e s l)) else (batch_Check.j2 k a false kd p e s l)) = batch_Check.j2 k a (decide (p = 0 ∧ e = 0 ∧ s = 0)) kd p e s l := by
      by_cases h1 : p = 0
      · rw [if_pos h1]
        by_cases h2 : e = 0
        · rw [if_pos h2]; congr 1; by_cases h3 : s = 0 <;> simp [h1, h2, h3]
        · rw [if_neg h2]; congr 1; simp [h2]
      · rw [if_neg h1]; congr 1; simp [h1]
    rw [batch_Check.l0, if_neg (by omega), hf, j2_eq _ _ _ _ _ _ _ _ (by omega), j3_eq _ _ _ _ _ _ _ _ _ (by omega), ← mayK_eq, List.drop_of_length_le (by omega)]
    simp
  | succ d ih =>
    intro j k a hd hj hk
    obtain ⟨k, rfl⟩ : ∃ m, k = m + 1 := ⟨k - 1, by omega⟩
    have hjl : j < l.length := by omega
    have e1 : wrap64 ((j : Int) + 1) = ((j + 1 : Nat) : Int) := by rw [w64 (by omega) (by omega)]; omega
    rw [batch_Check.l0, if_pos (by omega), if_pos (by omega), if_pos (by omega), rd_at l j hjl, may_eq, Option.bind_some, e1, List.drop_eq_getElem_cons hjl]
    cases a with
    | true =>
      rw [if_pos rfl, ih (j + 1) k _ (by omega) (by omega) (by omega), List.all_cons, Bool.true_and]
    | false =>
      rw [if_neg (by decide), ih (j + 1) k _ (by omega) (by omega) (by omega), Bool.false_and, Bool.false_and, Bool.false_and, Bool.false_and]
theorem check_eq (kd p e s : Int) (l : List S49) (hl : l.length ≤ 9223372036854775807) (k : Nat) (hk : l.length + 7 < k) : batch_Check.f k kd p e s l = some (if mayB kd p e s l = true then 0 else 1) := by
  unfold batch_Check.f batch_within.f
  rw [Option.bind_some]
  have j0 : ∀ a, batch_Check.j0 k a kd p e s l = some (if (a && l.all mayR && mayK kd p e s l.length) = true then 0 else 1) := fun a => by
    obtain ⟨k, rfl⟩ : ∃ m, k = m + 1 := ⟨k - 1, by omega⟩
    rw [batch_Check.j0]
    exact check_l0 kd p e s l hl l.length 0 k a (by omega) (by omega) (by omega)
  rw [j0, j0]
  have h3 : (!([p, e, s].any batch_within.p)) = decide (0 ≤ p ∧ p ≤ 1099511627776 ∧ 0 ≤ e ∧ e ≤ 1099511627776 ∧ 0 ≤ s ∧ s ≤ 1099511627776) := by
    show (!(batch_within.p p || (batch_within.p e || (batch_within.p s || false)))) = _
    rw [Bool.or_false]
    unfold batch_within.p
    rw [← Bool.decide_or, ← Bool.decide_or, ← decide_not]
    exact decide_eq_decide.mpr (by omega)
  rw [h3]
  unfold mayB mayH
  have hlen : decide ((l.length : Int) ≤ 64) = decide (l.length ≤ 64) := decide_eq_decide.mpr (by omega)
  by_cases c : 0 ≤ p ∧ p ≤ 1099511627776 ∧ 0 ≤ e ∧ e ≤ 1099511627776 ∧ 0 ≤ s ∧ s ≤ 1099511627776
  · rw [decide_eq_true c, if_pos rfl, hlen]
    by_cases c2 : p ≤ 8
    · rw [if_pos c2, decide_eq_true (show 0 ≤ p ∧ p ≤ 8 ∧ 0 ≤ e ∧ e ≤ 1099511627776 ∧ 0 ≤ s ∧ s ≤ 1099511627776 by omega), Bool.true_and]
    · rw [if_neg c2, decide_eq_false (show ¬ (0 ≤ p ∧ p ≤ 8 ∧ 0 ≤ e ∧ e ≤ 1099511627776 ∧ 0 ≤ s ∧ s ≤ 1099511627776) by omega), Bool.false_and, Bool.false_and, Bool.false_and, Bool.false_and, Bool.false_and]
  · rw [decide_eq_false c, if_neg (by decide), decide_eq_false (show ¬ (0 ≤ p ∧ p ≤ 8 ∧ 0 ≤ e ∧ e ≤ 1099511627776 ∧ 0 ≤ s ∧ s ≤ 1099511627776) by omega), Bool.false_and, Bool.false_and, Bool.false_and, Bool.false_and, Bool.false_and]
theorem light_l0 (kd p e s : Int) (l : List S49) (hl : l.length ≤ 9223372036854775807) (d : Nat) : ∀ (j k : Nat), l.length - j = d → j ≤ l.length → d < k →
    headgatelaw06_Light.l0 k (j : Int) kd p e s l = some ((l.drop j).all fun x => decide ((x.f2.size : Int) ≤ 1000)) := by
  induction d with
  | zero =>
    intro j k hd hj hk
    obtain ⟨k, rfl⟩ : ∃ m, k = m + 1 := ⟨k - 1, by omega⟩
    rw [headgatelaw06_Light.l0, if_neg (by omega), List.drop_of_length_le (by omega)]
    rfl
  | succ d ih =>
    intro j k hd hj hk
    obtain ⟨k, rfl⟩ : ∃ m, k = m + 1 := ⟨k - 1, by omega⟩
    have hjl : j < l.length := by omega
    have e1 : wrap64 ((j : Int) + 1) = ((j + 1 : Nat) : Int) := by rw [w64 (by omega) (by omega)]; omega
    rw [headgatelaw06_Light.l0, if_pos (by omega), if_pos (by omega), rd_at l j hjl, e1, List.drop_eq_getElem_cons hjl, List.all_cons]
    by_cases c : (l[j].f2.size : Int) > 1000
    · rw [if_pos c, decide_eq_false (by omega)]; rfl
    · rw [if_neg c, ih (j + 1) k (by omega) (by omega) (by omega), decide_eq_true (by omega), Bool.true_and]
def light (l : List S49) : Bool := decide (l.length ≤ 70) && l.all fun x => decide ((x.f2.size : Int) ≤ 1000)
theorem light_eq (kd p e s : Int) (l : List S49) (hl : l.length ≤ 9223372036854775807) (k : Nat) (hk : l.length < k) : headgatelaw06_Light.f k kd p e s l = some (light l) := by
  unfold headgatelaw06_Light.f light
  by_cases c : (l.length : Int) > 70
  · rw [if_pos c, decide_eq_false (by omega)]; rfl
  · rw [if_neg c, decide_eq_true (by omega), Bool.true_and]
    exact light_l0 kd p e s l hl l.length 0 k (by omega) (by omega) hk
end Go.Proofs.Ythoegjpcjclbjaa.Bk
set_option linter.unusedVariables false
set_option linter.unusedSimpArgs false
namespace Go.Proofs.Ythoegjpcjclbjaa.Dd
open Go.RowKit Go.Proofs.Ythoegjpcjclbjaa.Bk Go.Proofs.Ythoegjpcjclbjaa.P Go.Proofs.YthoegjpcjclbjaaW.PrintWords Go.Proofs.YthoegjpcjclbjaaW.PrintLast
theorem rd44_at (s : List S44) (j : Nat) (h : j < s.length) : rd_T44 s (j : Int) = s[j] := by
  simp [rd_T44, List.getD_eq_getElem?_getD, List.getElem?_eq_getElem h]
/-- The first place at which p holds. -/
def fi (p : S44 → Bool) : List S44 → Option Nat
  | [] => none
  | x :: l => if p x = true then some 0 else (fi p l).map (· + 1)
theorem idx_fi (p : S44 → Bool) : ∀ (l : List S44) (i : Nat), idxB44 p l i = match fi p l with
    | some j => ((i + j : Nat) : Int)
    | none => -1
  | [], i => rfl
  | x :: l, i => by
    unfold idxB44 fi
    by_cases c : p x = true
    · rw [if_pos c, if_pos c]; rfl
    · rw [if_neg c, if_neg c, idx_fi p l (i + 1)]
      cases fi p l with
      | none => rfl
      | some j =>
        show ((i + 1 + j : Nat) : Int) = ((i + (j + 1) : Nat) : Int)
        congr 1; omega
theorem fi_some {p : S44 → Bool} : ∀ {l : List S44} {j : Nat}, fi p l = some j → ∃ h : j < l.length, p l[j] = true ∧ l.find? p = some l[j]
  | [], j, h => by cases h
  | x :: l, j, h => by
    unfold fi at h
    by_cases c : p x = true
    · rw [if_pos c] at h
      injection h with h
      subst h
      exact ⟨by simp, c, by rw [List.find?_cons, c]; rfl⟩
    · rw [if_neg c] at h
      obtain ⟨i, hi, rfl⟩ := Option.map_eq_some_iff.1 h
      obtain ⟨h1, h2, h3⟩ := fi_some hi
      exact ⟨by simpa using h1, by simpa using h2, by rw [List.find?_cons, Bool.eq_false_iff.2 c]; simpa using h3⟩
theorem fi_none {p : S44 → Bool} : ∀ {l : List S44}, fi p l = none → l.find? p = none
  | [], h => rfl
  | x :: l, h => by
    unfold fi at h
    by_cases c : p x = true
    · rw [if_pos c] at h; cases h
    · rw [if_neg c] at h
      rw [List.find?_cons, Bool.eq_false_iff.2 c]
      exact fi_none (Option.map_eq_none_iff.1 h)
/-- A producer's row. -/
def rowOf (l : List S44) (pid : Int) : S44 := (l.find? fun x => x.f0 == pid).getD ⟨pid, 0, 0, 0, 0⟩
theorem find_is (l : List S44) (pid : Int) : (∃ j : Nat, fi (fun x => x.f0 == pid) l = some j ∧ dedup_find.v l pid = ((j : Int), true)) ∨
    (fi (fun x => x.f0 == pid) l = none ∧ ∃ j : Nat, j ≤ l.length ∧ dedup_find.v l pid = ((j : Int), false) ∧ (fi (fun x => decide (pid < x.f0)) l = some j ∨ (fi (fun x => decide (pid < x.f0)) l = none ∧ j = l.length))) := by
  have h1 := idx_fi (fun x => x.f0 == pid) l 0
  have h2 := idx_fi (fun x => decide (pid < x.f0)) l 0
  unfold dedup_find.v
  rw [h1, h2]
  cases hf : fi (fun x => x.f0 == pid) l with
  | some j =>
    left
    refine ⟨j, rfl, ?_⟩
    simp only [Nat.zero_add]
    rw [if_pos (by omega)]
  | none =>
    right
    refine ⟨rfl, ?_⟩
    simp only
    rw [if_neg (by decide)]
    cases hg : fi (fun x => decide (pid < x.f0)) l with
    | some j =>
      refine ⟨j, Nat.le_of_lt (fi_some hg).1, ?_, .inl rfl⟩
      simp only [Nat.zero_add]
      rw [if_pos (by omega)]
    | none =>
      refine ⟨l.length, Nat.le_refl _, ?_, .inr ⟨rfl, rfl⟩⟩
      simp only
      rw [if_neg (by decide)]
theorem row_found {l : List S44} {pid : Int} {j : Nat} (h : fi (fun x => x.f0 == pid) l = some j) : ∃ hj : j < l.length, rowOf l pid = l[j] ∧ l[j].f0 = pid := by
  obtain ⟨h1, h2, h3⟩ := fi_some h
  refine ⟨h1, ?_, beq_iff_eq.1 h2⟩
  unfold rowOf
  rw [h3]; rfl
theorem row_none {l : List S44} {pid : Int} (h : fi (fun x => x.f0 == pid) l = none) : rowOf l pid = ⟨pid, 0, 0, 0, 0⟩ := by
  unfold rowOf
  rw [fi_none h]; rfl
/-- What a batch is told, by its producer's row. -/
def lookV (p : S44) (epoch seq : Int) (n : Nat) : Int × Bool × Int :=
  if epoch < p.f1 then (0, false, 8) else if epoch > p.f1 ∨ p.f3 ≤ 0 then (if seq > 0 then (0, false, 7) else (0, false, 0))
  else if seq = p.f2 ∧ (n : Int) = p.f3 then (p.f4, true, 0) else if wrap64 (seq - p.f3) = p.f2 then (0, false, 0) else (0, false, 7)
theorem look_j2 (kd pid e seq : Int) (rs : List S49) (p : S44) (hs : 0 ≤ seq) (k : Nat) (hk : 3 ≤ k) : dedup_Look.j2 k kd pid e seq rs p.f0 p.f1 p.f2 p.f3 p.f4 =
    some (if p.f3 ≤ 0 then (if seq > 0 then (0, false, 7) else (0, false, 0)) else if seq = p.f2 ∧ (rs.length : Int) = p.f3 then (p.f4, true, 0) else if wrap64 (seq - p.f3) = p.f2 then (0, false, 0) else (0, false, 7)) := by
  obtain ⟨k, rfl⟩ : ∃ m, k = m + 3 := ⟨k - 3, by omega⟩
  have hb : ¬ (false = true) := Bool.false_ne_true
  rw [dedup_Look.j2]
  by_cases c1 : p.f3 > 0
  · have r1 : ¬ p.f3 ≤ 0 := by omega
    rw [if_pos c1, if_neg r1]
    have fin : ∀ b, b = false → dedup_Look.j3 (k + 2) b kd pid e seq rs p.f0 p.f1 p.f2 p.f3 p.f4 = some (if wrap64 (seq - p.f3) = p.f2 then (0, false, 0) else (0, false, 7)) := fun b hb2 => by
      rw [hb2, dedup_Look.j3, if_neg hb, if_pos c1, dedup_Look.j4]
      by_cases c3 : wrap64 (seq - p.f3) = p.f2
      · rw [beq_iff_eq.2 c3, if_pos rfl, if_pos c3]
      · rw [beq_eq_false_iff_ne.2 c3, if_neg hb, if_neg r1, if_neg c3]
    by_cases c2 : seq = p.f2
    · rw [if_pos c2]
      by_cases c4 : (rs.length : Int) = p.f3
      · rw [beq_iff_eq.2 c4, if_pos ⟨c2, c4⟩, dedup_Look.j3, if_pos rfl]
      · rw [if_neg (fun h => c4 h.2), fin _ (beq_eq_false_iff_ne.2 c4)]
    · rw [if_neg c2, if_neg (fun h => c2 h.1), fin _ rfl]
  · rw [if_neg c1, if_pos (show p.f3 ≤ 0 by omega), dedup_Look.j3, if_neg hb, if_neg c1, dedup_Look.j4, if_neg hb, if_pos (show p.f3 ≤ 0 by omega)]
    by_cases c2 : seq = 0
    · rw [if_pos c2, if_neg (by omega)]
    · rw [if_neg c2, if_pos (by omega)]
theorem look_j1 (kd pid e seq : Int) (rs : List S49) (p : S44) (hs : 0 ≤ seq) (k : Nat) (hk : 4 ≤ k) : dedup_Look.j1 k kd pid e seq rs p.f0 p.f1 p.f2 p.f3 p.f4 = some (lookV p e seq rs.length) := by
  obtain ⟨k, rfl⟩ : ∃ m, k = m + 1 := ⟨k - 1, by omega⟩
  rw [dedup_Look.j1]
  unfold lookV
  by_cases c1 : e < p.f1
  · rw [if_pos c1, if_pos c1]
  · rw [if_neg c1, if_neg c1]
    by_cases c2 : e > p.f1
    · have h := look_j2 kd pid e seq rs ⟨pid, e, 0, 0, 0⟩ hs k (by omega)
      dsimp only at h
      rw [if_pos c2, if_pos (show e > p.f1 ∨ p.f3 ≤ 0 from .inl c2), h, if_pos (Int.le_refl 0)]
    · have h := look_j2 kd pid e seq rs p hs k (by omega)
      rw [if_neg c2, h]
      by_cases c3 : p.f3 ≤ 0
      · rw [if_pos c3, if_pos (show e > p.f1 ∨ p.f3 ≤ 0 from .inr c3)]
      · rw [if_neg c3, if_neg (show ¬ (e > p.f1 ∨ p.f3 ≤ 0) from fun h => h.elim c2 c3)]
def lookA (l : List S44) (kd pid e seq : Int) (rs : List S49) : Int × Bool × Int :=
  if mayB kd pid e seq rs = true ∧ kd ≤ 2 then (if pid = 0 then (0, false, 0) else lookV (rowOf l pid) e seq rs.length) else (0, false, 1)
theorem mayB_seq {kd pid e seq : Int} {rs : List S49} (h : mayB kd pid e seq rs = true) : 0 ≤ seq ∧ 0 ≤ pid ∧ pid ≤ 8 ∧ 0 ≤ e ∧ e ≤ 1099511627776 ∧ seq ≤ 1099511627776 ∧ rs.length ≤ 64 := by
  unfold mayB at h
  simp only [Bool.and_eq_true, mayH, decide_eq_true_eq] at h
  omega
theorem look_eq (l : List S44) (hl : l.length ≤ 1000) (kd pid e seq : Int) (rs : List S49) (hr : rs.length ≤ 9223372036854775807) (k : Nat) (hk : rs.length + 20 < k) : dedup_Look.f k l kd pid e seq rs = some (lookA l kd pid e seq rs) := by
  obtain ⟨k, rfl⟩ : ∃ m, k = m + 1 := ⟨k - 1, by omega⟩
  unfold dedup_Look.f lookA
  rw [check_eq kd pid e seq rs hr _ (by omega), Option.bind_some]
  by_cases c : mayB kd pid e seq rs = true
  · have hs := (mayB_seq c).1
    rw [if_pos c, if_pos rfl]
    by_cases c2 : kd > 2
    · rw [decide_eq_true c2, dedup_Look.j0, if_pos rfl, if_neg (by omega)]
    · rw [decide_eq_false c2, dedup_Look.j0, if_neg Bool.false_ne_true, if_pos (show mayB kd pid e seq rs = true ∧ kd ≤ 2 from ⟨c, by omega⟩)]
      by_cases c3 : pid = 0
      · rw [if_pos c3, if_pos c3]
      · have hf : dedup_find.f l pid = some (dedup_find.v l pid) := rfl
        rw [if_neg c3, if_neg c3, hf, Option.bind_some]
        rcases find_is l pid with ⟨j, h1, h2⟩ | ⟨h1, j, h2, h3, _⟩
        · obtain ⟨hj, h4, h5⟩ := row_found h1
          rw [h2]
          dsimp only
          rw [if_pos rfl, if_pos (by omega), if_pos (by omega), rd44_at l j hj, h4]
          exact look_j1 kd pid e seq rs _ hs k (by omega)
        · rw [h3]
          dsimp only
          rw [if_neg Bool.false_ne_true, row_none h1]
          exact look_j1 kd pid e seq rs ⟨pid, 0, 0, 0, 0⟩ hs k (by omega)
  · rw [if_neg c, if_neg (by decide), dedup_Look.j0, if_pos rfl, if_neg (fun h => c h.1)]
/-- What stands behind a batch. -/
def noteA (l : List S44) (kd pid e seq : Int) (n : Nat) (base : Int) : List S44 := dedup_Note.v l kd pid e seq n base
theorem note_eq (l : List S44) (hl : l.length ≤ 1000) (kd pid e seq : Int) (rs : List S49) (base : Int) : dedup_Note.f l kd pid e seq rs base = some (noteA l kd pid e seq rs.length base) := by
  unfold dedup_Note.f noteA
  rcases find_is l pid with ⟨j, h1, h2⟩ | ⟨h1, j, h2, h3, _⟩
  · obtain ⟨hj, h4, h5⟩ := row_found h1
    rw [h2]
    exact if_pos ⟨by omega, by dsimp only; omega, by dsimp only; omega, fun _ => by dsimp only; omega⟩
  · rw [h3]
    exact if_pos ⟨by omega, by dsimp only; omega, by dsimp only; omega, fun h => by cases h⟩
theorem noteA_len (l : List S44) (kd pid e seq : Int) (n : Nat) (base : Int) : (noteA l kd pid e seq n base).length ≤ l.length + 1 := by
  unfold noteA dedup_Note.v
  split
  · omega
  · split
    · split
      · omega
      · rw [List.length_set]; omega
    · rw [List.length_append, List.length_cons, List.length_take, List.length_drop]; omega
theorem same_l0 (l : List S44) (hl : l.length ≤ 1000) (d : Nat) : ∀ (j k : Nat), l.length - j = d → d < k → headgateref07_Same.l0 k l l (j : Int) = some true := by
  induction d with
  | zero =>
    intro j k hd hk
    obtain ⟨k, rfl⟩ : ∃ m, k = m + 1 := ⟨k - 1, by omega⟩
    rw [headgateref07_Same.l0, if_neg (by omega)]
  | succ d ih =>
    intro j k hd hk
    obtain ⟨k, rfl⟩ : ∃ m, k = m + 1 := ⟨k - 1, by omega⟩
    have e1 : wrap64 ((j : Int) + 1) = ((j + 1 : Nat) : Int) := by rw [w64 (by omega) (by omega)]; omega
    rw [headgateref07_Same.l0, if_pos (by omega), if_pos (by omega), if_pos (by omega), if_neg (by simp), e1, ih (j + 1) k (by omega) (by omega)]
theorem same_self (l : List S44) (hl : l.length ≤ 1000) (k : Nat) (hk : l.length < k) : headgateref07_Same.f k l l = some true := by
  unfold headgateref07_Same.f
  rw [if_pos rfl]
  have := same_l0 l hl l.length 0 k (by omega) hk
  exact this
theorem of_eq (e s : Int) (n : Nat) (hn : n ≤ 100) : headgatelaw07_of.f e s (n : Int) = some (1, 1, e, s, List.replicate n z49) := by
  unfold headgatelaw07_of.f
  rw [if_pos (by omega), Int.toNat_natCast, if_pos (by omega)]
theorem awake_eq (k : Nat) (hk : 200 ≤ k) : headgatelaw07_awake.f k = some true := by
  unfold headgatelaw07_awake.f
  have o1 : headgatelaw07_of.f 2 0 3 = some (1, 1, 2, 0, List.replicate 3 z49) := of_eq 2 0 3 (by omega)
  have o2 : headgatelaw07_of.f 2 3 1 = some (1, 1, 2, 3, List.replicate 1 z49) := of_eq 2 3 1 (by omega)
  have o3 : headgatelaw07_of.f 2 4 1 = some (1, 1, 2, 4, List.replicate 1 z49) := of_eq 2 4 1 (by omega)
  have o4 : headgatelaw07_of.f 1 3 1 = some (1, 1, 1, 3, List.replicate 1 z49) := of_eq 1 3 1 (by omega)
  have hl : ([(⟨1, 2, 0, 3, 7⟩ : S44)] : List S44).length ≤ 1000 := by decide
  have r1 : lookA [⟨1, 2, 0, 3, 7⟩] 1 1 2 0 (List.replicate 3 z49) = (7, true, 0) := by rfl
  have r2 : lookA [⟨1, 2, 0, 3, 7⟩] 1 1 2 3 (List.replicate 1 z49) = (0, false, 0) := by
    show lookV ⟨1, 2, 0, 3, 7⟩ 2 3 1 = (0, false, 0)
    unfold lookV
    rw [if_neg (by decide), if_neg (by decide), if_neg (by decide), w64 (by decide) (by decide)]
    rfl
  have r3 : lookA [⟨1, 2, 0, 3, 7⟩] 1 1 2 4 (List.replicate 1 z49) = (0, false, 7) := by
    show lookV ⟨1, 2, 0, 3, 7⟩ 2 4 1 = (0, false, 7)
    unfold lookV
    rw [if_neg (by decide), if_neg (by decide), if_neg (by decide), w64 (by decide) (by decide)]
    rfl
  have r4 : lookA [⟨1, 2, 0, 3, 7⟩] 1 1 1 3 (List.replicate 1 z49) = (0, false, 8) := by rfl
  have n1 : noteA [] 1 1 2 0 (List.replicate 3 z49).length 7 = [⟨1, 2, 0, 3, 7⟩] := by rfl
  rw [Option.bind_some, o1, Option.bind_some]
  dsimp only
  rw [look_eq _ hl _ _ _ _ _ (by simp) k (by simp; omega), r1, Option.bind_some, o2, Option.bind_some]
  dsimp only
  rw [look_eq _ hl _ _ _ _ _ (by simp) k (by simp; omega), r2, Option.bind_some, o3, Option.bind_some]
  dsimp only
  rw [look_eq _ hl _ _ _ _ _ (by simp) k (by simp; omega), r3, Option.bind_some, o4, Option.bind_some]
  dsimp only
  rw [look_eq _ hl _ _ _ _ _ (by simp) k (by simp; omega), r4, Option.bind_some, Option.bind_some]
  dsimp only
  rw [note_eq [] (by simp), n1, Option.bind_some, if_pos rfl, if_pos rfl, if_pos rfl, if_neg Bool.false_ne_true, if_pos rfl, if_pos rfl, if_pos rfl, same_self _ hl k (by simp; omega), Option.bind_some]
end Go.Proofs.Ythoegjpcjclbjaa.Dd
set_option linter.unusedVariables false
set_option linter.unusedSimpArgs false
namespace Go.Proofs.Ythoegjpcjclbjaa.Dl
open Go.RowKit Go.Proofs.Ythoegjpcjclbjaa.Bk Go.Proofs.Ythoegjpcjclbjaa.Dd Go.Proofs.Ythoegjpcjclbjaa.P Go.Proofs.YthoegjpcjclbjaaW.PrintWords Go.Proofs.YthoegjpcjclbjaaW.PrintLast Go.Proofs.YthoegjpcjclbjaaW.PrintMore
theorem rd25_at (s : List S25) (j : Nat) (h : j < s.length) : rd_T25 s (j : Int) = s[j] := by
  simp [rd_T25, List.getD_eq_getElem?_getD, List.getElem?_eq_getElem h]
theorem rdi_at (s : List Int) (j : Nat) (h : j < s.length) : rd s (j : Int) = s[j] := by
  simp [rd, List.getD_eq_getElem?_getD, List.getElem?_eq_getElem h]
theorem find_set : ∀ (l : List S44) (pid : Int) (j : Nat) (y : S44), fi (fun x => x.f0 == pid) l = some j → y.f0 = pid → ∀ q, (l.set j y).find? (fun x => x.f0 == q) = if q = pid then some y else l.find? (fun x => x.f0 == q)
  | [], pid, j, y, h, _, _ => by cases h
  | x :: l, pid, j, y, h, hy, q => by
    unfold fi at h
    by_cases c : x.f0 = pid
    · rw [if_pos (by simpa using c)] at h
      injection h with h
      subst h
      rw [List.set_cons_zero, List.find?_cons, List.find?_cons]
      by_cases cq : q = pid
      · rw [if_pos cq, beq_iff_eq.2 (hy.trans cq.symm)]
      · rw [if_neg cq, beq_eq_false_iff_ne.2 (show y.f0 ≠ q by omega), beq_eq_false_iff_ne.2 (show x.f0 ≠ q by omega)]
    · rw [if_neg (by simpa using c)] at h
      obtain ⟨i, hi, rfl⟩ := Option.map_eq_some_iff.1 h
      rw [List.set_cons_succ, List.find?_cons, List.find?_cons, find_set l pid i y hi hy q]
      by_cases cx : x.f0 = q
      · have hn : ¬ q = pid := by omega
        rw [if_neg hn, if_neg hn]
      · rw [beq_eq_false_iff_ne.2 cx]
theorem find_ins : ∀ (l : List S44) (pid : Int) (j : Nat) (y : S44), fi (fun x => x.f0 == pid) l = none → y.f0 = pid → ∀ q, (l.take j ++ y :: l.drop j).find? (fun x => x.f0 == q) = if q = pid then some y else l.find? (fun x => x.f0 == q)
  | l, pid, 0, y, h, hy, q => by
    rw [List.take_zero, List.nil_append, List.drop_zero, List.find?_cons]
    by_cases cq : q = pid
    · rw [if_pos cq, beq_iff_eq.2 (hy.trans cq.symm)]
    · rw [if_neg cq, beq_eq_false_iff_ne.2 (show y.f0 ≠ q by omega)]
  | [], pid, j + 1, y, h, hy, q => by
    rw [List.take_nil, List.nil_append, List.drop_nil, List.find?_cons]
    by_cases cq : q = pid
    · rw [if_pos cq, beq_iff_eq.2 (hy.trans cq.symm)]
    · rw [if_neg cq, beq_eq_false_iff_ne.2 (show y.f0 ≠ q by omega)]
  | x :: l, pid, j + 1, y, h, hy, q => by
    unfold fi at h
    by_cases c : x.f0 = pid
    · rw [if_pos (by simpa using c)] at h; cases h
    · rw [if_neg (by simpa using c)] at h
      rw [List.take_succ_cons, List.drop_succ_cons, List.cons_append, List.find?_cons, List.find?_cons, find_ins l pid j y (Option.map_eq_none_iff.1 h) hy q]
      by_cases cx : x.f0 = q
      · have hn : ¬ q = pid := by omega
        rw [if_neg hn, if_neg hn]
      · rw [beq_eq_false_iff_ne.2 cx]
/-- The rows behind a note: the producer's own row, and no other, turns. -/
theorem row_note (l : List S44) (kd pid e seq : Int) (n : Nat) (base : Int) (hp : pid ≠ 0) (hk : kd ≤ 2) (q : Int) : rowOf (noteA l kd pid e seq n base) q = if q = pid then ⟨pid, e, seq, n, base⟩ else rowOf l q := by
  have hr : dedup_Note.row kd pid e seq n base = ⟨pid, e, seq, (n : Int), base⟩ := if_neg (by omega)
  unfold noteA dedup_Note.v
  rw [if_neg hp]
  rcases find_is l pid with ⟨j, h1, h2⟩ | ⟨h1, j, h2, h3, h4⟩
  · rw [h2]
    dsimp only
    rw [if_pos rfl, if_neg (by omega), hr, Int.toNat_natCast]
    unfold rowOf
    rw [find_set l pid j _ h1 rfl q]
    split <;> rfl
  · rw [h3]
    dsimp only
    rw [if_neg Bool.false_ne_true, hr, Int.toNat_natCast]
    unfold rowOf
    rw [find_ins l pid j _ h1 rfl q]
    split <;> rfl
/-- One batch more of a producer's numbers. -/
def step (q : Int) : Option (Int × Int) → S25 → Option (Int × Int)
  | none, _ => none
  | some (e, s), b => if b.f1 ≠ q then some (e, s) else if b.f2 < e then none else if b.f2 > e then (if b.f3 = 0 then some (b.f2, (b.f4.length : Int)) else none) else if b.f3 = s then some (e, s + (b.f4.length : Int)) else none
theorem step_some (q e s : Int) (b : S25) : step q (some (e, s)) b = if b.f1 ≠ q then some (e, s) else if b.f2 < e then none else if b.f2 > e then (if b.f3 = 0 then some (b.f2, (b.f4.length : Int)) else none) else if b.f3 = s then some (e, s + (b.f4.length : Int)) else none := rfl
def onceS (q : Int) (ins : List S25) : Option (Int × Int) := ins.foldl (step q) (some (0, 0))
theorem once_snoc (q : Int) (ins : List S25) (b : S25) : onceS q (ins ++ [b]) = step q (onceS q ins) b := by unfold onceS; rw [List.foldl_append]; rfl
/-- The last batch of a producer. -/
def lastF (q : Int) (st : Int × Nat) (b : S25) : Int × Nat := (if b.f1 = q then (st.2 : Int) else st.1, st.2 + 1)
def lastI (q : Int) (ins : List S25) : Int := (ins.foldl (lastF q) (-1, 0)).1
theorem last_num (q : Int) : ∀ (ins : List S25) (st : Int × Nat), (ins.foldl (lastF q) st).2 = st.2 + ins.length
  | [], st => rfl
  | b :: ins, st => by rw [List.foldl_cons, last_num q ins, List.length_cons]; show st.2 + 1 + _ = _; omega
theorem last_snoc (q : Int) (ins : List S25) (b : S25) : lastI q (ins ++ [b]) = if b.f1 = q then (ins.length : Int) else lastI q ins := by
  unfold lastI
  rw [List.foldl_append, List.foldl_cons, List.foldl_nil]
  show (if b.f1 = q then ((ins.foldl (lastF q) (-1, 0)).2 : Int) else _) = _
  rw [last_num]
  simp
def okB (b : S25) : Prop := mayB b.f0 b.f1 b.f2 b.f3 b.f4 = true ∧ b.f0 ≤ 2
/-- Behind some batches that were let in: what is known. -/
structure LI (ins : List S25) (ats : List Int) (p : List S44) : Prop where
  len : ats.length = ins.length
  rows : p.length ≤ ins.length
  good : ∀ b ∈ ins, okB b
  row : ∀ q, q ≠ 0 → (lastI q ins = -1 ∧ rowOf p q = ⟨q, 0, 0, 0, 0⟩) ∨ ∃ (i : Nat) (h : i < ins.length) (h' : i < ats.length), lastI q ins = (i : Int) ∧ ins[i].f1 = q ∧ rowOf p q = ⟨q, ins[i].f2, ins[i].f3, (ins[i].f4.length : Int), ats[i]⟩
  once : ∀ q, q ≠ 0 → onceS q ins = some ((rowOf p q).f1, (rowOf p q).f2 + (rowOf p q).f3)
theorem LI.nil : LI [] [] [] where
  len := rfl
  rows := Nat.le_refl _
  good := fun b hb => by cases hb
  row := fun q _ => .inl ⟨rfl, rfl⟩
  once := fun q _ => rfl
theorem ok_len {b : S25} (h : okB b) : 0 < b.f4.length ∧ b.f4.length ≤ 64 ∧ 0 ≤ b.f1 ∧ b.f1 ≤ 8 ∧ 0 ≤ b.f2 ∧ b.f2 ≤ 1099511627776 ∧ 0 ≤ b.f3 ∧ b.f3 ≤ 1099511627776 ∧ (b.f1 ≠ 0 → 0 < b.f2) := by
  obtain ⟨h1, h2⟩ := h
  obtain ⟨s1, s2, s3, s4, s5, s6, s7⟩ := mayB_seq h1
  unfold mayB at h1
  simp only [Bool.and_eq_true, mayK, mayH, decide_eq_true_eq] at h1
  obtain ⟨⟨⟨h3, h4⟩, h5⟩, h6⟩ := h1
  refine ⟨?_, by omega, by omega, by omega, by omega, by omega, by omega, by omega, fun h0 => ?_⟩
  · rcases h6 with h | h | h <;> omega
  · rcases h6 with h | h | h <;> omega
theorem LI.bd {ins : List S25} {ats : List Int} {p : List S44} (h : LI ins ats p) (q : Int) (hq : q ≠ 0) : 0 ≤ (rowOf p q).f1 ∧ (rowOf p q).f1 ≤ 1099511627776 ∧ 0 ≤ (rowOf p q).f2 ∧ (rowOf p q).f2 ≤ 1099511627776 ∧ 0 ≤ (rowOf p q).f3 ∧ (rowOf p q).f3 ≤ 64 := by
  rcases h.row q hq with ⟨_, h2⟩ | ⟨i, h1, h1', h2, h3, h4⟩
  · rw [h2]; dsimp only; omega
  · have := ok_len (h.good _ (List.getElem_mem h1))
    rw [h4]
    dsimp only
    omega
theorem lookA_ok {p : List S44} {b : S25} {n : Int} {d : Bool} (h : lookA p b.f0 b.f1 b.f2 b.f3 b.f4 = (n, d, 0)) : okB b ∧ (b.f1 = 0 ∧ n = 0 ∧ d = false ∨ b.f1 ≠ 0 ∧ lookV (rowOf p b.f1) b.f2 b.f3 b.f4.length = (n, d, 0)) := by
  unfold lookA at h
  by_cases c : mayB b.f0 b.f1 b.f2 b.f3 b.f4 = true ∧ b.f0 ≤ 2
  · rw [if_pos c] at h
    refine ⟨c, ?_⟩
    by_cases c2 : b.f1 = 0
    · rw [if_pos c2] at h
      simp only [Prod.mk.injEq] at h
      exact .inl ⟨c2, h.1.symm, h.2.1.symm⟩
    · rw [if_neg c2] at h
      exact .inr ⟨c2, h⟩
  · rw [if_neg c] at h
    simp at h
theorem lookA_err {p : List S44} {b : S25} {r : Int × Bool × Int} (h : lookA p b.f0 b.f1 b.f2 b.f3 b.f4 = r) (he : r.2.2 ≠ 0) : r.1 = 0 ∧ r.2.1 = false := by
  subst h
  revert he
  unfold lookA lookV
  repeat' split
  all_goals (intro he; first | exact ⟨rfl, rfl⟩ | exact absurd rfl he)
/-- A batch is let in. -/
theorem LI.push {ins : List S25} {ats : List Int} {p : List S44} (h : LI ins ats p) {b : S25} {n : Int} (hl : lookA p b.f0 b.f1 b.f2 b.f3 b.f4 = (n, false, 0)) (next : Int) :
    LI (ins ++ [b]) (ats ++ [next]) (noteA p b.f0 b.f1 b.f2 b.f3 b.f4.length next) := by
  obtain ⟨hb, hc⟩ := lookA_ok hl
  have hbl := ok_len hb
  have hrow : ∀ q, q ≠ 0 → rowOf (noteA p b.f0 b.f1 b.f2 b.f3 b.f4.length next) q = if q = b.f1 then ⟨b.f1, b.f2, b.f3, (b.f4.length : Int), next⟩ else rowOf p q := fun q hq => by
    by_cases c0 : b.f1 = 0
    · have : noteA p b.f0 b.f1 b.f2 b.f3 b.f4.length next = p := by unfold noteA dedup_Note.v; rw [if_pos c0]
      rw [this, if_neg (by omega)]
    · exact row_note p b.f0 b.f1 b.f2 b.f3 b.f4.length next c0 hb.2 q
  have hlen := noteA_len p b.f0 b.f1 b.f2 b.f3 b.f4.length next
  refine ⟨by rw [List.length_append, List.length_append, h.len]; rfl, by have := h.rows; rw [List.length_append, List.length_singleton]; omega, fun x hx => ?_, fun q hq => ?_, fun q hq => ?_⟩
  · rcases List.mem_append.1 hx with hx | hx
    · exact h.good x hx
    · rw [List.mem_singleton.1 hx]; exact hb
  · rw [hrow q hq, last_snoc]
    by_cases c : q = b.f1
    · have hi : ins.length < (ins ++ [b]).length := by rw [List.length_append]; simp
      have hi' : ins.length < (ats ++ [next]).length := by rw [List.length_append, h.len]; simp
      have e1 : (ins ++ [b])[ins.length]'hi = b := by simp
      have e2 : (ats ++ [next])[ins.length]'hi' = next := by simp [← h.len]
      rw [if_pos c, if_pos c.symm]
      exact .inr ⟨ins.length, hi, hi', rfl, by rw [e1]; exact c.symm, by rw [e1, e2, c]⟩
    · rw [if_neg c, if_neg (fun e => c e.symm)]
      rcases h.row q hq with h1 | ⟨i, h1, h1', h2, h3, h4⟩
      · exact .inl h1
      · refine .inr ⟨i, by rw [List.length_append]; omega, by rw [List.length_append]; omega, h2, ?_, ?_⟩
        · rw [List.getElem_append_left h1]; exact h3
        · rw [List.getElem_append_left h1, List.getElem_append_left h1']; exact h4
  · rw [once_snoc, h.once q hq, hrow q hq]
    by_cases c : q = b.f1
    · subst c
      rcases hc with ⟨h1, _, _⟩ | ⟨_, h2⟩
      · exact absurd h1 hq
      · have hbd := h.bd b.f1 hq
        have hz : (rowOf p b.f1).f3 ≤ 0 → (rowOf p b.f1).f2 + (rowOf p b.f1).f3 = 0 := fun h0 => by
          rcases h.row b.f1 hq with ⟨_, h1⟩ | ⟨i, h1, h1', _, _, h4⟩
          · rw [h1]; rfl
          · have := ok_len (h.good _ (List.getElem_mem h1))
            rw [h4] at h0
            dsimp only at h0
            omega
        rw [if_pos rfl]
        rw [step_some, if_neg (fun hh => hh rfl)]
        unfold lookV at h2
        generalize rowOf p b.f1 = r at h2 hbd hz ⊢
        by_cases c1 : b.f2 < r.f1
        · rw [if_pos c1] at h2; simp at h2
        · rw [if_neg c1] at h2 ⊢
          by_cases c2 : b.f2 > r.f1
          · rw [if_pos (.inl c2)] at h2
            rw [if_pos c2]
            by_cases c3 : b.f3 > 0
            · rw [if_pos c3] at h2; simp at h2
            · rw [if_pos (by omega)]
              dsimp only
              rw [show b.f3 + (b.f4.length : Int) = (b.f4.length : Int) by omega]
          · rw [if_neg c2]
            have e : b.f2 = r.f1 := by omega
            by_cases c3 : r.f3 ≤ 0
            · rw [if_pos (.inr c3)] at h2
              by_cases c4 : b.f3 > 0
              · rw [if_pos c4] at h2; simp at h2
              · rw [if_pos (by have := hz c3; omega)]
                dsimp only
                rw [e, hz c3, show b.f3 = 0 by omega]
            · rw [if_neg (fun hh => hh.elim c2 c3)] at h2
              split at h2
              · simp at h2
              · split at h2
                · rename_i hw
                  rw [w64 (by omega) (by omega)] at hw
                  rw [if_pos (by omega)]
                  dsimp only
                  rw [e, ← hw]
                  congr 2
                  omega
                · simp at h2
    · rw [if_neg c]
      rw [step_some, if_pos (fun e => c e.symm)]
/-- What is known was let in. -/
theorem LI.known {ins : List S25} {ats : List Int} {p : List S44} (h : LI ins ats p) {b : S25} {n : Int} (hl : lookA p b.f0 b.f1 b.f2 b.f3 b.f4 = (n, true, 0)) :
    ∃ (i : Nat) (h : i < ins.length) (h' : i < ats.length), ats[i] = n ∧ ins[i].f1 = b.f1 ∧ ins[i].f2 = b.f2 ∧ ins[i].f3 = b.f3 ∧ ins[i].f4.length = b.f4.length := by
  obtain ⟨hb, hc⟩ := lookA_ok hl
  rcases hc with ⟨_, _, h3⟩ | ⟨h1, h2⟩
  · cases h3
  · rcases h.row b.f1 h1 with ⟨_, h4⟩ | ⟨i, h3, h3', h4, h5, h6⟩
    · rw [h4] at h2
      unfold lookV at h2
      dsimp only at h2
      repeat' split at h2
      all_goals first | (simp at h2; done) | omega
    · rw [h6] at h2
      unfold lookV at h2
      dsimp only at h2
      by_cases c1 : b.f2 < ins[i].f2
      · rw [if_pos c1] at h2; simp at h2
      · rw [if_neg c1] at h2
        by_cases c2 : b.f2 > ins[i].f2 ∨ (ins[i].f4.length : Int) ≤ 0
        · rw [if_pos c2] at h2
          split at h2 <;> simp at h2
        · rw [if_neg c2] at h2
          by_cases c3 : b.f3 = ins[i].f3 ∧ (b.f4.length : Int) = (ins[i].f4.length : Int)
          · rw [if_pos c3] at h2
            simp only [Prod.mk.injEq] at h2
            exact ⟨i, h3, h3', h2.1, h5, by omega, c3.1.symm, by omega⟩
          · rw [if_neg c3] at h2
            split at h2 <;> simp at h2
theorem l1_on (x0 ins : List S25) (ats : List Int) (p : List S44) (x9 x10 n : Int) (b : S25) (K : Nat) (hl : ins.length ≤ 1000) (d : Nat) : ∀ (j : Nat), ins.length - j = d → j ≤ ins.length → headgatelaw07_let.l1 (K + d + 1) x0 ins ats p x9 x10 n true (j : Int) b.f0 b.f1 b.f2 b.f3 b.f4 = headgatelaw07_let.l0 K x0 ins ats p x9 (wrap64 (x10 + 1)) := by
  induction d with
  | zero =>
    intro j hd hj
    rw [Nat.add_zero, headgatelaw07_let.l1, if_neg (by omega), if_pos rfl]
  | succ d ih =>
    intro j hd hj
    rw [show K + (d + 1) + 1 = (K + d + 1) + 1 by omega, headgatelaw07_let.l1, if_pos (by omega), if_pos rfl, w64 (by omega) (by omega), show (j : Int) + 1 = ((j + 1 : Nat) : Int) by omega, ih (j + 1) (by omega) (by omega)]
theorem l1_find (x0 ins : List S25) (ats : List Int) (p : List S44) (x9 x10 n : Int) (b : S25) (K : Nat) (hl : ins.length ≤ 1000) (hla : ats.length = ins.length) (i : Nat) (hi : i < ins.length) (hi' : i < ats.length)
    (h1 : ats[i] = n) (h2 : ins[i].f1 = b.f1) (h3 : ins[i].f2 = b.f2) (h4 : ins[i].f3 = b.f3) (h5 : ins[i].f4.length = b.f4.length) (d : Nat) : ∀ (j : Nat), ins.length - j = d → j ≤ i → headgatelaw07_let.l1 (K + d + 1) x0 ins ats p x9 x10 n false (j : Int) b.f0 b.f1 b.f2 b.f3 b.f4 = headgatelaw07_let.l0 K x0 ins ats p x9 (wrap64 (x10 + 1)) := by
  have H := Aside0.mk (And.intro h1 (And.intro h2 (And.intro h3 (And.intro h4 h5))))
  clear h1 h2 h3 h4 h5
  induction d with
  | zero => intro j hd hj; omega
  | succ d ih =>
    intro j hd hj
    have e1 : wrap64 ((j : Int) + 1) = ((j + 1 : Nat) : Int) := by rw [w64 (by omega) (by omega)]; omega
    have on := l1_on x0 ins ats p x9 x10 n b K hl d (j + 1) (by omega) (by omega)
    have hja : j < ats.length := by omega
    have hji : j < ins.length := by omega
    rw [show K + (d + 1) + 1 = (K + d + 1) + 1 by omega, headgatelaw07_let.l1, if_pos (by omega), if_neg Bool.false_ne_true, if_pos (by omega), if_pos (by omega), rdi_at ats j hja, rd25_at ins j hji, e1]
    rcases Nat.lt_or_ge j i with hlt | hge
    · have off := ih (j + 1) (by omega) (by omega)
      by_cases c1 : ats[j] = n
      · rw [if_pos c1]
        by_cases c2 : ins[j].f1 = b.f1
        · rw [if_pos c2]
          by_cases c3 : ins[j].f2 = b.f2
          · rw [if_pos c3]
            by_cases c4 : ins[j].f3 = b.f3
            · rw [if_pos c4]
              cases hb : ((ins[j].f4.length : Int) == (b.f4.length : Int)) with
              | true => exact on
              | false => exact off
            · rw [if_neg c4]; exact off
          · rw [if_neg c3]; exact off
        · rw [if_neg c2]; exact off
      · rw [if_neg c1]; exact off
    · obtain rfl : j = i := by omega
      obtain ⟨h1, h2, h3, h4, h5⟩ := H.out
      rw [if_pos h1, if_pos h2, if_pos h3, if_pos h4, beq_iff_eq.2 (congrArg (fun z : Nat => (z : Int)) h5)]
      exact on
def most (l : List S25) : Nat := l.foldr (fun b m => max b.f4.length m) 0
theorem most_ge : ∀ {l : List S25} {b : S25}, b ∈ l → b.f4.length ≤ most l
  | x :: l, b, h => by
    show b.f4.length ≤ max x.f4.length (most l)
    rcases List.mem_cons.1 h with rfl | h
    · exact Nat.le_max_left _ _
    · exact Nat.le_trans (most_ge h) (Nat.le_max_right _ _)
theorem len_eq (b : S25) : headgateref06_Len.f b.f0 b.f1 b.f2 b.f3 b.f4 = some (if (b.f4.length : Int) = 0 then 1 else (b.f4.length : Int)) := by
  unfold headgateref06_Len.f
  split <;> rfl
theorem let_l0 (x0 : List S25) (hwf : ∀ b ∈ x0, b.f4.length ≤ 9223372036854775807) (M : Nat) (hM : ∀ b ∈ x0, b.f4.length + 30 ≤ M) (d : Nat) : ∀ (j : Nat) (ins : List S25) (ats : List Int) (p : List S44) (next : Int) (k : Nat), min x0.length 60 - j = d → j ≤ min x0.length 60 → ins.length ≤ j → LI ins ats p → 100 * d + M + 10 ≤ k →
    ∃ ins' ats' p', headgatelaw07_let.l0 k x0 ins ats p next (j : Int) = some (ins', ats', p', true) ∧ LI ins' ats' p' ∧ ins'.length ≤ 60 := by
  induction d with
  | zero =>
    intro j ins ats p next k hd hj hi hI hk
    obtain ⟨k, rfl⟩ : ∃ m, k = m + 2 := ⟨k - 2, by omega⟩
    refine ⟨ins, ats, p, ?_, hI, by omega⟩
    rw [headgatelaw07_let.l0]
    by_cases c : (j : Int) < (x0.length : Int)
    · rw [if_pos c, decide_eq_false (show ¬ (j : Int) < 60 by omega), headgatelaw07_let.j1, if_neg Bool.false_ne_true]
    · rw [if_neg c, headgatelaw07_let.j1, if_neg Bool.false_ne_true]
  | succ d ih =>
    intro j ins ats p next k hd hj hi hI hk
    obtain ⟨k, rfl⟩ : ∃ m, k = m + 2 := ⟨k - 2, by omega⟩
    have hlt : j < x0.length := by omega
    have hmem := List.getElem_mem hlt
    have hw := hwf _ hmem
    have hM' := hM _ hmem
    have e1 : wrap64 ((j : Int) + 1) = ((j + 1 : Nat) : Int) := by rw [w64 (by omega) (by omega)]; omega
    have hil : ins.length ≤ 60 := by omega
    have hal := hI.len
    have hpl := hI.rows
    rw [headgatelaw07_let.l0, if_pos (by omega), decide_eq_true (show (j : Int) < 60 by omega), headgatelaw07_let.j1, if_pos rfl, if_pos (by omega), if_pos (by omega), rd25_at x0 j hlt]
    obtain ⟨b, hb⟩ : ∃ b, b = x0[j] := ⟨_, rfl⟩
    rw [← hb] at hw hM' ⊢
    have skip := ih (j + 1) ins ats p next k (by omega) (by omega) (by omega) hI (by omega)
    rw [light_eq b.f0 b.f1 b.f2 b.f3 b.f4 hw k (by omega), Option.bind_some, e1]
    by_cases c1 : light b.f4 = true
    · rw [if_pos c1, look_eq p (by omega) b.f0 b.f1 b.f2 b.f3 b.f4 hw k (by omega), Option.bind_some]
      by_cases c2 : (lookA p b.f0 b.f1 b.f2 b.f3 b.f4).2.2 = 0
      · rw [if_pos c2]
        by_cases c3 : (lookA p b.f0 b.f1 b.f2 b.f3 b.f4).2.1 = true
        · rw [if_pos c3]
          have hl : lookA p b.f0 b.f1 b.f2 b.f3 b.f4 = ((lookA p b.f0 b.f1 b.f2 b.f3 b.f4).1, true, 0) := by rw [← c3, ← c2]
          obtain ⟨i, g1, g1', g2, g3, g4, g5, g6⟩ := hI.known hl
          have := l1_find x0 ins ats p next (j : Int) (lookA p b.f0 b.f1 b.f2 b.f3 b.f4).1 b (k - ins.length - 1) (by omega) hal i g1 g1' g2 g3 g4 g5 g6 ins.length 0 (by omega) (by omega)
          rw [show k - ins.length - 1 + ins.length + 1 = k by omega, show ((0 : Nat) : Int) = 0 from rfl, e1] at this
          rw [this]
          exact ih (j + 1) ins ats p next _ (by omega) (by omega) (by omega) hI (by omega)
        · rw [if_neg c3]
          have hl : lookA p b.f0 b.f1 b.f2 b.f3 b.f4 = ((lookA p b.f0 b.f1 b.f2 b.f3 b.f4).1, false, 0) := by rw [← Bool.eq_false_iff.2 c3, ← c2]
          rw [note_eq p (by omega), Option.bind_some, if_pos (by omega), if_pos (by omega), len_eq, Option.bind_some]
          exact ih (j + 1) (ins ++ [b]) (ats ++ [next]) _ _ k (by omega) (by omega) (by rw [List.length_append, List.length_singleton]; omega) (hI.push hl next) (by omega)
      · obtain ⟨h1, h2⟩ := lookA_err rfl c2
        rw [if_neg c2, if_neg (by rw [h2]; exact Bool.false_ne_true), if_pos h1]
        exact skip
    · rw [if_neg c1]
      exact skip
theorem let_eq (x0 : List S25) (hwf : ∀ b ∈ x0, b.f4.length ≤ 9223372036854775807) (k : Nat) (hk : most x0 + 6100 ≤ k) : ∃ ins ats p, headgatelaw07_let.f k x0 = some (ins, ats, p, true) ∧ LI ins ats p ∧ ins.length ≤ 60 := by
  have := let_l0 x0 hwf (most x0 + 30) (fun b hb => by have := most_ge hb; omega) (min x0.length 60) 0 [] [] [] 0 k (by omega) (by omega) (by simp) LI.nil (by omega)
  exact this
end Go.Proofs.Ythoegjpcjclbjaa.Dl
set_option linter.unusedVariables false
namespace Go.Proofs.Ythoegjpcjclbjaa.Pure
open Go.RowKit Go.Proofs.Ythoegjpcjclbjaa.Bk Go.Proofs.Ythoegjpcjclbjaa.Dd Go.Proofs.Ythoegjpcjclbjaa.Dl Go.Proofs.Ythoegjpcjclbjaa.P Go.Proofs.YthoegjpcjclbjaaW.PrintWords Go.Proofs.YthoegjpcjclbjaaW.PrintLast Go.Proofs.YthoegjpcjclbjaaW.PrintMore
theorem lastT_is (q : Int) (ins : List S25) : ∀ (j : Nat), j ≤ ins.length → headgatelaw07_DedupAgain.lastT q ins j = lastI q (ins.take j)
  | 0, _ => rfl
  | j + 1, h => by
    have hj : j < ins.length := by omega
    rw [headgatelaw07_DedupAgain.lastT, List.take_succ_eq_append_getElem hj, last_snoc, rd25_at ins j hj, lastT_is q ins j (by omega), List.length_take, Nat.min_eq_left (by omega)]
theorem may_next {kd pid e seq : Int} {rs : List S49} (h : mayB kd pid e seq rs = true) (hk : kd ≤ 2) (hp : pid ≠ 0) (hs : seq + (rs.length : Int) ≤ 1099511627776) : mayB kd pid e (seq + (rs.length : Int)) rs = true := by
  unfold mayB at h ⊢
  simp only [Bool.and_eq_true, mayK, mayH, decide_eq_true_eq] at h ⊢
  obtain ⟨⟨⟨h3, h4⟩, h5⟩, h6⟩ := h
  refine ⟨⟨⟨by omega, h4⟩, h5⟩, ?_⟩
  rcases h6 with ⟨a, b, c | c⟩ | h | h
  · exact absurd c.1 hp
  · exact .inl ⟨a, b, .inr c⟩
  · exact .inr (.inl h)
  · exact absurd h.1 (by omega)
theorem again_good (ins : List S25) (ats : List Int) (p : List S44) (hI : LI ins ats p) (hl : ins.length ≤ 60) (k : Nat) (hk : 200 ≤ k) (q : Nat) (h1 : 1 ≤ q) (h8 : q ≤ 8) : headgatelaw07_DedupAgain.good k ins ats p (headgatelaw07_DedupAgain.lastT (q : Int) ins ins.length) := by
  rw [lastT_is _ ins _ (Nat.le_refl _), List.take_length]
  rcases hI.row (q : Int) (by omega) with ⟨h2, _⟩ | ⟨i, hi, hi', h2, h3, h4⟩
  · exact .inl (by omega)
  · rw [h2]
    have hg := hI.good _ (List.getElem_mem hi)
    have hb := ok_len hg
    have hp : p.length ≤ 1000 := by have := hI.rows; omega
    have hq : ins[i].f1 ≠ 0 := by omega
    refine .inr ⟨by omega, by omega, ?_, ?_⟩
    · rw [rd25_at ins i hi, rdi_at ats i hi', look_eq p hp _ _ _ _ _ (by omega) k (by omega)]
      unfold lookA
      rw [if_pos (show mayB ins[i].f0 ins[i].f1 ins[i].f2 ins[i].f3 ins[i].f4 = true ∧ ins[i].f0 ≤ 2 from hg), if_neg hq, h3, h4]
      unfold lookV
      dsimp only
      rw [if_neg (by omega), if_neg (by omega), if_pos ⟨rfl, rfl⟩]
    · rw [rd25_at ins i hi, w64 (by omega) (by omega)]
      by_cases c : 1099511627776 < ins[i].f3 + (ins[i].f4.length : Int)
      · exact .inl c
      · refine .inr ⟨0, ?_⟩
        rw [look_eq p hp _ _ _ _ _ (by omega) k (by omega)]
        unfold lookA
        rw [if_pos ⟨may_next hg.1 hg.2 hq (by omega), hg.2⟩, if_neg hq, h3, h4]
        unfold lookV
        dsimp only
        rw [if_neg (by omega), if_neg (by omega), if_neg (by omega), w64 (by omega) (by omega), if_pos (by omega)]
theorem DedupAgain : headgatelaw07_DedupAgain.Pure := by
  intro l hl
  obtain ⟨ins, ats, p, h1, hI, h60⟩ := let_eq l (fun b hb => (hl.2 b hb).2.2.2.2.1) (most l + 10000) (by omega)
  exact ⟨most l + 10000, ins, ats, p, h1, h60, hI.len, fun q h1 h8 => again_good ins ats p hI h60 _ (by omega) q h1 h8, awake_eq _ (by omega)⟩
end Go.Proofs.Ythoegjpcjclbjaa.Pure
