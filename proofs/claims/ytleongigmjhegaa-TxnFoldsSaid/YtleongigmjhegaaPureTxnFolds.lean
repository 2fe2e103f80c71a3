/- Behind any note any rows (20 at the most, as far as their masks are masks) are those that the document says, or it does not fit; what was handed in stays. No condition. -/
import Derived.Test.YtleongigmjhegaaPx3
import Derived.Test.YtleongigmjhegaaPx4
import Derived.Test.YtleongigmjhegaaPx5
import Derived.Test.YtleongigmjhegaaPx6
import Derived.Test.YtleongigmjhegaaPx7
import Derived.Test.YtleongigmjhegaaPx8
import Derived.Test.YtleongigmjhegaaPx9
import Derived.Test.YtleongigmjhegaaPx10
import Derived.Test.YtleongigmjhegaaPx11
import Derived.Test.YtleongigmjhegaaPx12
import Derived.Test.YtleongigmjhegaaPx13
set_option linter.unusedVariables false
set_option linter.unusedSimpArgs false
namespace Go.Proofs.Ytleongigmjhegaa.Tn
open Go.RowKit Go.Proofs.Ytleongigmjhegaa.P Go.Proofs.YtleongigmjhegaaW.PrintWords Go.Proofs.YtleongigmjhegaaW.PrintLast Go.Proofs.YtleongigmjhegaaW.PrintMore
theorem w64 {x : Int} (h0 : -9223372036854775808 ≤ x) (h1 : x ≤ 9223372036854775807) : wrap64 x = x := by unfold wrap64; omega
theorem rd24_at (s : List S24) (j : Nat) (h : j < s.length) : rd_T24 s (j : Int) = s[j] := by
  simp [rd_T24, List.getD_eq_getElem?_getD, List.getElem?_eq_getElem h]
theorem behind_step (x0 : List S24) (rows : List S27) (j : Nat) (h : j < x0.length) (h2 : j < 100) (k : Nat) (r : List S27 × Int) (hr : txn_Fold.f rows x0[j].f0 x0[j].f1 x0[j].f2 = some r) :
    headgatelaw12_behind.l0 (k + 2) x0 rows (j : Int) = headgatelaw12_behind.l0 k x0 (if r.2 = 0 then r.1 else rows) ((j + 1 : Nat) : Int) := by
  have e1 : wrap64 ((j : Int) + 1) = ((j + 1 : Nat) : Int) := by rw [w64 (by omega) (by omega)]; omega
  rw [headgatelaw12_behind.l0, if_pos (by omega), decide_eq_true (by omega), headgatelaw12_behind.j1, if_pos rfl, if_pos (by omega), if_pos (by omega), rd24_at x0 j h, hr, Option.bind_some, e1]
  split <;> rfl
theorem behind_end (x0 : List S24) (rows : List S27) (j : Nat) (h : x0.length ≤ j ∨ 100 ≤ j) (k : Nat) : headgatelaw12_behind.l0 (k + 2) x0 rows (j : Int) = some rows := by
  rw [headgatelaw12_behind.l0]
  split
  · rw [decide_eq_false (by omega), headgatelaw12_behind.j1, if_neg (by decide)]
  · rw [headgatelaw12_behind.j1, if_neg (by decide)]
theorem awake_20 : headgatelaw12_awake.f 20 = some true := by
  have e1 : txn_Fold.f [] 1 1 0 = some ([⟨1, 1, 1, 0, 0⟩], 0) := by rfl
  have e2 : txn_Fold.f [⟨1, 1, 1, 0, 0⟩] 2 1 5 = some ([⟨1, 1, 2, 5, 0⟩], 0) := by rfl
  have e3 : txn_Fold.f [⟨1, 1, 2, 5, 0⟩] 3 1 0 = some ([⟨1, 1, 3, 5, 0⟩], 0) := by rfl
  have e4 : txn_Fold.f [⟨1, 1, 3, 5, 0⟩] 5 1 0 = some ([⟨1, 2, 1, 0, 3⟩], 0) := by rfl
  unfold headgatelaw12_awake.f headgatelaw12_behind.f
  rw [show (0 : Int) = ((0 : Nat) : Int) from rfl, behind_step _ _ 0 (by decide) (by omega) 18 _ e1, if_pos rfl, behind_step _ _ 1 (by decide) (by omega) 16 _ e2, if_pos rfl, behind_step _ _ 2 (by decide) (by omega) 14 _ e3, if_pos rfl, behind_step _ _ 3 (by decide) (by omega) 12 _ e4, if_pos rfl, behind_end _ _ 4 (.inl (by decide)) 10, Option.bind_some]
  rfl
theorem awake_eq (k : Nat) (hk : 20 ≤ k) : headgatelaw12_awake.f k = some true :=
  at_rounds (g := headgatelaw12_awake.f) headgatelaw12_awake.mono hk awake_20
theorem B_iff {l : List S27} : txn_right.B l = true ↔ (∀ x ∈ l, 1 ≤ x.f0 ∧ x.f0 ≤ 8 ∧ 1 ≤ x.f1 ∧ x.f1 ≤ 1099511627776) ∧ l.Pairwise fun a b => a.f0 < b.f0 := by
  unfold txn_right.B
  simp only [Bool.and_eq_true, decide_eq_true_eq, List.all_eq_true]
theorem len8 {l : List S27} (h1 : ∀ x ∈ l, 1 ≤ x.f0 ∧ x.f0 ≤ 8) (h2 : l.Pairwise fun a b => a.f0 < b.f0) : l.length ≤ 8 := by
  have key : ∀ j, (hj : j < l.length) → (j : Int) + 1 ≤ l[j].f0 := by
    intro j
    induction j with
    | zero => intro hj; have := (h1 _ (List.getElem_mem hj)).1; omega
    | succ j ih =>
      intro hj
      have a := ih (by omega)
      have b := List.pairwise_iff_getElem.1 h2 j (j + 1) (by omega) hj (by omega)
      omega
  rcases Nat.lt_or_ge 8 l.length with h | h
  · have a := key 8 h
    have b := (h1 _ (List.getElem_mem h)).2
    omega
  · exact h
theorem rd27_at (s : List S27) (j : Nat) (h : j < s.length) : rd_T27 s (j : Int) = s[j] := by
  simp [rd_T27, List.getD_eq_getElem?_getD, List.getElem?_eq_getElem h]
theorem or_nat (a b : Nat) (ha : a < 8192) (hb : b < 8192) : Go.bits .or .i64 (a : Int) (b : Int) = ((a ||| b : Nat) : Int) ∧ a ||| b < 8192 ∧ b ≤ a ||| b := by
  have h1 : a ||| b < 2 ^ 13 := Nat.or_lt_two_pow (by omega) (by omega)
  refine ⟨?_, by omega, Nat.right_le_or⟩
  unfold Go.bits
  have e : ∀ n : Nat, n < 8192 → (BitVec.ofInt IntKind.i64.bits (n : Int)).toNat = n := fun n hn => by
    rw [BitVec.toNat_ofInt]
    show (((n : Int)) % 18446744073709551616).toNat = n
    omega
  have h3 : ((BitVec.ofInt IntKind.i64.bits (a : Int)) ||| (BitVec.ofInt IntKind.i64.bits (b : Int))).toNat = a ||| b := by
    rw [BitVec.toNat_or, e a ha, e b hb]
  show IntKind.i64.wrap ((((BitVec.ofInt IntKind.i64.bits (a : Int)) ||| (BitVec.ofInt IntKind.i64.bits (b : Int))).toNat : Nat) : Int) = _
  rw [h3, IntKind.wrap_i64]
  omega
end Go.Proofs.Ytleongigmjhegaa.Tn
set_option linter.unusedVariables false
set_option linter.unusedSimpArgs false
namespace Go.Proofs.Ytleongigmjhegaa.Pure
open Go.RowKit Go.Proofs.Ytleongigmjhegaa.Tn Go.Proofs.Ytleongigmjhegaa.P Go.Proofs.YtleongigmjhegaaW.PrintWords Go.Proofs.YtleongigmjhegaaW.PrintLast Go.Proofs.YtleongigmjhegaaW.PrintMore
def MayB (kind pid parts : Int) : Prop := (1 ≤ pid ∧ pid ≤ 8) ∧ 1 ≤ kind ∧ kind ≤ 5 ∧ (kind = 2 → 1 ≤ parts ∧ parts < 8192) ∧ (kind ≠ 2 → parts = 0)
instance (kind pid parts : Int) : Decidable (MayB kind pid parts) := by unfold MayB; infer_instance
theorem rmay_eq (kind pid parts : Int) (k : Nat) : headgateref12_May.f (k + 1) kind pid parts = some (decide (MayB kind pid parts)) := by
  have no : ¬ MayB kind pid parts → ∀ x, headgateref12_May.j0 (k + 1) true x pid parts = some (decide (MayB kind pid parts)) := fun h x => by
    rw [headgateref12_May.j0, if_pos rfl, decide_eq_false h]
  unfold headgateref12_May.f
  by_cases c1 : pid < 1
  · rw [if_pos c1, no (fun h => by have := h.1.1; omega)]
  · rw [if_neg c1]
    by_cases c2 : pid > 8
    · rw [if_pos c2, no (fun h => by have := h.1.2; omega)]
    · rw [if_neg c2]
      by_cases c3 : kind < 1
      · rw [if_pos c3, no (fun h => by have := h.2.1; omega)]
      · rw [if_neg c3]
        by_cases c4 : kind > 5
        · rw [decide_eq_true c4, no (fun h => by have := h.2.2.1; omega)]
        · rw [decide_eq_false c4, headgateref12_May.j0, if_neg (by decide)]
          by_cases c5 : kind = 2
          · rw [if_pos c5]
            by_cases c6 : parts ≥ 1
            · rw [if_pos c6]
              congr 1
              rw [decide_eq_decide]
              exact ⟨fun h => ⟨by omega, by omega, by omega, fun _ => ⟨by omega, h⟩, fun h2 => absurd c5 h2⟩, fun h => (h.2.2.2.1 c5).2⟩
            · rw [if_neg c6, decide_eq_false (fun h => c6 (h.2.2.2.1 c5).1)]
          · rw [if_neg c5]
            congr 1
            rw [Bool.eq_iff_iff, beq_iff_eq, decide_eq_true_iff]
            exact ⟨fun h => ⟨by omega, by omega, by omega, fun h2 => absurd h2 c5, fun _ => h⟩, fun h => h.2.2.2.2 c5⟩
def rightL : Int → List S27 → Bool
  | _, [] => true
  | last, x :: l => decide (last < x.f0 ∧ x.f0 ≤ 8 ∧ 1 ≤ x.f1 ∧ x.f1 ≤ 1099511627776) && rightL x.f0 l
theorem rright_l0 (l : List S27) (hl : l.length ≤ 1000) (d : Nat) : ∀ (j k : Nat) (last : Int), l.length - j = d → d < k → headgateref12_Right.l0 k l last (j : Int) = some (rightL last (l.drop j)) := by
  induction d with
  | zero =>
    intro j k last hd hk
    obtain ⟨k, rfl⟩ : ∃ m, k = m + 1 := ⟨k - 1, by omega⟩
    rw [headgateref12_Right.l0, if_neg (by omega), List.drop_eq_nil_of_le (by omega)]
    rfl
  | succ d ih =>
    intro j k last hd hk
    obtain ⟨k, rfl⟩ : ∃ m, k = m + 1 := ⟨k - 1, by omega⟩
    have hlt : j < l.length := by omega
    have e1 : wrap64 ((j : Int) + 1) = ((j + 1 : Nat) : Int) := by rw [w64 (by omega) (by omega)]; omega
    rw [headgateref12_Right.l0, if_pos (by omega), if_pos (by omega), rd27_at l j hlt, e1, ih (j + 1) k _ (by omega) (by omega), List.drop_eq_getElem_cons hlt]
    show _ = some (decide (last < l[j].f0 ∧ l[j].f0 ≤ 8 ∧ 1 ≤ l[j].f1 ∧ l[j].f1 ≤ 1099511627776) && rightL l[j].f0 (l.drop (j + 1)))
    by_cases c1 : l[j].f0 ≤ last
    · rw [if_pos c1, decide_eq_false (by omega)]; rfl
    · rw [if_neg c1]
      by_cases c2 : l[j].f0 > 8
      · rw [if_pos c2, decide_eq_false (by omega)]; rfl
      · rw [if_neg c2]
        by_cases c3 : l[j].f1 < 1
        · rw [if_pos c3, decide_eq_false (by omega)]; rfl
        · rw [if_neg c3]
          by_cases c4 : l[j].f1 > 1099511627776
          · rw [if_pos c4, decide_eq_false (by omega)]; rfl
          · rw [if_neg c4, decide_eq_true (by omega), Bool.true_and]
theorem rightL_iff : ∀ (l : List S27) (last : Int), 0 ≤ last → (rightL last l = true ↔ (∀ x ∈ l, last < x.f0 ∧ x.f0 ≤ 8 ∧ 1 ≤ x.f1 ∧ x.f1 ≤ 1099511627776) ∧ l.Pairwise fun a b => a.f0 < b.f0)
  | [], last, h0 => ⟨fun _ => ⟨fun x hx => (by cases hx), List.Pairwise.nil⟩, fun _ => rfl⟩
  | x :: l, last, h0 => by
    have e : rightL last (x :: l) = (decide (last < x.f0 ∧ x.f0 ≤ 8 ∧ 1 ≤ x.f1 ∧ x.f1 ≤ 1099511627776) && rightL x.f0 l) := rfl
    rw [e, Bool.and_eq_true, decide_eq_true_eq]
    constructor
    · rintro ⟨h1, h2⟩
      obtain ⟨h3, h4⟩ := (rightL_iff l x.f0 (by omega)).1 h2
      refine ⟨fun y hy => ?_, List.pairwise_cons.2 ⟨fun y hy => (h3 y hy).1, h4⟩⟩
      rcases List.mem_cons.1 hy with rfl | hy
      · exact h1
      · have := h3 y hy; omega
    · rintro ⟨h1, h2⟩
      have hx := h1 x List.mem_cons_self
      obtain ⟨h3, h4⟩ := List.pairwise_cons.1 h2
      exact ⟨hx, (rightL_iff l x.f0 (by omega)).2 ⟨fun y hy => by have := h1 y (List.mem_cons_of_mem _ hy); have := h3 y hy; omega, h4⟩⟩
theorem rright_eq (l : List S27) (hl : l.length ≤ 1000) (k : Nat) (hk : l.length < k) : headgateref12_Right.f k l = some (txn_right.B l) := by
  have h := rright_l0 l hl l.length 0 k 0 (by omega) hk
  rw [List.drop_zero] at h
  refine Eq.trans h ?_
  congr 1
  rw [Bool.eq_iff_iff, rightL_iff l 0 (by omega), B_iff]
  constructor
  · rintro ⟨h1, h2⟩; exact ⟨fun x hx => by have := h1 x hx; omega, h2⟩
  · rintro ⟨h1, h2⟩; exact ⟨fun x hx => by have := h1 x hx; omega, h2⟩
theorem rrow_l0' (l : List S27) (q : Int) (hl : l.length ≤ 1000) (d : Nat) : ∀ (j k : Nat), l.length - j = d → d < k → headgateref12_Row.l0 k l q (j : Int) = some (match (l.drop j).find? (fun x => x.f0 == q) with | some x => (x.f0, x.f1, x.f2, x.f3, x.f4, 0) | none => (0, 0, 0, 0, 0, 3)) := by
  induction d with
  | zero =>
    intro j k hd hk
    obtain ⟨k, rfl⟩ : ∃ m, k = m + 1 := ⟨k - 1, by omega⟩
    rw [headgateref12_Row.l0, if_neg (by omega), List.drop_eq_nil_of_le (by omega)]
    rfl
  | succ d ih =>
    intro j k hd hk
    obtain ⟨k, rfl⟩ : ∃ m, k = m + 1 := ⟨k - 1, by omega⟩
    have hlt : j < l.length := by omega
    have e1 : wrap64 ((j : Int) + 1) = ((j + 1 : Nat) : Int) := by rw [w64 (by omega) (by omega)]; omega
    rw [headgateref12_Row.l0, if_pos (by omega), if_pos (by omega), rd27_at l j hlt, e1, ih (j + 1) k (by omega) (by omega), List.drop_eq_getElem_cons hlt, List.find?_cons]
    by_cases c : l[j].f0 = q
    · rw [if_pos c, beq_iff_eq.2 c]
    · rw [if_neg c, beq_eq_false_iff_ne.2 c]
/-- A row in its place. -/
def putL : List S27 → S27 → List S27
  | [], y => [y]
  | x :: l, y => if x.f0 < y.f0 then x :: putL l y else if x.f0 = y.f0 then y :: l else y :: x :: l
theorem lt0_cons (x : S27) (l : List S27) (p : Int) : lt027 (x :: l) p = if x.f0 < p then lt027 l p + 1 else 0 := by
  unfold lt027
  rw [List.takeWhile_cons]
  by_cases c : x.f0 < p
  · rw [if_pos (by simpa using c), if_pos c]; rfl
  · rw [if_neg (by simpa using c), if_neg c]; rfl
theorem rd_succ (x : S27) (l : List S27) (n : Nat) : rd_T27 (x :: l) ((n + 1 : Nat) : Int) = rd_T27 l (n : Int) := by simp [rd_T27]
theorem rd_zero (x : S27) (l : List S27) : rd_T27 (x :: l) ((0 : Nat) : Int) = x := by simp [rd_T27]
theorem put_set : ∀ (l : List S27) (p : Int) (y : S27), y.f0 = p → lt027 l p < l.length ∧ (rd_T27 l (lt027 l p : Int)).f0 = p → l.set (lt027 l p) y = putL l y
  | [], p, y, hy, h => by simp at h
  | x :: l, p, y, hy, h => by
    rw [lt0_cons] at h ⊢
    unfold putL
    rw [hy]
    by_cases c : x.f0 < p
    · rw [if_pos c] at h ⊢
      rw [if_pos c, List.set_cons_succ, put_set l p y hy ⟨by simpa using h.1, by rw [← rd_succ x]; exact h.2⟩]
    · rw [if_neg c] at h ⊢
      rw [rd_zero] at h
      rw [if_neg c, if_pos h.2]
      rfl
theorem put_ins : ∀ (l : List S27) (p : Int) (y : S27), y.f0 = p → ¬ (lt027 l p < l.length ∧ (rd_T27 l (lt027 l p : Int)).f0 = p) → l.take (lt027 l p) ++ y :: l.drop (lt027 l p) = putL l y
  | [], p, y, hy, h => rfl
  | x :: l, p, y, hy, h => by
    rw [lt0_cons] at h ⊢
    unfold putL
    rw [hy]
    by_cases c : x.f0 < p
    · rw [if_pos c] at h ⊢
      rw [if_pos c, List.take_succ_cons, List.drop_succ_cons, List.cons_append, put_ins l p y hy (fun h2 => h ⟨by simpa using h2.1, by rw [rd_succ x]; exact h2.2⟩)]
    · rw [if_neg c] at h ⊢
      rw [rd_zero] at h
      rw [if_neg c, if_neg (fun e => h ⟨by simp, e⟩)]
      rfl
theorem find_is : ∀ (l : List S27) (p : Int), (l.Pairwise fun a b => a.f0 < b.f0) → l.find? (fun x => x.f0 == p) = if lt027 l p < l.length ∧ (rd_T27 l (lt027 l p : Int)).f0 = p then some (rd_T27 l (lt027 l p : Int)) else none
  | [], p, h => rfl
  | x :: l, p, h => by
    obtain ⟨h1, h2⟩ := List.pairwise_cons.1 h
    rw [lt0_cons, List.find?_cons]
    by_cases c : x.f0 < p
    · rw [if_pos c, beq_eq_false_iff_ne.2 (by omega), rd_succ]
      have e : (lt027 l p + 1 < (x :: l).length ∧ (rd_T27 l (lt027 l p : Int)).f0 = p) = (lt027 l p < l.length ∧ (rd_T27 l (lt027 l p : Int)).f0 = p) := by simp
      simp only [e]
      exact find_is l p h2
    · rw [if_neg c, rd_zero]
      by_cases c2 : x.f0 = p
      · rw [beq_iff_eq.2 c2, if_pos ⟨by simp, c2⟩]
      · rw [beq_eq_false_iff_ne.2 c2, if_neg (fun h => c2 h.2)]
        simp only
        rw [List.find?_eq_none]
        intro y hy e
        have := h1 y hy
        have := beq_iff_eq.1 e
        omega
theorem putL_len : ∀ (l : List S27) (y : S27), (putL l y).length ≤ l.length + 1
  | [], y => Nat.le_refl _
  | x :: l, y => by
    unfold putL
    split
    · have := putL_len l y; simp only [List.length_cons]; omega
    · split <;> simp
theorem rput_l0 (l : List S27) (y : S27) (hl : l.length ≤ 1000) (d : Nat) : ∀ (j k : Nat) (acc : List S27), l.length - j = d → j ≤ l.length → d < k → acc.length = j →
    headgateref12_put.l0 k l acc (j : Int) y.f0 y.f1 y.f2 y.f3 y.f4 = some (acc ++ putL (l.drop j) y) := by
  induction d with
  | zero =>
    intro j k acc hd hj hk ha
    obtain ⟨k, rfl⟩ : ∃ m, k = m + 1 := ⟨k - 1, by omega⟩
    have e : l.drop j = [] := List.drop_eq_nil_of_le (by omega)
    rw [headgateref12_put.l0, if_neg (by omega), if_pos (by omega), Option.bind_some, if_pos (by omega), if_pos (by omega), Option.bind_some, Int.toNat_natCast, e, if_pos (by simp; omega), List.append_nil]
    rfl
  | succ d ih =>
    intro j k acc hd hj hk ha
    obtain ⟨k, rfl⟩ : ∃ m, k = m + 1 := ⟨k - 1, by omega⟩
    have hjl : j < l.length := by omega
    have e : l.drop j = l[j] :: l.drop (j + 1) := List.drop_eq_getElem_cons hjl
    have hw : wrap64 ((j : Int) + 1) = ((j + 1 : Nat) : Int) := by rw [w64 (by omega) (by omega)]; omega
    rw [headgateref12_put.l0, if_pos (by omega), if_pos (by omega), rd27_at l j hjl, e]
    unfold putL
    by_cases c : l[j].f0 < y.f0
    · rw [if_pos c, if_pos (by omega), hw, ih (j + 1) k _ (by omega) (by omega) (by omega) (by rw [List.length_append, ha]; rfl), if_pos c, List.append_assoc]
      rfl
    · rw [if_neg c, if_neg c, if_pos (by omega), Option.bind_some]
      by_cases c2 : l[j].f0 = y.f0
      · rw [if_pos c2, if_pos c2, hw, if_pos (by omega), if_pos (by omega), Option.bind_some, Int.toNat_natCast, if_pos (by simp; omega), List.append_assoc]
        rfl
      · rw [if_neg c2, if_neg c2, if_pos (by omega), Option.bind_some, Int.toNat_natCast, if_pos (by simp; omega), List.append_assoc, e]
        rfl
theorem rput_eq (l : List S27) (y : S27) (hl : l.length ≤ 1000) (k : Nat) (hk : l.length < k) : headgateref12_put.f k l y.f0 y.f1 y.f2 y.f3 y.f4 = some (putL l y) := by
  have := rput_l0 l y hl l.length 0 k [] (by omega) (by omega) hk rfl
  exact this
theorem tm2 (q : Nat) (h : q < 8192) : Int.tmod (wrap64 (q : Int)) 2 = ((q % 2 : Nat) : Int) := by rw [w64 (by omega) (by omega)]; rfl
theorem dbl (z : Nat) (h : z ≤ 4096) : wrap64 ((z : Int) * 2) = ((z * 2 : Nat) : Int) := by rw [w64 (by omega) (by omega)]; omega
theorem sm2 (y z : Nat) (hy : y < 8192) (hz : z ≤ 4096) : wrap64 ((y : Int) + (z : Int)) = ((y + z : Nat) : Int) := by rw [w64 (by omega) (by omega)]; omega
theorem join_l0 (a b : Nat) (ha : a < 8192) (hb : b < 8192) (d : Nat) : ∀ (p k : Nat), 13 - p = d → p ≤ 13 → d < k →
    headgateref12_join.l0 k (a : Int) (b : Int) (((a ||| b) % 2 ^ p : Nat) : Int) ((2 ^ p : Nat) : Int) (p : Int) = some ((a ||| b : Nat) : Int) := by
  have hor := (or_nat a b ha hb).2.1
  induction d with
  | zero =>
    intro p k hd hp hk
    obtain ⟨k, rfl⟩ : ∃ m, k = m + 1 := ⟨k - 1, by omega⟩
    obtain rfl : p = 13 := by omega
    rw [headgateref12_join.l0, if_neg (by omega), Nat.mod_eq_of_lt (show a ||| b < 2 ^ 13 from hor)]
  | succ d ih =>
    intro p k hd hp hk
    obtain ⟨k, rfl⟩ : ∃ m, k = m + 1 := ⟨k - 1, by omega⟩
    have e6 : wrap64 ((p : Int) + 1) = ((p + 1 : Nat) : Int) := by rw [w64 (by omega) (by omega)]; omega
    have hp13 : (p : Int) < 13 := by omega
    have hn := ih (p + 1) k (by omega) (by omega) (by omega)
    have hp12 : p ≤ 12 := by omega
    have h2 : 0 < 2 ^ p := Nat.pow_pos (by decide)
    have hz1 : 2 ^ p ≤ 4096 := Nat.pow_le_pow_right (by decide) hp12
    have hlt := Nat.mod_lt (a ||| b) h2
    have ea : Int.tmod (wrap64 (Int.tdiv (a : Int) ((2 ^ p : Nat) : Int))) 2 = ((a / 2 ^ p % 2 : Nat) : Int) := tm2 (a / 2 ^ p) (Nat.lt_of_le_of_lt (Nat.div_le_self _ _) ha)
    have eb : Int.tmod (wrap64 (Int.tdiv (b : Int) ((2 ^ p : Nat) : Int))) 2 = ((b / 2 ^ p % 2 : Nat) : Int) := tm2 (b / 2 ^ p) (Nat.lt_of_le_of_lt (Nat.div_le_self _ _) hb)
    have hz0 : ¬ (((2 ^ p : Nat) : Int) = 0) := fun e => Nat.ne_of_gt h2 (Int.ofNat.inj e)
    have hy1 : (a ||| b) % 2 ^ p < 8192 := Nat.lt_of_lt_of_le hlt (Nat.le_trans hz1 (by decide))
    have hp2 : 2 ^ (p + 1) = 2 ^ p * 2 := Nat.pow_succ 2 p
    have e5 : wrap64 (((2 ^ p : Nat) : Int) * 2) = ((2 ^ (p + 1) : Nat) : Int) := by rw [hp2]; exact dbl _ hz1
    have hm := Nat.mod_pow_succ (x := a ||| b) (b := 2) (k := p)
    have ht : (a ||| b) / 2 ^ p % 2 = if a / 2 ^ p % 2 = 1 ∨ b / 2 ^ p % 2 = 1 then 1 else 0 := by
      have h := Nat.testBit_or a b p
      rw [Nat.testBit_eq_decide_div_mod_eq, Nat.testBit_eq_decide_div_mod_eq, Nat.testBit_eq_decide_div_mod_eq] at h
      split
      · rename_i c
        have : decide ((a ||| b) / 2 ^ p % 2 = 1) = true := by rw [h]; rcases c with c | c <;> simp [c]
        exact of_decide_eq_true this
      · rename_i c
        have : ¬ ((a ||| b) / 2 ^ p % 2 = 1) := fun e => by
          rw [decide_eq_true e] at h
          have h := h.symm
          rw [Bool.or_eq_true, decide_eq_true_eq, decide_eq_true_eq] at h
          exact c h
        rcases Nat.mod_two_eq_zero_or_one ((a ||| b) / 2 ^ p) with e | e
        · exact e
        · exact absurd e this
    rw [headgateref12_join.l0, if_pos hp13, if_neg hz0, ea, eb, e5, e6]
    by_cases ca : a / 2 ^ p % 2 = 1
    · rw [if_pos (by rw [ca]; rfl)]
      rw [ht, if_pos (.inl ca), Nat.mul_one] at hm
      have e7 : wrap64 ((((a ||| b) % 2 ^ p : Nat) : Int) + ((2 ^ p : Nat) : Int)) = (((a ||| b) % 2 ^ (p + 1) : Nat) : Int) := by
        rw [hm]; exact sm2 _ _ hy1 hz1
      rw [e7, hn]
    · rw [if_neg (show ¬ (((a / 2 ^ p % 2 : Nat) : Int) = 1) from fun e => ca (Int.ofNat.inj e))]
      by_cases cb : b / 2 ^ p % 2 = 1
      · rw [if_pos (by rw [cb]; rfl)]
        rw [ht, if_pos (.inr cb), Nat.mul_one] at hm
        have e7 : wrap64 ((((a ||| b) % 2 ^ p : Nat) : Int) + ((2 ^ p : Nat) : Int)) = (((a ||| b) % 2 ^ (p + 1) : Nat) : Int) := by
          rw [hm]; exact sm2 _ _ hy1 hz1
        rw [e7, hn]
      · rw [if_neg (show ¬ (((b / 2 ^ p % 2 : Nat) : Int) = 1) from fun e => cb (Int.ofNat.inj e))]
        rw [ht, if_neg (fun h => h.elim ca cb), Nat.mul_zero] at hm
        rw [show (a ||| b) % 2 ^ (p + 1) = (a ||| b) % 2 ^ p from hm] at hn
        exact hn
theorem join_eq (a b : Int) (ha : 0 ≤ a ∧ a < 8192) (hb : 0 ≤ b ∧ b < 8192) (k : Nat) (hk : 13 < k) : headgateref12_join.f k a b = some (Go.bits .or .i64 a b) := by
  obtain ⟨a, rfl⟩ := Int.eq_ofNat_of_zero_le ha.1
  obtain ⟨b, rfl⟩ := Int.eq_ofNat_of_zero_le hb.1
  rw [(or_nat a b (by omega) (by omega)).1]
  have := join_l0 a b (by omega) (by omega) 13 0 k (by omega) (by omega) hk
  rw [Nat.pow_zero, Nat.mod_one] at this
  exact this
theorem rturn_eq (x : S27) (kind pid parts : Int) (h1 : 1 ≤ x.f1 ∧ x.f1 ≤ 1099511627776) (h3 : 0 ≤ x.f3 ∧ x.f3 < 8192) (hm : MayB kind pid parts) (k : Nat) (hk : 20 ≤ k) :
    headgateref12_turn.f k x.f0 x.f1 x.f2 x.f3 x.f4 kind pid parts = some (match txn_Fold.turn x kind parts with | some y => (y.f0, y.f1, y.f2, y.f3, y.f4, 0) | none => (0, 0, 0, 0, 0, 9)) := by
  obtain ⟨k, rfl⟩ : ∃ m, k = m + 4 := ⟨k - 4, by omega⟩
  obtain ⟨m1, m2, m3, m4, m5⟩ := hm
  have hw : wrap64 (x.f1 + 1) = x.f1 + 1 := w64 (by omega) (by omega)
  have hb : (true = true) ∧ ¬ (false = true) := ⟨rfl, Bool.false_ne_true⟩
  unfold headgateref12_turn.f txn_Fold.turn
  by_cases c1 : kind = 1
  · rw [if_pos c1, if_pos c1]
    by_cases s1 : x.f2 = 1
    · rw [beq_iff_eq.2 s1, if_pos s1, headgateref12_turn.j0, if_pos rfl, hw]
      show some _ = some (x.f0, x.f1 + 1, x.f2, 0, 0, 0)
      rw [s1]
    · rw [beq_eq_false_iff_ne.2 s1, if_neg s1, headgateref12_turn.j0, if_neg hb.2, if_neg (by omega), headgateref12_turn.j1, if_neg hb.2, if_neg (by omega), headgateref12_turn.j2, if_neg hb.2, if_neg (by omega), headgateref12_turn.j3, if_neg hb.2, if_neg (by omega)]
  · rw [if_neg c1, if_neg c1, headgateref12_turn.j0, if_neg hb.2]
    by_cases c2 : kind = 2
    · rw [if_pos c2, if_pos c2]
      have hj := join_eq x.f3 parts h3 ⟨by have := (m4 c2).1; omega, (m4 c2).2⟩ (k + 2) (by omega)
      by_cases s1 : x.f2 = 1
      · rw [if_pos s1, if_pos (.inl s1), headgateref12_turn.j1, if_pos rfl, hj, Option.bind_some]
      · rw [if_neg s1]
        by_cases s2 : x.f2 = 2
        · rw [beq_iff_eq.2 s2, if_pos (.inr s2), headgateref12_turn.j1, if_pos rfl, hj, Option.bind_some]
        · rw [beq_eq_false_iff_ne.2 s2, if_neg (by omega), headgateref12_turn.j1, if_neg hb.2, if_neg (by omega), headgateref12_turn.j2, if_neg hb.2, if_neg (by omega), headgateref12_turn.j3, if_neg hb.2, if_neg (by omega)]
    · rw [if_neg c2, if_neg c2, headgateref12_turn.j1, if_neg hb.2]
      by_cases c5 : kind = 5
      · rw [if_pos c5, if_neg (by omega), headgateref12_turn.j2, if_neg hb.2, if_neg (by omega), headgateref12_turn.j3, if_neg hb.2, if_pos c5, hw]
        by_cases s3 : x.f2 = 3
        · rw [if_pos s3, if_pos (.inl s3)]
        · rw [if_neg s3]
          by_cases s4 : x.f2 = 4
          · rw [if_pos s4, if_pos (.inr s4)]
          · rw [if_neg s4, if_neg (by omega)]
      · rw [if_neg c5]
        by_cases c3 : kind = 3
        · rw [if_pos c3]
          by_cases s2 : x.f2 = 2
          · rw [beq_iff_eq.2 s2, if_pos s2, headgateref12_turn.j2, if_pos rfl, c3]
          · rw [beq_eq_false_iff_ne.2 s2, if_neg s2, headgateref12_turn.j2, if_neg hb.2, if_neg (by omega), headgateref12_turn.j3, if_neg hb.2, if_neg (by omega)]
        · have c4 : kind = 4 := by omega
          rw [if_neg c3, headgateref12_turn.j2, if_neg hb.2, if_pos c4]
          by_cases s2 : x.f2 = 2
          · rw [beq_iff_eq.2 s2, if_pos s2, headgateref12_turn.j3, if_pos rfl, c4]
          · rw [beq_eq_false_iff_ne.2 s2, if_neg s2, headgateref12_turn.j3, if_neg hb.2, if_neg (by omega)]
theorem turn_f0 {x y : S27} {kind parts : Int} (h : txn_Fold.turn x kind parts = some y) : y.f0 = x.f0 := by
  unfold txn_Fold.turn at h
  split at h
  · split at h
    · injection h with h; subst h; rfl
    · cases h
  · split at h
    · split at h
      · injection h with h; subst h; rfl
      · cases h
    · split at h
      · split at h
        · injection h with h; subst h; rfl
        · cases h
      · split at h
        · injection h with h; subst h; rfl
        · cases h
def Msk (l : List S27) : Prop := ∀ x ∈ l, 0 ≤ x.f3 ∧ x.f3 < 8192
theorem folds_eq (l : List S27) (hl : l.length ≤ 20) (hp : Msk l) (kind pid parts : Int) (k : Nat) (hk : 200 ≤ k) : ∃ r, txn_Fold.f l kind pid parts = some r ∧ headgateref12_Fold.f k l kind pid parts = some r ∧ r.1.length ≤ 30 := by
  obtain ⟨k, rfl⟩ : ∃ m, k = m + 1 := ⟨k - 1, by omega⟩
  unfold txn_Fold.f headgateref12_Fold.f
  rw [rmay_eq, Option.bind_some]
  by_cases cm : MayB kind pid parts
  · have e1 : txn_Check.f kind pid parts = some 0 := congrArg some (if_pos cm)
    rw [e1, Option.bind_some, if_pos rfl, decide_eq_true cm, if_pos rfl, rright_eq l (by omega) _ (by omega), Option.bind_some]
    have e2 : txn_right.f l = some (txn_right.B l) := rfl
    rw [e2, Option.bind_some]
    by_cases cr : txn_right.B l = true
    · obtain ⟨b1, b2⟩ := B_iff.1 cr
      have h8 := len8 (fun x hx => ⟨(b1 x hx).1, (b1 x hx).2.1⟩) b2
      have hok : txn_Fold.okB l kind pid = true := by
        simp only [txn_Fold.okB, Bool.and_eq_true, decide_eq_true_eq, List.all_eq_true]
        exact ⟨⟨⟨b1, b2⟩, h8⟩, cm.2.1, cm.2.2.1, cm.1.1, cm.1.2⟩
      have hrow := rrow_l0' l pid (by omega) l.length 0 k (by omega) (by omega)
      rw [List.drop_zero, find_is l pid b2] at hrow
      rw [if_pos cr, if_pos hok, cr, headgateref12_Fold.j0, if_neg (show ¬ ((!true) = true) by decide)]
      have hrf : headgateref12_Row.f k l pid = headgateref12_Row.l0 k l pid ((0 : Nat) : Int) := rfl
      rw [hrf, hrow]
      by_cases hf : lt027 l pid < l.length ∧ (rd_T27 l (lt027 l pid : Int)).f0 = pid
      · rw [if_pos hf, if_pos hf, Option.bind_some]
        have hmem : rd_T27 l (lt027 l pid : Int) ∈ l := by rw [rd27_at l _ hf.1]; exact List.getElem_mem hf.1
        have hx1 := b1 _ hmem
        have hx3 := hp _ hmem
        dsimp only
        rw [if_pos rfl, rturn_eq _ kind pid parts ⟨hx1.2.2.1, hx1.2.2.2⟩ hx3 cm k (by omega), Option.bind_some]
        cases ht : txn_Fold.turn (rd_T27 l (lt027 l pid : Int)) kind parts with
        | none => exact ⟨_, rfl, rfl, by decide⟩
        | some y =>
          dsimp only
          rw [if_pos rfl]
          by_cases c9 : y.f1 > 1099511627776
          · rw [if_pos c9, if_pos c9]; exact ⟨_, rfl, rfl, by decide⟩
          · rw [if_neg c9, if_neg c9, rput_eq l y (by omega) k (by omega), Option.bind_some]
            have := put_set l pid y ((turn_f0 ht).trans hf.2) hf
            rw [this]
            exact ⟨_, rfl, rfl, by have := putL_len l y; show (putL l y).length ≤ 30; omega⟩
      · rw [if_neg hf, if_neg hf, Option.bind_some]
        dsimp only
        rw [if_neg (show ¬ ((3 : Int) = 0) by decide)]
        by_cases c1 : kind = 1
        · rw [if_pos c1, if_neg (by omega)]
          have hq := rput_eq l ⟨pid, 1, 1, 0, 0⟩ (by omega) k (by omega)
          dsimp only at hq
          rw [hq, Option.bind_some, put_ins l pid ⟨pid, 1, 1, 0, 0⟩ rfl hf]
          exact ⟨_, rfl, rfl, by have := putL_len l ⟨pid, 1, 1, 0, 0⟩; show (putL l _).length ≤ 30; omega⟩
        · have := cm.2.1
          rw [if_neg c1, if_pos (by omega)]
          exact ⟨_, rfl, rfl, by decide⟩
    · rw [if_neg cr, Bool.eq_false_iff.2 cr, headgateref12_Fold.j0, if_pos (by decide)]
      exact ⟨_, rfl, rfl, by decide⟩
  · have e1 : txn_Check.f kind pid parts = some 1 := congrArg some (if_neg cm)
    rw [e1, Option.bind_some, if_neg (by decide), decide_eq_false cm, if_neg (by decide), headgateref12_Fold.j0, if_pos rfl]
    exact ⟨_, rfl, rfl, by decide⟩
theorem same_l0 (l : List S27) (hl : l.length ≤ 1000) (d : Nat) : ∀ (j k : Nat), l.length - j = d → d < k → headgateref12_Same.l0 k l l (j : Int) = some true := by
  induction d with
  | zero =>
    intro j k hd hk
    obtain ⟨k, rfl⟩ : ∃ m, k = m + 1 := ⟨k - 1, by omega⟩
    rw [headgateref12_Same.l0, if_neg (by omega)]
  | succ d ih =>
    intro j k hd hk
    obtain ⟨k, rfl⟩ : ∃ m, k = m + 1 := ⟨k - 1, by omega⟩
    have e1 : wrap64 ((j : Int) + 1) = ((j + 1 : Nat) : Int) := by rw [w64 (by omega) (by omega)]; omega
    rw [headgateref12_Same.l0, if_pos (by omega), if_pos (by omega), if_pos (by omega), if_neg (by simp), e1, ih (j + 1) k (by omega) (by omega)]
theorem same_self (l : List S27) (hl : l.length ≤ 1000) (k : Nat) (hk : l.length < k) : headgateref12_Same.f k l l = some true := by
  unfold headgateref12_Same.f
  rw [if_pos rfl]
  have := same_l0 l hl l.length 0 k (by omega) hk
  exact this
theorem exit_eq (l : List S27) (hl : l.length ≤ 20) (hp : Msk l) (j : Int) (hj : (l.length : Int) ≤ j) (kind pid parts : Int) (k : Nat) (hk : 200 ≤ k) : headgatelaw12_TxnFolds.l0 (k + 1) l j kind pid parts = some true := by
  obtain ⟨r, h1, h2, h3⟩ := folds_eq l hl hp kind pid parts k hk
  rw [headgatelaw12_TxnFolds.l0, if_neg (by omega), if_pos (by simp; omega), Option.bind_some, List.nil_append, h1, Option.bind_some, h2, Option.bind_some, same_self _ (by omega) _ (by omega), Option.bind_some, if_pos rfl, if_pos rfl, same_self _ (by omega) _ (by omega), Option.bind_some, if_pos rfl, awake_eq _ (by omega), Option.bind_some]
theorem loop_eq (l : List S27) (hl : l.length ≤ 20) (kind pid parts : Int) (d : Nat) : ∀ (j k : Nat), l.length - j = d → j ≤ l.length → d + 300 ≤ k → (∀ i, (h : i < l.length) → i < j → 0 ≤ l[i].f3 ∧ l[i].f3 < 8192) → headgatelaw12_TxnFolds.l0 k l (j : Int) kind pid parts = some true := by
  induction d with
  | zero =>
    intro j k hd hj hk hp
    obtain ⟨k, rfl⟩ : ∃ m, k = m + 1 := ⟨k - 1, by omega⟩
    refine exit_eq l hl (fun x hx => ?_) _ (by omega) kind pid parts k (by omega)
    obtain ⟨i, hi, rfl⟩ := List.getElem_of_mem hx
    exact hp i hi (by omega)
  | succ d ih =>
    intro j k hd hj hk hp
    obtain ⟨k, rfl⟩ : ∃ m, k = m + 1 := ⟨k - 1, by omega⟩
    have hlt : j < l.length := by omega
    have e1 : wrap64 ((j : Int) + 1) = ((j + 1 : Nat) : Int) := by rw [w64 (by omega) (by omega)]; omega
    have hcut : headgatelaw12_TxnFolds.l0 k (l.take j) ((j + 1 : Nat) : Int) kind pid parts = some true := by
      obtain ⟨k, rfl⟩ : ∃ m, k = m + 1 := ⟨k - 1, by omega⟩
      refine exit_eq (l.take j) (by rw [List.length_take]; omega) (fun x hx => ?_) _ (by rw [List.length_take]; omega) kind pid parts k (by omega)
      obtain ⟨i, hi, rfl⟩ := List.getElem_of_mem hx
      rw [List.length_take] at hi
      rw [List.getElem_take]
      exact hp i (by omega) (by omega)
    rw [headgatelaw12_TxnFolds.l0, if_pos (by omega), if_pos (by omega), rd27_at l j hlt, e1, Int.toNat_natCast]
    by_cases c1 : l[j].f3 < 0
    · rw [if_pos c1, if_pos (by omega), hcut]
    · rw [if_neg c1]
      by_cases c2 : l[j].f3 ≥ 8192
      · rw [if_pos c2, if_pos (by omega), hcut]
      · rw [if_neg c2]
        refine ih (j + 1) k (by omega) (by omega) (by omega) (fun i hi hij => ?_)
        by_cases e : i = j
        · subst e; omega
        · exact hp i hi (by omega)
theorem TxnFolds : headgatelaw12_TxnFolds.Pure := by
  intro l kind pid parts hl hk hp hq
  refine ⟨400, ?_⟩
  unfold headgatelaw12_TxnFolds.f
  by_cases c : (l.length : Int) > 20
  · rw [if_pos c, awake_eq _ (by omega), Option.bind_some]
  · rw [if_neg c]
    exact loop_eq l (by omega) kind pid parts l.length 0 400 (by omega) (by omega) (by omega) (fun i hi h => absurd h (Nat.not_lt_zero _))
end Go.Proofs.Ytleongigmjhegaa.Pure
