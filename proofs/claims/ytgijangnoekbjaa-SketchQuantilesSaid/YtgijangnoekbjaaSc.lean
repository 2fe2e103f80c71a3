/- The sketch's buckets: which sketches may be, how many numbers they have, what share lies where. -/
import Derived.Test.YtgijangnoekbjaaPx5
import Derived.Test.YtgijangnoekbjaaPx6
import Derived.Test.YtgijangnoekbjaaSp
set_option linter.unusedVariables false
set_option linter.unusedSimpArgs false
namespace Go.Proofs.Ytgijangnoekbjaa.Sc
open Go.RowKit Go.Proofs.Ytgijangnoekbjaa.Vm Go.Proofs.Ytgijangnoekbjaa.Sm Go.Proofs.Ytgijangnoekbjaa.Sp Go.Proofs.Ytgijangnoekbjaa.P Go.Proofs.YtgijangnoekbjaaW.PrintWords Go.Proofs.YtgijangnoekbjaaW.PrintLast

def Wf (s : List S61) : Prop := ∀ y ∈ s, wf61 y
def good (sum prev : Int) (x : S61) : Bool := decide (-960 ≤ x.f0 ∧ x.f0 < 960 ∧ 1 ≤ x.f1 ∧ x.f1 ≤ 1099511627776 - sum ∧ prev < x.f0)
def okS : Int → Int → List S61 → Bool
  | _, _, [] => true
  | sum, prev, x :: r => good sum prev x && okS (sum + x.f1) x.f0 r
def tot : List S61 → Int
  | [] => 0
  | x :: r => x.f1 + tot r
def pk : Int → List S61 → Int
  | _, [] => 0
  | r, x :: l => if r ≤ x.f1 then x.f0 else pk (r - x.f1) l
theorem good_iff {sum prev : Int} {x : S61} : good sum prev x = true ↔ (-960 ≤ x.f0 ∧ x.f0 < 960 ∧ 1 ≤ x.f1 ∧ x.f1 ≤ 1099511627776 - sum ∧ prev < x.f0) := by unfold good; exact decide_eq_true_iff
theorem tot_le {sum prev : Int} {l : List S61} (h : okS sum prev l = true) (h0 : sum ≤ 1099511627776) : sum + tot l ≤ 1099511627776 ∧ (l.length : Int) ≤ tot l ∧ (∀ y ∈ l, -960 ≤ y.f0 ∧ y.f0 < 960 ∧ 1 ≤ y.f1 ∧ y.f1 ≤ tot l) := by
  induction l generalizing sum prev with
  | nil => exact ⟨by show sum + 0 ≤ _; omega, by show ((0 : Nat) : Int) ≤ 0; omega, fun y hy => by cases hy⟩
  | cons x r ih =>
    unfold okS at h
    rw [Bool.and_eq_true, good_iff] at h
    obtain ⟨⟨a1, a2, a3, a4, a5⟩, h2⟩ := h
    obtain ⟨b1, b2, b3⟩ := ih h2 (by omega)
    have ht : tot (x :: r) = x.f1 + tot r := rfl
    refine ⟨by omega, by rw [List.length_cons]; omega, fun y hy => ?_⟩
    rcases List.mem_cons.1 hy with rfl | hy
    · omega
    · have := b3 y hy; omega
theorem wf_i64 {x : S61} (h : wf61 x) : I64 x.f0 ∧ I64 x.f1 := ⟨i64_of h.1, i64_of h.2⟩
theorem rd_at (s : List S61) (j : Nat) (h : j < s.length) : rd_T61 s (j : Int) = s[j] := by
  unfold rd_T61
  rw [Int.toNat_natCast, List.getD_eq_getElem?_getD, List.getElem?_eq_getElem h]
  rfl
def prevAt (s : List S61) (j : Nat) : Int := if j = 0 then -961 else (rd_T61 s ((j : Int) - 1)).f0
theorem prev_succ (s : List S61) (j : Nat) (h : j < s.length) : prevAt s (j + 1) = s[j].f0 := by
  unfold prevAt
  rw [if_neg (by omega), show ((j + 1 : Nat) : Int) - 1 = (j : Int) by omega, rd_at s j h]
theorem check_l0 (s : List S61) (hw : Wf s) (hl : s.length ≤ 9223372036854775807) (d : Nat) : ∀ (j k : Nat) (sum : Int), s.length - j = d → j ≤ s.length → d < k → 0 ≤ sum → sum ≤ 1099511627776 →
    sketch_Check.l0 k s sum s (s.length : Int) (j : Int) = some (if okS sum (prevAt s j) (s.drop j) = true then 0 else 1) := by
  induction d with
  | zero =>
    intro j k sum hd hj hk h0 h1
    obtain ⟨k, rfl⟩ : ∃ m, k = m + 1 := ⟨k - 1, by omega⟩
    rw [sketch_Check.l0, if_neg (by omega), List.drop_of_length_le (by omega)]
    rfl
  | succ d ih =>
    intro j k sum hd hj hk h0 h1
    obtain ⟨k, rfl⟩ : ∃ m, k = m + 1 := ⟨k - 1, by omega⟩
    have hjl : j < s.length := by omega
    obtain ⟨x0, x1⟩ := wf_i64 (hw s[j] (List.getElem_mem hjl))
    have his : sketch_is.f s[j].f0 = some (decide (-960 ≤ s[j].f0 ∧ s[j].f0 < 960)) := if_pos x0
    unfold I64 at x0 x1
    rw [sketch_Check.l0, if_pos (by omega), if_pos (by omega), if_pos (by omega), rd_at s j hjl, his, Option.bind_some, List.drop_eq_getElem_cons hjl]
    show _ = some (if (good sum (prevAt s j) s[j] && okS (sum + s[j].f1) s[j].f0 (s.drop (j + 1))) = true then 0 else 1)
    have hg := @good_iff sum (prevAt s j) s[j]
    have hb : ∀ b : Bool, good sum (prevAt s j) s[j] = false → (1 : Int) = if (good sum (prevAt s j) s[j] && b) = true then 0 else 1 := fun b h => by rw [h]; rfl
    have hf : ¬ (-960 ≤ s[j].f0 ∧ s[j].f0 < 960 ∧ 1 ≤ s[j].f1 ∧ s[j].f1 ≤ 1099511627776 - sum ∧ prevAt s j < s[j].f0) → good sum (prevAt s j) s[j] = false := fun h => by
      rw [← hg] at h; exact Bool.eq_false_iff.2 h
    by_cases c1 : -960 ≤ s[j].f0 ∧ s[j].f0 < 960
    · rw [if_pos (decide_eq_true c1)]
      by_cases c2 : s[j].f1 < 1
      · rw [if_pos c2]; exact congrArg some (hb _ (hf (by omega)))
      · rw [if_neg c2, w64 (x := 1099511627776 - sum) (by omega) (by omega)]
        by_cases c3 : s[j].f1 > 1099511627776 - sum
        · rw [if_pos c3]; exact congrArg some (hb _ (hf (by omega)))
        · rw [if_neg c3, w64 (x := sum + s[j].f1) (by omega) (by omega), w64 (x := (j : Int) + 1) (by omega) (by omega)]
          have hrec : prevAt s j < s[j].f0 → sketch_Check.l0 k s (sum + s[j].f1) s (s.length : Int) ((j : Int) + 1) = some (if (good sum (prevAt s j) s[j] && okS (sum + s[j].f1) s[j].f0 (s.drop (j + 1))) = true then 0 else 1) := fun hp => by
            have := ih (j + 1) k (sum + s[j].f1) (by omega) (by omega) (by omega) (by omega) (by omega)
            rw [prev_succ s j hjl] at this
            rw [show ((j : Int) + 1) = ((j + 1 : Nat) : Int) by omega, this, good_iff.2 ⟨c1.1, c1.2, by omega, by omega, hp⟩, Bool.true_and]
          by_cases c4 : (j : Int) > 0
          · have hpe : prevAt s j = (rd_T61 s ((j : Int) - 1)).f0 := if_neg (by omega)
            rw [if_pos c4, w64 (x := (j : Int) - 1) (by omega) (by omega), if_pos (by omega), if_pos (by omega), ← hpe]
            by_cases c5 : prevAt s j ≥ s[j].f0
            · rw [if_pos c5]; exact congrArg some (hb _ (hf (by omega)))
            · rw [if_neg c5]; exact hrec (by omega)
          · rw [if_neg c4]
            have hpe : prevAt s j = -961 := if_pos (by omega)
            exact hrec (by omega)
    · rw [if_neg (by rw [decide_eq_true_eq]; exact c1)]; exact congrArg some (hb _ (hf (by omega)))
theorem may_l0 (s : List S61) (hw : Wf s) (hl : s.length ≤ 9223372036854775807) (d : Nat) : ∀ (j k : Nat) (sum : Int), s.length - j = d → j ≤ s.length → d < k → 0 ≤ sum → sum ≤ 1099511627776 →
    headgateref29_May.l0 k s sum (j : Int) = some (okS sum (prevAt s j) (s.drop j)) := by
  induction d with
  | zero =>
    intro j k sum hd hj hk h0 h1
    obtain ⟨k, rfl⟩ : ∃ m, k = m + 1 := ⟨k - 1, by omega⟩
    rw [headgateref29_May.l0, if_neg (by omega), List.drop_of_length_le (by omega)]
    rfl
  | succ d ih =>
    intro j k sum hd hj hk h0 h1
    obtain ⟨k, rfl⟩ : ∃ m, k = m + 1 := ⟨k - 1, by omega⟩
    have hjl : j < s.length := by omega
    obtain ⟨x0, x1⟩ := wf_i64 (hw s[j] (List.getElem_mem hjl))
    unfold I64 at x0 x1
    rw [headgateref29_May.l0, if_pos (by omega), if_pos (by omega), rd_at s j hjl, List.drop_eq_getElem_cons hjl]
    show _ = some (good sum (prevAt s j) s[j] && okS (sum + s[j].f1) s[j].f0 (s.drop (j + 1)))
    have hg := @good_iff sum (prevAt s j) s[j]
    have hb : ∀ b : Bool, good sum (prevAt s j) s[j] = false → false = (good sum (prevAt s j) s[j] && b) := fun b h => by rw [h]; rfl
    have hf : ¬ (-960 ≤ s[j].f0 ∧ s[j].f0 < 960 ∧ 1 ≤ s[j].f1 ∧ s[j].f1 ≤ 1099511627776 - sum ∧ prevAt s j < s[j].f0) → good sum (prevAt s j) s[j] = false := fun h => by
      rw [← hg] at h; exact Bool.eq_false_iff.2 h
    by_cases c1 : s[j].f0 < -960
    · rw [if_pos c1]; exact congrArg some (hb _ (hf (by omega)))
    · rw [if_neg c1]
      by_cases c1' : s[j].f0 ≥ 960
      · rw [if_pos c1']; exact congrArg some (hb _ (hf (by omega)))
      · rw [if_neg c1']
        by_cases c2 : s[j].f1 < 1
        · rw [if_pos c2]; exact congrArg some (hb _ (hf (by omega)))
        · rw [if_neg c2, w64 (x := 1099511627776 - sum) (by omega) (by omega)]
          by_cases c3 : s[j].f1 > 1099511627776 - sum
          · rw [if_pos c3]; exact congrArg some (hb _ (hf (by omega)))
          · rw [if_neg c3, w64 (x := sum + s[j].f1) (by omega) (by omega), w64 (x := (j : Int) + 1) (by omega) (by omega)]
            have hrec : prevAt s j < s[j].f0 → headgateref29_May.l0 k s (sum + s[j].f1) ((j : Int) + 1) = some (good sum (prevAt s j) s[j] && okS (sum + s[j].f1) s[j].f0 (s.drop (j + 1))) := fun hp => by
              have := ih (j + 1) k (sum + s[j].f1) (by omega) (by omega) (by omega) (by omega) (by omega)
              rw [prev_succ s j hjl] at this
              rw [show ((j : Int) + 1) = ((j + 1 : Nat) : Int) by omega, this, good_iff.2 ⟨by omega, by omega, by omega, by omega, hp⟩, Bool.true_and]
            by_cases c4 : (j : Int) > 0
            · have hpe : prevAt s j = (rd_T61 s ((j : Int) - 1)).f0 := if_neg (by omega)
              rw [if_pos c4, w64 (x := (j : Int) - 1) (by omega) (by omega), if_pos (by omega), if_pos (by omega), ← hpe]
              by_cases c5 : s[j].f0 ≤ prevAt s j
              · rw [if_pos c5]; exact congrArg some (hb _ (hf (by omega)))
              · rw [if_neg c5]; exact hrec (by omega)
            · rw [if_neg c4]
              have hpe : prevAt s j = -961 := if_pos (by omega)
              exact hrec (by omega)
/-- May a sketch be? -/
def may (s : List S61) : Bool := okS 0 (-961) s
theorem check_eq (s : List S61) (hw : Wf s) (hl : s.length ≤ 9223372036854775807) (k : Nat) (hk : s.length < k) : sketch_Check.f k s = some (if may s = true then 0 else 1) :=
  check_l0 s hw hl s.length 0 k 0 (by omega) (by omega) hk (by omega) (by omega)
theorem rmay_eq (s : List S61) (hw : Wf s) (hl : s.length ≤ 9223372036854775807) (k : Nat) (hk : s.length < k) : headgateref29_May.f k s = some (may s) :=
  may_l0 s hw hl s.length 0 k 0 (by omega) (by omega) hk (by omega) (by omega)
def cnt (s : List S61) : Int := if may s = true then tot s else 0
theorem cnt_bd (s : List S61) : 0 ≤ cnt s ∧ cnt s ≤ 1099511627776 := by
  unfold cnt
  split
  · rename_i h; have := tot_le h (by omega); omega
  · omega
theorem count_l0 (s : List S61) (hl : s.length ≤ 9223372036854775807) (d : Nat) : ∀ (j k : Nat) (sum : Int), s.length - j = d → j ≤ s.length → d < k → 0 ≤ sum → sum + tot (s.drop j) ≤ 1099511627776 → (∀ y ∈ s, 1 ≤ y.f1) →
    sketch_Count.l0 k sum s (s.length : Int) (j : Int) = some (sum + tot (s.drop j)) ∧ headgateref29_Count.l0 k s sum (j : Int) = some (sum + tot (s.drop j)) := by
  induction d with
  | zero =>
    intro j k sum hd hj hk h0 h1 hp
    obtain ⟨k, rfl⟩ : ∃ m, k = m + 1 := ⟨k - 1, by omega⟩
    rw [sketch_Count.l0, headgateref29_Count.l0, if_neg (by omega), if_neg (by omega), List.drop_of_length_le (by omega)]
    exact ⟨congrArg some (Int.add_zero _).symm, congrArg some (Int.add_zero _).symm⟩
  | succ d ih =>
    intro j k sum hd hj hk h0 h1 hp
    obtain ⟨k, rfl⟩ : ∃ m, k = m + 1 := ⟨k - 1, by omega⟩
    have hjl : j < s.length := by omega
    have hx := hp s[j] (List.getElem_mem hjl)
    have ht : tot (s.drop j) = s[j].f1 + tot (s.drop (j + 1)) := by rw [List.drop_eq_getElem_cons hjl]; rfl
    have hnn : ∀ l : List S61, (∀ y ∈ l, 1 ≤ y.f1) → 0 ≤ tot l := fun l h => by
      induction l with
      | nil => exact Int.le_refl 0
      | cons x r ih => have h1 := ih fun y hy => h y (List.mem_cons_of_mem _ hy); have h2 := h x (List.mem_cons_self ..); show 0 ≤ x.f1 + tot r; omega
    have hn := hnn (s.drop (j + 1)) fun y hy => hp y (List.mem_of_mem_drop hy)
    have := ih (j + 1) k (sum + s[j].f1) (by omega) (by omega) (by omega) (by omega) (by omega) hp
    rw [sketch_Count.l0, headgateref29_Count.l0, if_pos (by omega), if_pos (by omega), if_pos (by omega), if_pos (by omega), if_pos (by omega), rd_at s j hjl, w64 (x := sum + s[j].f1) (by omega) (by omega), w64 (x := (j : Int) + 1) (by omega) (by omega), show ((j : Int) + 1) = ((j + 1 : Nat) : Int) by omega, this.1, this.2, ht]
    exact ⟨congrArg some (by omega), congrArg some (by omega)⟩
theorem count_eq (s : List S61) (hw : Wf s) (hl : s.length ≤ 9223372036854775807) (k : Nat) (hk : s.length < k) : sketch_Count.f k s = some (cnt s) := by
  unfold sketch_Count.f cnt
  rw [check_eq s hw hl k hk, Option.bind_some]
  by_cases h : may s = true
  · have ht := tot_le h (by omega)
    have := (count_l0 s hl s.length 0 k 0 (by omega) (by omega) hk (by omega) (by rw [List.drop_zero]; omega) (fun y hy => (ht.2.2 y hy).2.2.1)).1
    rw [List.drop_zero, Int.zero_add] at this
    rw [if_pos h, if_pos rfl, if_pos h]
    exact this
  · rw [if_neg h, if_neg (by omega), if_neg h]
theorem rcount_eq (s : List S61) (hw : Wf s) (hl : s.length ≤ 9223372036854775807) (k : Nat) (hk : s.length < k) : headgateref29_Count.f k s = some (cnt s) := by
  unfold headgateref29_Count.f cnt
  rw [rmay_eq s hw hl k hk, Option.bind_some]
  by_cases h : may s = true
  · have ht := tot_le h (by omega)
    have := (count_l0 s hl s.length 0 k 0 (by omega) (by omega) hk (by omega) (by rw [List.drop_zero]; omega) (fun y hy => (ht.2.2 y hy).2.2.1)).2
    rw [List.drop_zero, Int.zero_add] at this
    rw [if_pos h, if_pos h]
    exact this
  · rw [if_neg h, if_neg h]
end Go.Proofs.Ytgijangnoekbjaa.Sc
