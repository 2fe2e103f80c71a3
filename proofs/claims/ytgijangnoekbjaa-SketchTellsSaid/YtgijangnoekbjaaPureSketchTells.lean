/- For any numbers (their first 200), any part and any number of parts: the k-th number, by size, lies in the bucket that is told. No condition. -/
import Derived.Test.YtgijangnoekbjaaPx2
import Derived.Test.YtgijangnoekbjaaPx3
import Derived.Test.YtgijangnoekbjaaPx6
import Derived.Test.YtgijangnoekbjaaPx7
import Derived.Test.YtgijangnoekbjaaPx8
import Derived.Test.YtgijangnoekbjaaPx9
import Derived.Test.YtgijangnoekbjaaPx10
import Derived.Test.YtgijangnoekbjaaPx20
import Derived.Test.YtgijangnoekbjaaPx21
import Derived.Test.YtgijangnoekbjaaPx22
import Derived.Test.YtgijangnoekbjaaPx30
import Derived.Test.YtgijangnoekbjaaSm
import Derived.Test.YtgijangnoekbjaaVm
import Derived.Laws.Bits64
set_option linter.unusedVariables false
set_option linter.unusedSimpArgs false
namespace Go.Proofs.Ytgijangnoekbjaa.Sp
open Go.RowKit Go.Proofs.Ytgijangnoekbjaa.Vm Go.Proofs.Ytgijangnoekbjaa.Sm Go.Proofs.Ytgijangnoekbjaa.P Go.Proofs.YtgijangnoekbjaaW.PrintWords
theorem w64 {x : Int} (h0 : -9223372036854775808 ≤ x) (h1 : x ≤ 9223372036854775807) : wrap64 x = x := by unfold wrap64; omega
theorem i64_of {n : Int} (h : (Lit.int .i64 n).wf = true) : I64 n := by
  simp only [Lit.wf, IntKind.min, IntKind.max, IntKind.signed, IntKind.bits, Bool.and_eq_true, decide_eq_true_eq, if_true] at h
  unfold I64
  omega
def endsR (b : Int) : Int × Int × Int := if -960 ≤ b ∧ b < 960 then (lo b, lo (b + 1) - 1, 0) else (0, 0, 1)
theorem of_eq {v : Int} (h : I64 v) : sketch_Of.f v = some (bk v) := if_pos h
theorem lo_neg (a : Nat) : lo (-1 - (a : Int)) = -(lst (a + 1) : Int) ∧ lo (-1 - (a : Int) + 1) = -(lst a : Int) := by
  constructor
  · unfold lo; rw [if_pos (by omega), show (-(-1 - (a : Int))).toNat = a + 1 by omega]
  · unfold lo
    by_cases h1 : -1 - (a : Int) + 1 < 0
    · rw [if_pos h1, show (-(-1 - (a : Int) + 1)).toNat = a by omega]
    · obtain rfl : a = 0 := by omega
      rw [if_neg h1, show (-1 - ((0 : Nat) : Int) + 1).toNat = 0 by omega]
      decide
theorem lo_pos (a : Nat) : lo (a : Int) = (lst a : Int) ∧ lo ((a : Int) + 1) = (lst (a + 1) : Int) := by
  constructor
  · unfold lo; rw [if_neg (by omega), Int.toNat_natCast]
  · unfold lo; rw [if_neg (by omega), show ((a : Int) + 1).toNat = a + 1 by omega]
theorem lst_959 (a : Nat) (h : a + 1 < 960) : lst (a + 1) < 9223372036854775808 := by
  have h1 := lst_lt (a + 1)
  have h2 : lst (a + 1 + 1) ≤ lst 960 := lst_mono (by omega)
  rw [lst_960] at h2
  omega
theorem ends_eq {b : Int} (h : I64 b) : sketch_Ends.f b = some (endsR b) := by
  have his : sketch_is.f b = some (decide (-960 ≤ b ∧ b < 960)) := if_pos h
  have hx := Len.notx b h
  unfold sketch_Ends.f endsR
  rw [his, Option.bind_some]
  by_cases hr : -960 ≤ b ∧ b < 960
  · rw [if_pos (decide_eq_true hr), if_pos hr]
    by_cases h0 : b < 0
    · obtain ⟨a, rfl⟩ : ∃ a : Nat, b = -1 - (a : Int) := ⟨(-1 - b).toNat, by omega⟩
      have hm : mx (-1 - (a : Int)) (Go.bits .xor .i64 (-1) (-1 - (a : Int))) = (a : Int) := by rw [hx]; unfold mx; split <;> omega
      have hl : sketch_least.f (a : Int) = some (lst a : Int) := if_pos (by omega)
      obtain ⟨e1, e2⟩ := lo_neg a
      have hb := lst_lt a
      rw [hm, hl, Option.bind_some, w64 (by omega) (by omega), e1, e2]
      by_cases h9 : a + 1 < 960
      · have hl2 : sketch_least.f ((a : Int) + 1) = some (lst (a + 1) : Int) := if_pos (by omega)
        have hb9 := lst_959 a h9
        rw [if_pos (by omega), hl2, Option.bind_some, if_pos h0, w64 (by omega) (by omega), Len.notx _ (by unfold I64; omega), Len.notx _ (by unfold I64; omega)]
        simp only [Option.some.injEq, Prod.mk.injEq]
        exact ⟨by omega, by omega, trivial⟩
      · obtain rfl : a = 959 := by omega
        have e9 : lst (959 + 1) = 9223372036854775808 := lst_960
        rw [e9] at hb ⊢
        rw [if_neg (by omega), if_pos h0, Len.notx _ (by unfold I64; omega), Len.notx _ (by unfold I64; omega)]
        simp only [Option.some.injEq, Prod.mk.injEq]
        exact ⟨by omega, by omega, trivial⟩
    · obtain ⟨a, rfl⟩ : ∃ a : Nat, b = (a : Int) := ⟨b.toNat, by omega⟩
      have hm : mx (a : Int) (Go.bits .xor .i64 (-1) (a : Int)) = (a : Int) := by rw [hx]; unfold mx; split <;> omega
      have hl : sketch_least.f (a : Int) = some (lst a : Int) := if_pos (by omega)
      obtain ⟨e1, e2⟩ := lo_pos a
      have hb := lst_lt a
      rw [hm, hl, Option.bind_some, w64 (by omega) (by omega), e1, e2]
      by_cases h9 : a + 1 < 960
      · have hl2 : sketch_least.f ((a : Int) + 1) = some (lst (a + 1) : Int) := if_pos (by omega)
        have hb9 := lst_959 a h9
        rw [if_pos (by omega), hl2, Option.bind_some, if_neg h0, w64 (by omega) (by omega)]
      · obtain rfl : a = 959 := by omega
        have e9 : lst (959 + 1) = 9223372036854775808 := lst_960
        rw [e9] at hb ⊢
        rw [if_neg (by omega), if_neg h0]
        rfl
  · rw [if_neg (by rw [decide_eq_true_eq]; exact hr), if_neg hr]
theorem awake_eq : headgatelaw29_awake.f = some true := by
  have o1 : bk 31 = 31 := by decide
  have o2 : bk 32 = 32 := by decide
  have o3 : bk 33 = 32 := by decide
  have o4 : bk 1000 = 111 := by decide
  have o5 : bk (-1) = -1 := by decide
  have e1 : endsR 111 = (992, 1023, 0) := by decide
  unfold headgatelaw29_awake.f
  rw [ends_eq (by decide), e1, Option.bind_some, of_eq (by decide), o1, Option.bind_some, if_pos rfl, of_eq (by decide), o2, Option.bind_some, if_pos rfl, of_eq (by decide), o3, Option.bind_some, if_pos rfl, of_eq (by decide), o4, Option.bind_some, if_pos rfl, of_eq (by decide), o5, Option.bind_some, if_pos rfl, if_pos rfl, if_pos rfl]
  rfl
end Go.Proofs.Ytgijangnoekbjaa.Sp
set_option linter.unusedVariables false
set_option linter.unusedSimpArgs false
namespace Go.Proofs.Ytgijangnoekbjaa.Sc
open Go.RowKit Go.Proofs.Ytgijangnoekbjaa.Vm Go.Proofs.Ytgijangnoekbjaa.Sm Go.Proofs.Ytgijangnoekbjaa.Sp Go.Proofs.Ytgijangnoekbjaa.P Go.Proofs.YtgijangnoekbjaaW.PrintWords Go.Proofs.YtgijangnoekbjaaW.PrintLast
def Wf (s : List S61) : Prop := ∀ y ∈ s, wf61 y
def good (sum prev : Int) (x : S61) : Bool := decide (-960 ≤ x.f0 ∧ x.f0 < 960 ∧ 1 ≤ x.f1 ∧ x.f1 ≤ 1099511627776 - sum ∧ prev < x.f0)
def okS : Int → Int → List S61 → Bool
  | _, _, [] => true
  | sum, prev, x :: r => good sum prev x && okS (sum + x.f1) x.f0 r
def tot : List S61 → Int
  | [] => 0
  | x :: r => x.f1 + tot r
def pk : Int → List S61 → Int
  | _, [] => 0
  | r, x :: l => if r ≤ x.f1 then x.f0 else pk (r - x.f1) l
theorem good_iff {sum prev : Int} {x : S61} : good sum prev x = true ↔ (-960 ≤ x.f0 ∧ x.f0 < 960 ∧ 1 ≤ x.f1 ∧ x.f1 ≤ 1099511627776 - sum ∧ prev < x.f0) := by unfold good; exact decide_eq_true_iff
theorem tot_le {sum prev : Int} {l : List S61} (h : okS sum prev l = true) (h0 : sum ≤ 1099511627776) : sum + tot l ≤ 1099511627776 ∧ (l.length : Int) ≤ tot l ∧ (∀ y ∈ l, -960 ≤ y.f0 ∧ y.f0 < 960 ∧ 1 ≤ y.f1 ∧ y.f1 ≤ tot l) := by
  induction l generalizing sum prev with
  | nil => exact ⟨by show sum + 0 ≤ _; omega, by show ((0 : Nat) : Int) ≤ 0; omega, fun y hy => by cases hy⟩
  | cons x r ih =>
    unfold okS at h
    rw [Bool.and_eq_true, good_iff] at h
    obtain ⟨⟨a1, a2, a3, a4, a5⟩, h2⟩ := h
    obtain ⟨b1, b2, b3⟩ := ih h2 (by omega)
    have ht : tot (x :: r) = x.f1 + tot r := rfl
    refine ⟨by omega, by rw [List.length_cons]; omega, fun y hy => ?_⟩
    rcases List.mem_cons.1 hy with rfl | hy
    · omega
    · have := b3 y hy; omega
theorem wf_i64 {x : S61} (h : wf61 x) : I64 x.f0 ∧ I64 x.f1 := ⟨i64_of h.1, i64_of h.2⟩
theorem rd_at (s : List S61) (j : Nat) (h : j < s.length) : rd_T61 s (j : Int) = s[j] := by
  unfold rd_T61
  rw [Int.toNat_natCast, List.getD_eq_getElem?_getD, List.getElem?_eq_getElem h]
  rfl
def prevAt (s : List S61) (j : Nat) : Int := if j = 0 then -961 else (rd_T61 s ((j : Int) - 1)).f0
theorem prev_succ (s : List S61) (j : Nat) (h : j < s.length) : prevAt s (j + 1) = s[j].f0 := by
  unfold prevAt
  rw [if_neg (by omega), show ((j + 1 : Nat) : Int) - 1 = (j : Int) by omega, rd_at s j h]
theorem check_l0 (s : List S61) (hw : Wf s) (hl : s.length ≤ 9223372036854775807) (d : Nat) : ∀ (j k : Nat) (sum : Int), s.length - j = d → j ≤ s.length → d < k → 0 ≤ sum → sum ≤ 1099511627776 →
    sketch_Check.l0 k s sum s (s.length : Int) (j : Int) = some (if okS sum (prevAt s j) (s.drop j) = true then 0 else 1) := by
  induction d with
  | zero =>
    intro j k sum hd hj hk h0 h1
    obtain ⟨k, rfl⟩ : ∃ m, k = m + 1 := ⟨k - 1, by omega⟩
    rw [sketch_Check.l0, if_neg (by omega), List.drop_of_length_le (by omega)]
    rfl
  | succ d ih =>
    intro j k sum hd hj hk h0 h1
    obtain ⟨k, rfl⟩ : ∃ m, k = m + 1 := ⟨k - 1, by omega⟩
    have hjl : j < s.length := by omega
    obtain ⟨x0, x1⟩ := wf_i64 (hw s[j] (List.getElem_mem hjl))
    have his : sketch_is.f s[j].f0 = some (decide (-960 ≤ s[j].f0 ∧ s[j].f0 < 960)) := if_pos x0
    unfold I64 at x0 x1
    rw [sketch_Check.l0, if_pos (by omega), if_pos (by omega), if_pos (by omega), rd_at s j hjl, his, Option.bind_some, List.drop_eq_getElem_cons hjl]
    show _ = some (if (good sum (prevAt s j) s[j] && okS (sum + s[j].f1) s[j].f0 (s.drop (j + 1))) = true then 0 else 1)
    have hg := @good_iff sum (prevAt s j) s[j]
    have hb : ∀ b : Bool, good sum (prevAt s j) s[j] = false → (1 : Int) = if (good sum (prevAt s j) s[j] && b) = true then 0 else 1 := fun b h => by rw [h]; rfl
    have hf : ¬ (-960 ≤ s[j].f0 ∧ s[j].f0 < 960 ∧ 1 ≤ s[j].f1 ∧ s[j].f1 ≤ 1099511627776 - sum ∧ prevAt s j < s[j].f0) → good sum (prevAt s j) s[j] = false := fun h => by
      rw [← hg] at h; exact Bool.eq_false_iff.2 h
    by_cases c1 : -960 ≤ s[j].f0 ∧ s[j].f0 < 960
    · rw [if_pos (decide_eq_true c1)]
      by_cases c2 : s[j].f1 < 1
      · rw [if_pos c2]; exact congrArg some (hb _ (hf (by omega)))
      · rw [if_neg c2, w64 (x := 1099511627776 - sum) (by omega) (by omega)]
        by_cases c3 : s[j].f1 > 1099511627776 - sum
        · rw [if_pos c3]; exact congrArg some (hb _ (hf (by omega)))
        · rw [if_neg c3, w64 (x := sum + s[j].f1) (by omega) (by omega), w64 (x := (j : Int) + 1) (by omega) (by omega)]
          have hrec : prevAt s j < s[j].f0 → sketch_Check.l0 k s (sum + s[j].f1) s (s.length : Int) ((j : Int) + 1) = some (if (good sum (prevAt s j) s[j] && okS (sum + s[j].f1) s[j].f0 (s.drop (j + 1))) = true then 0 else 1) := fun hp => by
            have := ih (j + 1) k (sum + s[j].f1) (by omega) (by omega) (by omega) (by omega) (by omega)
            rw [prev_succ s j hjl] at this
            rw [show ((j : Int) + 1) = ((j + 1 : Nat) : Int) by omega, this, good_iff.2 ⟨c1.1, c1.2, by omega, by omega, hp⟩, Bool.true_and]
          by_cases c4 : (j : Int) > 0
          · have hpe : prevAt s j = (rd_T61 s ((j : Int) - 1)).f0 := if_neg (by omega)
            rw [if_pos c4, w64 (x := (j : Int) - 1) (by omega) (by omega), if_pos (by omega), if_pos (by omega), ← hpe]
            by_cases c5 : prevAt s j ≥ s[j].f0
            · rw [if_pos c5]; exact congrArg some (hb _ (hf (by omega)))
            · rw [if_neg c5]; exact hrec (by omega)
          · rw [if_neg c4]
            have hpe : prevAt s j = -961 := if_pos (by omega)
            exact hrec (by omega)
    · rw [if_neg (by rw [decide_eq_true_eq]; exact c1)]; exact congrArg some (hb _ (hf (by omega)))
theorem may_l0 (s : List S61) (hw : Wf s) (hl : s.length ≤ 9223372036854775807) (d : Nat) : ∀ (j k : Nat) (sum : Int), s.length - j = d → j ≤ s.length → d < k → 0 ≤ sum → sum ≤ 1099511627776 →
    headgateref29_May.l0 k s sum (j : Int) = some (okS sum (prevAt s j) (s.drop j)) := by
  induction d with
  | zero =>
    intro j k sum hd hj hk h0 h1
    obtain ⟨k, rfl⟩ : ∃ m, k = m + 1 := ⟨k - 1, by omega⟩
    rw [headgateref29_May.l0, if_neg (by omega), List.drop_of_length_le (by omega)]
    rfl
  | succ d ih =>
    intro j k sum hd hj hk h0 h1
    obtain ⟨k, rfl⟩ : ∃ m, k = m + 1 := ⟨k - 1, by omega⟩
    have hjl : j < s.length := by omega
    obtain ⟨x0, x1⟩ := wf_i64 (hw s[j] (List.getElem_mem hjl))
    unfold I64 at x0 x1
    rw [headgateref29_May.l0, if_pos (by omega), if_pos (by omega), rd_at s j hjl, List.drop_eq_getElem_cons hjl]
    show _ = some (good sum (prevAt s j) s[j] && okS (sum + s[j].f1) s[j].f0 (s.drop (j + 1)))
    have hg := @good_iff sum (prevAt s j) s[j]
    have hb : ∀ b : Bool, good sum (prevAt s j) s[j] = false → false = (good sum (prevAt s j) s[j] && b) := fun b h => by rw [h]; rfl
    have hf : ¬ (-960 ≤ s[j].f0 ∧ s[j].f0 < 960 ∧ 1 ≤ s[j].f1 ∧ s[j].f1 ≤ 1099511627776 - sum ∧ prevAt s j < s[j].f0) → good sum (prevAt s j) s[j] = false := fun h => by
      rw [← hg] at h; exact Bool.eq_false_iff.2 h
    by_cases c1 : s[j].f0 < -960
    · rw [if_pos c1]; exact congrArg some (hb _ (hf (by omega)))
    · rw [if_neg c1]
      by_cases c1' : s[j].f0 ≥ 960
      · rw [if_pos c1']; exact congrArg some (hb _ (hf (by omega)))
      · rw [if_neg c1']
        by_cases c2 : s[j].f1 < 1
        · rw [if_pos c2]; exact congrArg some (hb _ (hf (by omega)))
        · rw [if_neg c2, w64 (x := 1099511627776 - sum) (by omega) (by omega)]
          by_cases c3 : s[j].f1 > 1099511627776 - sum
          · rw [if_pos c3]; exact congrArg some (hb _ (hf (by omega)))
          · rw [if_neg c3, w64 (x := sum + s[j].f1) (by omega) (by omega), w64 (x := (j : Int) + 1) (by omega) (by omega)]
            have hrec : prevAt s j < s[j].f0 → headgateref29_May.l0 k s (sum + s[j].f1) ((j : Int) + 1) = some (good sum (prevAt s j) s[j] && okS (sum + s[j].f1) s[j].f0 (s.drop (j + 1))) := fun hp => by
              have := ih (j + 1) k (sum + s[j].f1) (by omega) (by omega) (by omega) (by omega) (by omega)
              rw [prev_succ s j hjl] at this
              rw [show ((j : Int) + 1) = ((j + 1 : Nat) : Int) by omega, this, good_iff.2 ⟨by omega, by omega, by omega, by omega, hp⟩, Bool.true_and]
            by_cases c4 : (j : Int) > 0
            · have hpe : prevAt s j = (rd_T61 s ((j : Int) - 1)).f0 := if_neg (by omega)
              rw [if_pos c4, w64 (x := (j : Int) - 1) (by omega) (by omega), if_pos (by omega), if_pos (by omega), ← hpe]
              by_cases c5 : s[j].f0 ≤ prevAt s j
              · rw [if_pos c5]; exact congrArg some (hb _ (hf (by omega)))
              · rw [if_neg c5]; exact hrec (by omega)
            · rw [if_neg c4]
              have hpe : prevAt s j = -961 := if_pos (by omega)
              exact hrec (by omega)
/-- May a sketch be? -/
def may (s : List S61) : Bool := okS 0 (-961) s
theorem check_eq (s : List S61) (hw : Wf s) (hl : s.length ≤ 9223372036854775807) (k : Nat) (hk : s.length < k) : sketch_Check.f k s = some (if may s = true then 0 else 1) :=
  check_l0 s hw hl s.length 0 k 0 (by omega) (by omega) hk (by omega) (by omega)
theorem rmay_eq (s : List S61) (hw : Wf s) (hl : s.length ≤ 9223372036854775807) (k : Nat) (hk : s.length < k) : headgateref29_May.f k s = some (may s) :=
  may_l0 s hw hl s.length 0 k 0 (by omega) (by omega) hk (by omega) (by omega)
def cnt (s : List S61) : Int := if may s = true then tot s else 0
theorem cnt_bd (s : List S61) : 0 ≤ cnt s ∧ cnt s ≤ 1099511627776 := by
  unfold cnt
  split
  · rename_i h; have := tot_le h (by omega); omega
  · omega
theorem count_l0 (s : List S61) (hl : s.length ≤ 9223372036854775807) (d : Nat) : ∀ (j k : Nat) (sum : Int), s.length - j = d → j ≤ s.length → d < k → 0 ≤ sum → sum + tot (s.drop j) ≤ 1099511627776 → (∀ y ∈ s, 1 ≤ y.f1) →
    sketch_Count.l0 k sum s (s.length : Int) (j : Int) = some (sum + tot (s.drop j)) ∧ headgateref29_Count.l0 k s sum (j : Int) = some (sum + tot (s.drop j)) := by
  induction d with
  | zero =>
    intro j k sum hd hj hk h0 h1 hp
    obtain ⟨k, rfl⟩ : ∃ m, k = m + 1 := ⟨k - 1, by omega⟩
    rw [sketch_Count.l0, headgateref29_Count.l0, if_neg (by omega), if_neg (by omega), List.drop_of_length_le (by omega)]
    exact ⟨congrArg some (Int.add_zero _).symm, congrArg some (Int.add_zero _).symm⟩
  | succ d ih =>
    intro j k sum hd hj hk h0 h1 hp
    obtain ⟨k, rfl⟩ : ∃ m, k = m + 1 := ⟨k - 1, by omega⟩
    have hjl : j < s.length := by omega
    have hx := hp s[j] (List.getElem_mem hjl)
    have ht : tot (s.drop j) = s[j].f1 + tot (s.drop (j + 1)) := by rw [List.drop_eq_getElem_cons hjl]; rfl
    have hnn : ∀ l : List S61, (∀ y ∈ l, 1 ≤ y.f1) → 0 ≤ tot l := fun l h => by
      induction l with
      | nil => exact Int.le_refl 0
      | cons x r ih => have h1 := ih fun y hy => h y (List.mem_cons_of_mem _ hy); have h2 := h x (List.mem_cons_self ..); show 0 ≤ x.f1 + tot r; omega
    have hn := hnn (s.drop (j + 1)) fun y hy => hp y (List.mem_of_mem_drop hy)
    have := ih (j + 1) k (sum + s[j].f1) (by omega) (by omega) (by omega) (by omega) (by omega) hp
    rw [sketch_Count.l0, headgateref29_Count.l0, if_pos (by omega), if_pos (by omega), if_pos (by omega), if_pos (by omega), if_pos (by omega), rd_at s j hjl, w64 (x := sum + s[j].f1) (by omega) (by omega), w64 (x := (j : Int) + 1) (by omega) (by omega), show ((j : Int) + 1) = ((j + 1 : Nat) : Int) by omega, this.1, this.2, ht]
    exact ⟨congrArg some (by omega), congrArg some (by omega)⟩
theorem count_eq (s : List S61) (hw : Wf s) (hl : s.length ≤ 9223372036854775807) (k : Nat) (hk : s.length < k) : sketch_Count.f k s = some (cnt s) := by
  unfold sketch_Count.f cnt
  rw [check_eq s hw hl k hk, Option.bind_some]
  by_cases h : may s = true
  · have ht := tot_le h (by omega)
    have := (count_l0 s hl s.length 0 k 0 (by omega) (by omega) hk (by omega) (by rw [List.drop_zero]; omega) (fun y hy => (ht.2.2 y hy).2.2.1)).1
    rw [List.drop_zero, Int.zero_add] at this
    rw [if_pos h, if_pos rfl, if_pos h]
    exact this
  · rw [if_neg h, if_neg (by omega), if_neg h]
theorem rcount_eq (s : List S61) (hw : Wf s) (hl : s.length ≤ 9223372036854775807) (k : Nat) (hk : s.length < k) : headgateref29_Count.f k s = some (cnt s) := by
  unfold headgateref29_Count.f cnt
  rw [rmay_eq s hw hl k hk, Option.bind_some]
  by_cases h : may s = true
  · have ht := tot_le h (by omega)
    have := (count_l0 s hl s.length 0 k 0 (by omega) (by omega) hk (by omega) (by rw [List.drop_zero]; omega) (fun y hy => (ht.2.2 y hy).2.2.1)).2
    rw [List.drop_zero, Int.zero_add] at this
    rw [if_pos h, if_pos h]
    exact this
  · rw [if_neg h, if_neg h]
end Go.Proofs.Ytgijangnoekbjaa.Sc
set_option linter.unusedVariables false
set_option linter.unusedSimpArgs false
namespace Go.Proofs.Ytgijangnoekbjaa.Sa
open Go.RowKit Go.Proofs.Ytgijangnoekbjaa.Vm Go.Proofs.Ytgijangnoekbjaa.Sm Go.Proofs.Ytgijangnoekbjaa.Sp Go.Proofs.Ytgijangnoekbjaa.Sc Go.Proofs.Ytgijangnoekbjaa.P Go.Proofs.YtgijangnoekbjaaW.PrintWords Go.Proofs.YtgijangnoekbjaaW.PrintLast
/-- A bucket counted in a sketch. -/
def ins : List S61 → Int → Int → List S61
  | [], x, n => [⟨x, n⟩]
  | y :: s, x, n => if y.f0 < x then y :: ins s x n else if y.f0 = x then ⟨x, y.f1 + n⟩ :: s else ⟨x, n⟩ :: y :: s
def Srt (s : List S61) : Prop := s.Pairwise fun a b => a.f0 < b.f0
def Bd (s : List S61) : Prop := ∀ y ∈ s, -960 ≤ y.f0 ∧ y.f0 < 960 ∧ 1 ≤ y.f1
theorem okS_iff (s : List S61) : ∀ (sum prev : Int), sum ≤ 1099511627776 → (okS sum prev s = true ↔ Bd s ∧ (∀ y ∈ s, prev < y.f0) ∧ Srt s ∧ sum + tot s ≤ 1099511627776) := by
  induction s with
  | nil =>
    intro sum prev h
    refine ⟨fun _ => ⟨fun y hy => (by cases hy), fun y hy => (by cases hy), List.Pairwise.nil, ?_⟩, fun _ => rfl⟩
    show sum + 0 ≤ _
    omega
  | cons x r ih =>
    intro sum prev h
    have ht : tot (x :: r) = x.f1 + tot r := rfl
    have hd : okS sum prev (x :: r) = (good sum prev x && okS (sum + x.f1) x.f0 r) := rfl
    rw [hd, Bool.and_eq_true, good_iff]
    constructor
    · rintro ⟨⟨a1, a2, a3, a4, a5⟩, h2⟩
      obtain ⟨b1, b2, b3, b4⟩ := (ih _ _ (by omega)).1 h2
      refine ⟨fun y hy => ?_, fun y hy => ?_, List.pairwise_cons.2 ⟨b2, b3⟩, by omega⟩
      · rcases List.mem_cons.1 hy with rfl | hy
        · exact ⟨a1, a2, a3⟩
        · exact b1 y hy
      · rcases List.mem_cons.1 hy with rfl | hy
        · exact a5
        · have := b2 y hy; omega
    · rintro ⟨b1, b2, b3, b4⟩
      obtain ⟨a1, a2, a3⟩ := b1 x List.mem_cons_self
      have hr : Bd r := fun y hy => b1 y (List.mem_cons_of_mem _ hy)
      have h0 : 0 ≤ tot r := by
        clear ih b1 b2 b3 b4 ht hd
        induction r with
        | nil => exact Int.le_refl _
        | cons z r ih2 =>
          have e : tot (z :: r) = z.f1 + tot r := rfl
          have := (hr z List.mem_cons_self).2.2
          have := ih2 (fun y hy => hr y (List.mem_cons_of_mem _ hy))
          omega
      exact ⟨⟨a1, a2, a3, by omega, b2 x List.mem_cons_self⟩, (ih _ _ (by omega)).2 ⟨hr, (List.pairwise_cons.1 b3).1, (List.pairwise_cons.1 b3).2, by omega⟩⟩
theorem may_iff (s : List S61) : may s = true ↔ Bd s ∧ Srt s ∧ tot s ≤ 1099511627776 := by
  unfold may
  rw [okS_iff s 0 (-961) (by omega)]
  constructor
  · rintro ⟨a, b, c, d⟩; exact ⟨a, c, by omega⟩
  · rintro ⟨a, c, d⟩; exact ⟨a, fun y hy => by have := a y hy; omega, c, by omega⟩
theorem tot_ins (s : List S61) (x n : Int) : tot (ins s x n) = tot s + n := by
  induction s with
  | nil => show n + 0 = 0 + n; omega
  | cons y s ih =>
    have e1 : tot (y :: s) = y.f1 + tot s := rfl
    unfold ins
    split
    · have e2 : tot (y :: ins s x n) = y.f1 + tot (ins s x n) := rfl
      rw [e2, ih]; omega
    · split
      · have e2 : tot ((⟨x, y.f1 + n⟩ : S61) :: s) = y.f1 + n + tot s := rfl
        omega
      · have e2 : tot ((⟨x, n⟩ : S61) :: y :: s) = n + (y.f1 + tot s) := rfl
        omega
theorem mem_ins (s : List S61) (x n : Int) (y : S61) (h : y ∈ ins s x n) : y ∈ s ∨ (y.f0 = x ∧ (y.f1 = n ∨ ∃ z ∈ s, y.f1 = z.f1 + n)) := by
  induction s with
  | nil =>
    have : y = ⟨x, n⟩ := by simpa [ins] using h
    subst this; exact .inr ⟨rfl, .inl rfl⟩
  | cons z s ih =>
    unfold ins at h
    split at h
    · rcases List.mem_cons.1 h with rfl | h
      · exact .inl List.mem_cons_self
      · rcases ih h with h | ⟨h1, h2⟩
        · exact .inl (List.mem_cons_of_mem _ h)
        · exact .inr ⟨h1, h2.imp id (fun ⟨q, hq, e⟩ => ⟨q, List.mem_cons_of_mem _ hq, e⟩)⟩
    · split at h
      · rcases List.mem_cons.1 h with rfl | h
        · exact .inr ⟨rfl, .inr ⟨z, List.mem_cons_self, rfl⟩⟩
        · exact .inl (List.mem_cons_of_mem _ h)
      · rcases List.mem_cons.1 h with rfl | h
        · exact .inr ⟨rfl, .inl rfl⟩
        · exact .inl h
theorem bd_ins {s : List S61} {x n : Int} (h : Bd s) (hx : -960 ≤ x ∧ x < 960) (hn : 1 ≤ n) : Bd (ins s x n) := by
  intro y hy
  rcases mem_ins s x n y hy with h1 | ⟨h1, h2 | ⟨z, hz, h2⟩⟩
  · exact h y h1
  · omega
  · have := h z hz; omega
theorem srt_ins {s : List S61} {x n : Int} (h : Srt s) : Srt (ins s x n) := by
  induction s with
  | nil => exact List.pairwise_singleton _ _
  | cons y s ih =>
    obtain ⟨h1, h2⟩ := List.pairwise_cons.1 h
    unfold ins
    split
    · rename_i c
      refine List.pairwise_cons.2 ⟨fun z hz => ?_, ih h2⟩
      rcases mem_ins s x n z hz with h3 | ⟨h3, _⟩
      · exact h1 z h3
      · rw [h3]; exact c
    · split
      · rename_i c
        exact List.pairwise_cons.2 ⟨fun z hz => by have := h1 z hz; rw [c] at this; exact this, h2⟩
      · refine List.pairwise_cons.2 ⟨fun z hz => ?_, h⟩
        rcases List.mem_cons.1 hz with rfl | hz
        · show x < z.f0; omega
        · have := h1 z hz; show x < z.f0; omega
theorem tot_nn {t : List S61} (hb : Bd t) : 0 ≤ tot t := by
  induction t with
  | nil => exact Int.le_refl _
  | cons z r ih2 =>
    have e : tot (z :: r) = z.f1 + tot r := rfl
    have := (hb z List.mem_cons_self).2.2
    have := ih2 (fun y hy => hb y (List.mem_cons_of_mem _ hy))
    omega
theorem may_ins {s : List S61} {x n : Int} (h : may s = true) (hx : -960 ≤ x ∧ x < 960) (hn : 1 ≤ n) (ht : tot s + n ≤ 1099511627776) : may (ins s x n) = true := by
  obtain ⟨a, b, c⟩ := (may_iff s).1 h
  exact (may_iff _).2 ⟨bd_ins a hx hn, srt_ins b, by rw [tot_ins]; exact ht⟩
theorem len_le {s : List S61} (h : may s = true) : s.length ≤ 1920 := by
  obtain ⟨a, b, c⟩ := (may_iff s).1 h
  have key : ∀ j, (hj : j < s.length) → (j : Int) - 960 ≤ s[j].f0 := by
    intro j
    induction j with
    | zero => intro hj; have := (a _ (List.getElem_mem hj)).1; omega
    | succ j ih =>
      intro hj
      have p := ih (by omega)
      have q := List.pairwise_iff_getElem.1 b j (j + 1) (by omega) hj (by omega)
      omega
  rcases Nat.lt_or_ge 1920 s.length with h1 | h1
  · have p := key 1920 h1
    have q := (a _ (List.getElem_mem h1)).2.1
    omega
  · exact h1
theorem wf_may {s : List S61} (h : may s = true) : ∀ y ∈ s, -960 ≤ y.f0 ∧ y.f0 < 960 ∧ 1 ≤ y.f1 ∧ y.f1 ≤ 1099511627776 := by
  intro y hy
  obtain ⟨t1, t2, t3⟩ := tot_le (show okS 0 (-961) s = true from h) (by omega)
  have := t3 y hy
  omega
theorem wf_of {s : List S61} (h : may s = true) : Wf s := by
  intro y hy
  have := wf_may h y hy
  refine ⟨?_, ?_⟩ <;> (simp [Lit.wf, IntKind.min, IntKind.max, IntKind.signed, IntKind.bits]; omega)
theorem cnt_may {s : List S61} (h : may s = true) : cnt s = tot s := if_pos h
/-- What sketch.put comes to. -/
theorem put_v (s : List S61) (x n : Int) : sketch_put.v s x n = ins s x n := by
  induction s with
  | nil => rfl
  | cons y s ih =>
    unfold ins
    have hlt : lt061 (y :: s) x = if y.f0 < x then lt061 s x + 1 else 0 := by
      unfold lt061
      rw [List.takeWhile_cons]
      by_cases c : y.f0 < x
      · rw [if_pos (by simpa using c), if_pos c]; rfl
      · rw [if_neg (by simpa using c), if_neg c]; rfl
    by_cases c : y.f0 < x
    · rw [if_pos c, ← ih]
      rw [if_pos c] at hlt
      unfold sketch_put.v
      rw [hlt]
      have hrd : rd_T61 (y :: s) ((lt061 s x + 1 : Nat) : Int) = rd_T61 s (lt061 s x : Int) := by
        simp [rd_T61]
      rw [hrd]
      by_cases d : lt061 s x < s.length ∧ (rd_T61 s (lt061 s x : Int)).f0 = x
      · rw [if_pos d, if_pos ⟨by simpa using d.1, d.2⟩]; rfl
      · rw [if_neg d, if_neg (fun h => d ⟨by simpa using h.1, h.2⟩)]; rfl
    · rw [if_neg c]
      rw [if_neg c] at hlt
      unfold sketch_put.v
      rw [hlt]
      have hrd : rd_T61 (y :: s) ((0 : Nat) : Int) = y := by simp [rd_T61]
      rw [hrd]
      by_cases d : y.f0 = x
      · rw [if_pos d, if_pos ⟨by simp, d⟩]; rfl
      · rw [if_neg d, if_neg (fun h => d h.2)]; rfl
theorem put_eq {s : List S61} {x n : Int} (h : may s = true) (hx : -960 ≤ x ∧ x < 960) (hn : 0 ≤ n ∧ n ≤ 1099511627776) : sketch_put.f s x n = some (ins s x n) := by
  have h1 := wf_may h
  have h2 := ((may_iff s).1 h).2.1
  have h3 := len_le h
  unfold sketch_put.f
  rw [if_pos, put_v]
  simp only [sketch_put.okB, Bool.and_eq_true, decide_eq_true_eq, List.all_eq_true]
  exact ⟨⟨⟨h2, fun y hy => by have := h1 y hy; omega⟩, by omega⟩, by omega⟩
/-- What a bucket has. -/
def has : List S61 → Int → Int
  | [], _ => 0
  | y :: s, b => (if y.f0 = b then y.f1 else 0) + has s b
theorem has_ins (s : List S61) (x n b : Int) : has (ins s x n) b = has s b + if x = b then n else 0 := by
  induction s with
  | nil => show (if x = b then n else 0) + 0 = 0 + _; omega
  | cons y s ih =>
    have e1 : has (y :: s) b = (if y.f0 = b then y.f1 else 0) + has s b := rfl
    unfold ins
    split
    · have e2 : has (y :: ins s x n) b = (if y.f0 = b then y.f1 else 0) + has (ins s x n) b := rfl
      rw [e2, ih, e1]; omega
    · split
      · rename_i c
        have e2 : has ((⟨x, y.f1 + n⟩ : S61) :: s) b = (if x = b then y.f1 + n else 0) + has s b := rfl
        rw [e2, e1, c]
        split <;> omega
      · have e2 : has ((⟨x, n⟩ : S61) :: y :: s) b = (if x = b then n else 0) + ((if y.f0 = b then y.f1 else 0) + has s b) := rfl
        rw [e2, e1]; omega
/-- Numbers counted. -/
def addAll (s : List S61) (l : List Int) : List S61 := l.foldl (fun s v => ins s (bk v) 1) s
def times : List Int → Int → Int
  | [], _ => 0
  | v :: l, b => (if bk v = b then 1 else 0) + times l b
theorem add_all (l : List Int) (hl : ∀ v ∈ l, I64 v) : ∀ (s : List S61), may s = true → tot s + l.length ≤ 1099511627776 → may (addAll s l) = true ∧ tot (addAll s l) = tot s + l.length ∧ ∀ b, has (addAll s l) b = has s b + times l b := by
  induction l with
  | nil => intro s h ht; exact ⟨h, by show tot s = tot s + ((0 : Nat) : Int); omega, fun b => by show has s b = has s b + 0; omega⟩
  | cons v l ih =>
    intro s h ht
    have hv := hl v List.mem_cons_self
    rw [List.length_cons] at ht
    have hr := bk_range v hv.1 hv.2
    obtain ⟨a1, a2, a3⟩ := ih (fun u hu => hl u (List.mem_cons_of_mem _ hu)) (ins s (bk v) 1) (may_ins h hr (by omega) (by omega)) (by rw [tot_ins]; omega)
    refine ⟨a1, by show tot (addAll (ins s (bk v) 1) l) = _; rw [a2, tot_ins, List.length_cons]; omega, fun b => ?_⟩
    show has (addAll (ins s (bk v) 1) l) b = _
    rw [a3 b, has_ins]
    show _ = has s b + ((if bk v = b then 1 else 0) + times l b)
    omega
theorem rd_int (l : List Int) (j : Nat) (h : j < l.length) : rd l (j : Int) = l[j] := by
  simp [rd, List.getD_eq_getElem?_getD, List.getElem?_eq_getElem h]
theorem add_l0 (l : List Int) (hl : ∀ v ∈ l, I64 v) (hn : l.length ≤ 9223372036854775806) (d : Nat) : ∀ (j k : Nat) (s : List S61), l.length - j = d → j ≤ l.length → d < k → may s = true → tot s + d ≤ 1099511627776 →
    sketch_Add.l0 k s l (l.length : Int) (j : Int) = some (addAll s (l.drop j), 0) := by
  induction d with
  | zero =>
    intro j k s hd hj hk hs ht
    obtain ⟨k, rfl⟩ : ∃ m, k = m + 1 := ⟨k - 1, by omega⟩
    rw [sketch_Add.l0, if_neg (by omega), List.drop_of_length_le (by omega)]
    rfl
  | succ d ih =>
    intro j k s hd hj hk hs ht
    obtain ⟨k, rfl⟩ : ∃ m, k = m + 1 := ⟨k - 1, by omega⟩
    have hjl : j < l.length := by omega
    have hv := hl _ (List.getElem_mem hjl)
    have hr := bk_range _ hv.1 hv.2
    rw [sketch_Add.l0, if_pos (by omega), if_pos (by omega), if_pos (by omega), rd_int l j hjl, of_eq hv, Option.bind_some, put_eq hs hr (by omega), Option.bind_some, show wrap64 ((j : Int) + 1) = ((j + 1 : Nat) : Int) by rw [w64 (by omega) (by omega)]; omega,
      ih (j + 1) k _ (by omega) (by omega) (by omega) (may_ins hs hr (by omega) (by omega)) (by rw [tot_ins]; omega), List.drop_eq_getElem_cons hjl]
    rfl
def addR (s : List S61) (l : List Int) : List S61 × Int := if may s = true then (if (l.length : Int) > 1099511627776 - cnt s then ([], 6) else (addAll s l, 0)) else ([], 1)
theorem add_eq (s : List S61) (l : List Int) (hw : Wf s) (hs : s.length ≤ 9223372036854775807) (hl : ∀ v ∈ l, I64 v) (k : Nat) (hk : s.length + l.length < k) : sketch_Add.f k s l = some (addR s l) := by
  unfold sketch_Add.f addR
  rw [check_eq s hw hs k (by omega), Option.bind_some]
  by_cases h : may s = true
  · obtain ⟨b1, b2⟩ := cnt_bd s
    have h3 := len_le h
    rw [if_pos h, if_pos rfl, count_eq s hw hs k (by omega), Option.bind_some, w64 (by omega) (by omega), if_pos h]
    by_cases c : (l.length : Int) > 1099511627776 - cnt s
    · rw [if_pos c, if_pos c]
    · rw [cnt_may h] at c
      have hc : api_Bucket_43.f s = some s := if_pos (by omega)
      have hnn := tot_nn ((may_iff s).1 h).1
      rw [if_neg (by rw [cnt_may h]; exact c), if_neg (by rw [cnt_may h]; exact c), hc, Option.bind_some]
      exact add_l0 l hl (by omega) l.length 0 k s rfl (by omega) (by omega) h (by omega)
  · rw [if_neg h, if_neg (by decide), if_neg h]
instance : DecidableEq S61 := fun a b => decidable_of_iff (a.f0 = b.f0 ∧ a.f1 = b.f1) ⟨fun h => by cases a; cases b; simp only at h; rw [h.1, h.2], fun h => by rw [h]; exact ⟨rfl, rfl⟩⟩
theorem some_eq (l : List Int) : headgatelaw29_some.f l = some (l.take 200) := by
  unfold headgatelaw29_some.f
  by_cases h : (l.length : Int) > 200
  · rw [if_pos h, if_pos (by omega)]
  · rw [if_neg h, List.take_of_length_le (by omega)]
end Go.Proofs.Ytgijangnoekbjaa.Sa
set_option linter.unusedVariables false
set_option linter.unusedSimpArgs false
namespace Go.Proofs.Ytgijangnoekbjaa.Sq
open Go.RowKit Go.Proofs.Ytgijangnoekbjaa.Vm Go.Proofs.Ytgijangnoekbjaa.Sm Go.Proofs.Ytgijangnoekbjaa.Sp Go.Proofs.Ytgijangnoekbjaa.Sc Go.Proofs.Ytgijangnoekbjaa.P Go.Proofs.YtgijangnoekbjaaW.PrintWords Go.Proofs.YtgijangnoekbjaaW.PrintLast
theorem quant_l0 (s : List S61) (hl : s.length ≤ 9223372036854775807) (hp : ∀ y ∈ s, 1 ≤ y.f1 ∧ y.f1 ≤ 1099511627776) (d : Nat) : ∀ (j k : Nat) (r : Int), s.length - j = d → j ≤ s.length → d < k → 1 ≤ r → r ≤ tot (s.drop j) → r ≤ 1099511627776 →
    sketch_Quantile.l0 k s r s (s.length : Int) (j : Int) = some (pk r (s.drop j), 0) ∧ headgateref29_Quantile.l0 k s r (j : Int) = some (pk r (s.drop j), 0) := by
  induction d with
  | zero =>
    intro j k r hd hj hk h0 h1 h2
    rw [List.drop_of_length_le (by omega)] at h1
    exact absurd (show r ≤ 0 from h1) (by omega)
  | succ d ih =>
    intro j k r hd hj hk h0 h1 h2
    obtain ⟨k, rfl⟩ : ∃ m, k = m + 1 := ⟨k - 1, by omega⟩
    have hjl : j < s.length := by omega
    obtain ⟨hx, hx2⟩ := hp s[j] (List.getElem_mem hjl)
    have hd' : s.drop j = s[j] :: s.drop (j + 1) := List.drop_eq_getElem_cons hjl
    have ht : tot (s.drop j) = s[j].f1 + tot (s.drop (j + 1)) := by rw [hd']; rfl
    have hpk : pk r (s.drop j) = if r ≤ s[j].f1 then s[j].f0 else pk (r - s[j].f1) (s.drop (j + 1)) := by rw [hd']; rfl
    rw [hpk]
    constructor
    · rw [sketch_Quantile.l0, if_pos (by omega), if_pos (by omega), if_pos (by omega), rd_at s j hjl, w64 (x := r - s[j].f1) (by omega) (by omega), w64 (x := (j : Int) + 1) (by omega) (by omega)]
      by_cases c : r ≤ s[j].f1
      · rw [if_pos c, if_pos (by omega)]
      · rw [if_neg c, if_neg (by omega), show ((j : Int) + 1) = ((j + 1 : Nat) : Int) by omega]
        exact (ih (j + 1) k (r - s[j].f1) (by omega) (by omega) (by omega) (by omega) (by omega) (by omega)).1
    · rw [headgateref29_Quantile.l0, if_pos (by omega), if_pos (by omega), rd_at s j hjl, w64 (x := r - s[j].f1) (by omega) (by omega), w64 (x := (j : Int) + 1) (by omega) (by omega)]
      by_cases c : r ≤ s[j].f1
      · rw [if_pos c, if_neg (by omega)]
      · rw [if_neg c, if_pos (by omega), show ((j : Int) + 1) = ((j + 1 : Nat) : Int) by omega]
        exact (ih (j + 1) k (r - s[j].f1) (by omega) (by omega) (by omega) (by omega) (by omega) (by omega)).2
/-- Which number, by size, a share is. -/
def rank (n part of_ : Int) : Int := mx 1 (n / of_ * part + (n % of_ * part / of_ + if n % of_ * part % of_ > 0 then 1 else 0))
theorem ceil_eq (x o : Int) (ho : 1 ≤ o) (hx : 0 ≤ x) : (x + o - 1) / o = x / o + if x % o > 0 then 1 else 0 := by
  have h1 := Int.mul_ediv_add_emod x o
  have h2 := Int.emod_nonneg x (show o ≠ 0 by omega)
  have h3 := Int.emod_lt_of_pos x (show 0 < o by omega)
  generalize x / o = a at h1
  generalize x % o = b at h1 h2 h3
  split
  · rw [show x + o - 1 = (b - 1) + o * (a + 1) by rw [Int.mul_add]; omega, Int.add_mul_ediv_left _ _ (by omega), Int.ediv_eq_zero_of_lt (by omega) (by omega)]
    omega
  · rw [show x + o - 1 = (o - 1) + o * a by omega, Int.add_mul_ediv_left _ _ (by omega), Int.ediv_eq_zero_of_lt (by omega) (by omega)]
    omega
theorem parts_bd (n part o : Int) (hn0 : 0 ≤ n) (hn : n ≤ 1099511627776) (ho : 1 ≤ o) (ho2 : o ≤ 1000000) (hp0 : 0 ≤ part) (hp : part ≤ o) :
    0 ≤ n / o ∧ 0 ≤ n % o ∧ n % o < o ∧ n / o ≤ n ∧ 0 ≤ n / o * part ∧ n / o * part ≤ n ∧ 0 ≤ n % o * part ∧ n % o * part ≤ 1000000000000 ∧ 0 ≤ n % o * part / o ∧ n / o * part + (n % o * part / o + if n % o * part % o > 0 then 1 else 0) ≤ n ∧ 0 ≤ n % o * part % o ∧ n % o * part / o ≤ 1000000 := by
  have h1 := Int.mul_ediv_add_emod n o
  have h2 := Int.emod_nonneg n (show o ≠ 0 by omega)
  have h3 := Int.emod_lt_of_pos n (show 0 < o by omega)
  have h4 : 0 ≤ n / o := Int.ediv_nonneg hn0 (by omega)
  have h5 : 0 ≤ n / o * part := Int.mul_nonneg h4 hp0
  have h6 : n / o * part ≤ o * (n / o) := by rw [Int.mul_comm o]; exact Int.mul_le_mul_of_nonneg_left hp h4
  have h7 : 0 ≤ n % o * part := Int.mul_nonneg h2 hp0
  have h8 : n % o * part ≤ n % o * o := Int.mul_le_mul_of_nonneg_left hp h2
  have h9 : n % o * o ≤ o * o := Int.mul_le_mul_of_nonneg_right (by omega) (by omega)
  have h10 : o * o ≤ 1000000 * 1000000 := Int.mul_le_mul ho2 ho2 (by omega) (by omega)
  have h11 : n / o ≤ n := Int.ediv_le_self _ hn0
  have g1 := Int.mul_ediv_add_emod (n % o * part) o
  have g2 := Int.emod_nonneg (n % o * part) (show o ≠ 0 by omega)
  have g3 := Int.emod_lt_of_pos (n % o * part) (show 0 < o by omega)
  have g4 : 0 ≤ n % o * part / o := Int.ediv_nonneg h7 (by omega)
  generalize n % o * part = X at *
  generalize n / o * part = Y at *
  generalize n / o = q at *
  generalize n % o = m at *
  generalize X % o = b at *
  generalize X / o = a at *
  have g5 : a + (if b > 0 then 1 else 0) ≤ m := by
    rw [Int.mul_comm m o] at h8
    split
    · have : o * a < o * m := by omega
      have := Int.lt_of_mul_lt_mul_left this (by omega)
      omega
    · have : o * a ≤ o * m := by omega
      have := Int.le_of_mul_le_mul_left this (by omega)
      omega
  refine ⟨h4, h2, h3, h11, h5, by omega, h7, by omega, g4, by omega, g2, by split at g5 <;> omega⟩
theorem rank_bd (n part o : Int) (hn0 : 1 ≤ n) (hn : n ≤ 1099511627776) (ho : 1 ≤ o) (ho2 : o ≤ 1000000) (hp0 : 0 ≤ part) (hp : part ≤ o) : 1 ≤ rank n part o ∧ rank n part o ≤ n := by
  have := parts_bd n part o (by omega) hn ho ho2 hp0 hp
  unfold rank mx
  split <;> omega
theorem srank_eq (n part o : Int) (hn0 : 0 ≤ n) (hn : n ≤ 1099511627776) (ho : 1 ≤ o) (ho2 : o ≤ 1000000) (hp0 : 0 ≤ part) (hp : part ≤ o) :
    mx 1 (wrap64 ((wrap64 ((wrap64 (Int.tdiv n o)) * part)) + (wrap64 (Int.tdiv (wrap64 ((wrap64 ((wrap64 ((Int.tmod n o) * part)) + o)) - 1)) o)))) = rank n part o := by
  obtain ⟨b1, b2, b3, b4, b5, b6, b7, b8, b9, b10, b11, b12⟩ := parts_bd n part o hn0 hn ho ho2 hp0 hp
  have hc := ceil_eq (n % o * part) o ho b7
  unfold rank
  rw [Int.tdiv_eq_ediv_of_nonneg hn0, Int.tmod_eq_emod_of_nonneg hn0]
  generalize n % o * part = X at *
  have hq : wrap64 (n / o) = n / o := w64 (by omega) (by omega)
  rw [hq]
  generalize n / o * part = Y at *
  rw [w64 (x := Y) (by omega) (by omega), w64 (x := X) (by omega) (by omega), w64 (x := X + o) (by omega) (by omega), w64 (x := X + o - 1) (by omega) (by omega), Int.tdiv_eq_ediv_of_nonneg (by omega), hc]
  generalize X / o = A at *
  generalize X % o = B at *
  have : (0 : Int) ≤ (if B > 0 then 1 else 0) ∧ (if B > 0 then (1 : Int) else 0) ≤ 1 := by split <;> omega
  generalize (if B > 0 then (1 : Int) else 0) = C at *
  rw [w64 (x := A + C) (by omega) (by omega), w64 (by omega) (by omega)]
theorem rrank_eq (n part o : Int) (hn0 : 0 ≤ n) (hn : n ≤ 1099511627776) (ho : 1 ≤ o) (ho2 : o ≤ 1000000) (hp0 : 0 ≤ part) (hp : part ≤ o) : headgateref29_Rank.f n part o = some (rank n part o) := by
  obtain ⟨b1, b2, b3, b4, b5, b6, b7, b8, b9, b10, b11, b12⟩ := parts_bd n part o hn0 hn ho ho2 hp0 hp
  unfold rank headgateref29_Rank.f
  rw [if_neg (by omega), Int.tdiv_eq_ediv_of_nonneg hn0, Int.tmod_eq_emod_of_nonneg hn0]
  generalize n % o * part = X at *
  have hq : wrap64 (n / o) = n / o := w64 (by omega) (by omega)
  rw [hq]
  generalize n / o * part = Y at *
  rw [w64 (x := Y) (by omega) (by omega), w64 (x := X) (by omega) (by omega), Int.tmod_eq_emod_of_nonneg b7, Int.tdiv_eq_ediv_of_nonneg b7]
  generalize X / o = A at *
  generalize X % o = B at *
  rw [w64 (x := A) (by omega) (by omega), w64 (x := Y + A) (by omega) (by omega)]
  unfold mx
  by_cases c : B > 0
  · rw [if_pos c] at b10
    rw [if_pos c, if_pos c, w64 (x := Y + A + 1) (by omega) (by omega)]
    by_cases c2 : Y + A + 1 < 1
    · rw [if_pos c2, if_neg (by omega)]
    · rw [if_neg c2]
      by_cases c3 : (1 : Int) < Y + (A + 1)
      · rw [if_pos c3]; exact congrArg some (by omega)
      · rw [if_neg c3]; exact congrArg some (by omega)
  · rw [if_neg c] at b10
    rw [if_neg c, if_neg c]
    by_cases c2 : Y + A < 1
    · rw [if_pos c2, if_neg (by omega)]
    · rw [if_neg c2]
      by_cases c3 : (1 : Int) < Y + (A + 0)
      · rw [if_pos c3]; exact congrArg some (by omega)
      · rw [if_neg c3]; exact congrArg some (by omega)
def quantR (s : List S61) (part o : Int) : Int × Int :=
  if may s = true ∧ 1 ≤ o ∧ o ≤ 1000000 ∧ 0 ≤ part ∧ part ≤ o then (if s = [] then (0, 3) else (pk (rank (tot s) part o) s, 0)) else (0, 1)
theorem quant_eq (s : List S61) (hw : Wf s) (hl : s.length ≤ 9223372036854775807) (part o : Int) (k : Nat) (hk : s.length + 2 < k) : sketch_Quantile.f k s part o = some (quantR s part o) ∧ headgateref29_Quantile.f k s part o = some (quantR s part o) := by
  obtain ⟨k, rfl⟩ : ∃ m, k = m + 1 := ⟨k - 1, by omega⟩
  unfold sketch_Quantile.f headgateref29_Quantile.f quantR
  have f1 : ∀ a b, sketch_Quantile.j0 (k + 1) s a b true = some (0, 1) := fun a b => by rw [sketch_Quantile.j0, if_pos rfl]
  have f2 : ∀ a b, headgateref29_Quantile.j0 (k + 1) s a b true = some (0, 1) := fun a b => by rw [headgateref29_Quantile.j0, if_pos rfl]
  rw [check_eq s hw hl _ (by omega), Option.bind_some, rmay_eq s hw hl _ (by omega), Option.bind_some]
  by_cases c0 : may s = true
  · rw [if_pos c0, if_pos rfl, if_pos c0]
    by_cases c1 : o < 1
    · rw [if_pos c1, if_pos c1, if_neg (by omega), f1, f2]; exact ⟨rfl, rfl⟩
    · rw [if_neg c1, if_neg c1]
      by_cases c2 : o > 1000000
      · rw [if_pos c2, if_pos c2, if_neg (by omega), f1, f2]; exact ⟨rfl, rfl⟩
      · rw [if_neg c2, if_neg c2]
        by_cases c3 : part < 0
        · rw [if_pos c3, if_pos c3, if_neg (by omega), f1, f2]; exact ⟨rfl, rfl⟩
        · rw [if_neg c3, if_neg c3]
          by_cases c4 : part > o
          · rw [decide_eq_true c4, if_neg (by omega), f1, f2]; exact ⟨rfl, rfl⟩
          · have ht := tot_le c0 (by omega)
            have hc : cnt s = tot s := if_pos c0
            rw [decide_eq_false c4, if_pos ⟨c0, by omega, by omega, by omega, by omega⟩, sketch_Quantile.j0, headgateref29_Quantile.j0, if_neg (show ¬ (false = true) from Bool.false_ne_true), if_neg (show ¬ (false = true) from Bool.false_ne_true), count_eq s hw hl _ (by omega), Option.bind_some, rcount_eq s hw hl _ (by omega), Option.bind_some, hc]
            by_cases c5 : s = []
            · subst c5
              rw [if_pos rfl, if_pos (show tot [] = 0 from rfl), if_pos (show ((List.length ([] : List S61) : Nat) : Int) = 0 from rfl)]
              exact ⟨rfl, rfl⟩
            · have hlen : s.length ≠ 0 := fun h => c5 (List.length_eq_zero_iff.1 h)
              have hr := rank_bd (tot s) part o (by omega) (by omega) (by omega) (by omega) (by omega) (by omega)
              have hq := quant_l0 s hl (fun y hy => ⟨(ht.2.2 y hy).2.2.1, by have := (ht.2.2 y hy).2.2.2; omega⟩) s.length 0 k (rank (tot s) part o) (by omega) (by omega) (by omega) hr.1 (by rw [List.drop_zero]; exact hr.2) (by omega)
              rw [List.drop_zero] at hq
              rw [if_neg c5, if_neg (show ¬ tot s = 0 by omega), if_neg (show ¬ o = 0 by omega), if_neg (show ¬ ((s.length : Nat) : Int) = 0 by omega), srank_eq (tot s) part o (by omega) (by omega) (by omega) (by omega) (by omega) (by omega), rrank_eq (tot s) part o (by omega) (by omega) (by omega) (by omega) (by omega) (by omega), Option.bind_some]
              exact hq
  · rw [if_neg c0, if_neg (by omega), if_neg c0, if_neg (fun h => c0 h.1), f1, f2]
    exact ⟨rfl, rfl⟩
end Go.Proofs.Ytgijangnoekbjaa.Sq
set_option linter.unusedVariables false
namespace Go.Proofs.Ytgijangnoekbjaa.Pure
open Go.RowKit Go.Proofs.Ytgijangnoekbjaa.Vm Go.Proofs.Ytgijangnoekbjaa.Sm Go.Proofs.Ytgijangnoekbjaa.Sp Go.Proofs.Ytgijangnoekbjaa.Sc Go.Proofs.Ytgijangnoekbjaa.Sq Go.Proofs.Ytgijangnoekbjaa.Sa Go.Proofs.Ytgijangnoekbjaa.P Go.Proofs.YtgijangnoekbjaaW.PrintWords Go.Proofs.YtgijangnoekbjaaW.PrintLast
/-- So many numbers lie in buckets up to one; below it. -/
def le : List S61 → Int → Int
  | [], _ => 0
  | y :: s, b => (if y.f0 ≤ b then y.f1 else 0) + le s b
def cle : List Int → Int → Int
  | [], _ => 0
  | v :: l, b => (if bk v ≤ b then 1 else 0) + cle l b
theorem le_ins (s : List S61) (x n b : Int) : le (ins s x n) b = le s b + if x ≤ b then n else 0 := by
  induction s with
  | nil => show (if x ≤ b then n else 0) + 0 = 0 + _; omega
  | cons y s ih =>
    have e1 : le (y :: s) b = (if y.f0 ≤ b then y.f1 else 0) + le s b := rfl
    unfold ins
    split
    · have e2 : le (y :: ins s x n) b = (if y.f0 ≤ b then y.f1 else 0) + le (ins s x n) b := rfl
      rw [e2, ih, e1]; omega
    · split
      · rename_i c
        have e2 : le ((⟨x, y.f1 + n⟩ : S61) :: s) b = (if x ≤ b then y.f1 + n else 0) + le s b := rfl
        rw [e2, e1, c]
        split <;> omega
      · have e2 : le ((⟨x, n⟩ : S61) :: y :: s) b = (if x ≤ b then n else 0) + ((if y.f0 ≤ b then y.f1 else 0) + le s b) := rfl
        rw [e2, e1]; omega
theorem le_add (l : List Int) : ∀ (s : List S61) (b : Int), le (addAll s l) b = le s b + cle l b := by
  induction l with
  | nil => intro s b; show le s b = le s b + 0; omega
  | cons v l ih =>
    intro s b
    show le (addAll (ins s (bk v) 1) l) b = _
    rw [ih, le_ins]
    show _ = le s b + ((if bk v ≤ b then 1 else 0) + cle l b)
    omega
theorem le_above {s : List S61} {b : Int} (h : ∀ y ∈ s, b < y.f0) : le s b = 0 := by
  induction s with
  | nil => rfl
  | cons y s ih =>
    have := h y List.mem_cons_self
    have e1 : le (y :: s) b = (if y.f0 ≤ b then y.f1 else 0) + le s b := rfl
    rw [e1, if_neg (by omega), ih (fun z hz => h z (List.mem_cons_of_mem _ hz))]
    rfl
theorem pk_mem : ∀ (s : List S61) (r : Int), 1 ≤ r → r ≤ tot s → ∃ y ∈ s, pk r s = y.f0
  | [], r, h1, h2 => absurd (show r ≤ 0 from h2) (by omega)
  | x :: s, r, h1, h2 => by
    have e : pk r (x :: s) = if r ≤ x.f1 then x.f0 else pk (r - x.f1) s := rfl
    have ht : tot (x :: s) = x.f1 + tot s := rfl
    rw [e]
    by_cases c : r ≤ x.f1
    · rw [if_pos c]; exact ⟨x, List.mem_cons_self, rfl⟩
    · rw [if_neg c]
      obtain ⟨y, hy, hp⟩ := pk_mem s (r - x.f1) (by omega) (by omega)
      exact ⟨y, List.mem_cons_of_mem _ hy, hp⟩
theorem pk_mid : ∀ (s : List S61) (r : Int), Srt s → Bd s → 1 ≤ r → r ≤ tot s → le s (pk r s - 1) < r ∧ r ≤ le s (pk r s)
  | [], r, _, _, h1, h2 => absurd (show r ≤ 0 from h2) (by omega)
  | x :: s, r, hs, hb, h1, h2 => by
    have e : pk r (x :: s) = if r ≤ x.f1 then x.f0 else pk (r - x.f1) s := rfl
    have ht : tot (x :: s) = x.f1 + tot s := rfl
    have el : ∀ b, le (x :: s) b = (if x.f0 ≤ b then x.f1 else 0) + le s b := fun _ => rfl
    obtain ⟨p1, p2⟩ := List.pairwise_cons.1 hs
    rw [e, el, el]
    by_cases c : r ≤ x.f1
    · rw [if_pos c, if_neg (by omega), if_pos (by omega), le_above (fun y hy => by have := p1 y hy; omega), le_above p1]
      omega
    · rw [if_neg c]
      obtain ⟨y, hy, hp⟩ := pk_mem s (r - x.f1) (by omega) (by omega)
      have h3 := pk_mid s (r - x.f1) p2 (fun z hz => hb z (List.mem_cons_of_mem _ hz)) (by omega) (by omega)
      have h4 := p1 y hy
      rw [hp] at h3 ⊢
      rw [if_pos (by omega), if_pos (by omega)]
      omega
def cnts (p : Int → Bool) : List Int → Int
  | [] => 0
  | v :: l => (if p v = true then 1 else 0) + cnts p l
theorem cnts_nn (p : Int → Bool) (l : List Int) : 0 ≤ cnts p l ∧ cnts p l ≤ l.length := by
  induction l with
  | nil => exact ⟨Int.le_refl _, Int.le_refl _⟩
  | cons v l ih =>
    have e : cnts p (v :: l) = (if p v = true then 1 else 0) + cnts p l := rfl
    rw [e, List.length_cons]
    split <;> omega
theorem cle_is (l : List Int) (hl : ∀ v ∈ l, I64 v) (b : Int) : cnts (fun v => decide (v < lo (b + 1))) l = cle l b := by
  induction l with
  | nil => rfl
  | cons v l ih =>
    have hv := hl v List.mem_cons_self
    obtain ⟨h1, h2⟩ := bk_between v hv.1 hv.2
    have e : cnts (fun v => decide (v < lo (b + 1))) (v :: l) = (if decide (v < lo (b + 1)) = true then 1 else 0) + cnts (fun v => decide (v < lo (b + 1))) l := rfl
    have e2 : cle (v :: l) b = (if bk v ≤ b then 1 else 0) + cle l b := rfl
    rw [e, e2, ih (fun u hu => hl u (List.mem_cons_of_mem _ hu))]
    by_cases c : bk v ≤ b
    · have := lo_mono (show bk v + 1 ≤ b + 1 by omega)
      rw [if_pos c, if_pos (decide_eq_true (by omega))]
    · have := lo_mono (show b + 1 ≤ bk v by omega)
      rw [if_neg c, if_neg (by rw [decide_eq_true_eq]; omega)]
theorem tells_l0 (l : List Int) (hn : l.length ≤ 200) (x y r : Int) (d : Nat) : ∀ (j k : Nat) (low below : Int), l.length - j = d → j ≤ l.length → d < k → 0 ≤ low → low ≤ j → 0 ≤ below → below ≤ j →
    r ≤ low + cnts (fun v => decide (v < y + 1)) (l.drop j) → below + cnts (fun v => decide (v < x)) (l.drop j) < r → headgatelaw29_SketchTells.l0 k l x y r low below (j : Int) = some true := by
  induction d with
  | zero =>
    intro j k low below hd hj hk h0 h1 h2 h3 h4 h5
    obtain ⟨k, rfl⟩ : ∃ m, k = m + 1 := ⟨k - 1, by omega⟩
    have e : l.drop j = [] := List.drop_of_length_le (by omega)
    rw [e] at h4 h5
    have h4' : r ≤ low + 0 := h4
    have h5' : below + 0 < r := h5
    rw [headgatelaw29_SketchTells.l0, if_neg (by omega), if_pos (by omega), if_pos (by omega), awake_eq, Option.bind_some]
  | succ d ih =>
    intro j k low below hd hj hk h0 h1 h2 h3 h4 h5
    obtain ⟨k, rfl⟩ : ∃ m, k = m + 1 := ⟨k - 1, by omega⟩
    have hjl : j < l.length := by omega
    have e : l.drop j = l[j] :: l.drop (j + 1) := List.drop_eq_getElem_cons hjl
    have ec : ∀ p, cnts p (l.drop j) = (if p l[j] = true then 1 else 0) + cnts p (l.drop (j + 1)) := fun p => by rw [e]; rfl
    rw [ec] at h4 h5
    simp only [decide_eq_true_eq] at h4 h5
    rw [headgatelaw29_SketchTells.l0, if_pos (by omega), if_pos (by omega), rd_int l j hjl, show wrap64 ((j : Int) + 1) = ((j + 1 : Nat) : Int) by rw [w64 (by omega) (by omega)]; omega, w64 (x := low + 1) (by omega) (by omega), w64 (x := below + 1) (by omega) (by omega)]
    by_cases c1 : l[j] ≤ y
    · rw [if_pos c1]
      rw [if_pos (show l[j] < y + 1 by omega)] at h4
      by_cases c2 : l[j] < x
      · rw [if_pos c2] at h5 ⊢
        exact ih (j + 1) k _ _ (by omega) (by omega) (by omega) (by omega) (by omega) (by omega) (by omega) (by omega) (by omega)
      · rw [if_neg c2] at h5 ⊢
        exact ih (j + 1) k _ _ (by omega) (by omega) (by omega) (by omega) (by omega) (by omega) (by omega) (by omega) (by omega)
    · rw [if_neg c1]
      rw [if_neg (show ¬ l[j] < y + 1 by omega)] at h4
      by_cases c2 : l[j] < x
      · rw [if_pos c2] at h5 ⊢
        exact ih (j + 1) k _ _ (by omega) (by omega) (by omega) (by omega) (by omega) (by omega) (by omega) (by omega) (by omega)
      · rw [if_neg c2] at h5 ⊢
        exact ih (j + 1) k _ _ (by omega) (by omega) (by omega) (by omega) (by omega) (by omega) (by omega) (by omega) (by omega)
theorem share_is (a n : Int) (ha : I64 a) (hn : 1 ≤ n) (hn2 : n ≤ 1000) : ∃ m : Int, 0 ≤ m ∧ m < n ∧ Int.tmod (wrap64 ((Int.tmod a n) + n)) n = m := by
  have h1 := Int.tmod_lt_of_pos a (show 0 < n by omega)
  have h2 := Int.lt_tmod_of_pos a (show 0 < n by omega)
  rw [w64 (by omega) (by omega), Int.tmod_eq_emod_of_nonneg (by omega)]
  exact ⟨_, Int.emod_nonneg _ (by omega), Int.emod_lt_of_pos _ (by omega), rfl⟩
theorem share_is2 (a n : Int) (ha : I64 a) (hn : 1 ≤ n) (hn2 : n ≤ 1000) : ∃ m : Int, 0 ≤ m ∧ m ≤ n ∧ Int.tmod (wrap64 ((wrap64 ((Int.tmod a (n + 1)) + n)) + 1)) (n + 1) = m := by
  have h1 := Int.tmod_lt_of_pos a (show 0 < n + 1 by omega)
  have h2 := Int.lt_tmod_of_pos a (show 0 < n + 1 by omega)
  rw [w64 (x := Int.tmod a (n + 1) + n) (by omega) (by omega), w64 (by omega) (by omega), Int.tmod_eq_emod_of_nonneg (by omega)]
  exact ⟨_, Int.emod_nonneg _ (by omega), by have := Int.emod_lt_of_pos (Int.tmod a (n + 1) + n + 1) (show 0 < n + 1 by omega); omega, rfl⟩
theorem may_nil0 : may ([] : List S61) = true := rfl
theorem wf_nil0 : Wf ([] : List S61) := fun y hy => by cases hy
theorem SketchTells : headgatelaw29_SketchTells.Pure := by
  intro l a o hl0 hl1 hl2 ha ho
  refine ⟨5000 + 1, ?_⟩
  unfold headgatelaw29_SketchTells.f
  rw [some_eq, Option.bind_some]
  have hl : ∀ v ∈ l.take 200, I64 v := fun v hv => i64_of (hl2 v (List.mem_of_mem_take hv))
  have hn : (l.take 200).length ≤ 200 := by rw [List.length_take]; omega
  generalize l.take 200 = l at hl hn
  obtain ⟨O0, o1, o2, eO⟩ := share_is o 100 (i64_of ho) (by omega) (by omega)
  rw [eO, w64 (x := 1 + O0) (by omega) (by omega)]
  obtain ⟨O, hO⟩ : ∃ O, O = 1 + O0 := ⟨_, rfl⟩
  rw [← hO, w64 (x := O + 1) (by omega) (by omega)]
  obtain ⟨Q, q1, q2, eQ⟩ := share_is2 a O (i64_of ha) (by omega) (by omega)
  rw [eQ, if_neg (by omega)]
  clear eQ eO
  have t0 : tot ([] : List S61) = 0 := rfl
  obtain ⟨a1, a2, a3⟩ := add_all l hl [] may_nil0 (by omega)
  have le0 := len_le a1
  have wf0 := wf_of a1
  have hr : addR [] l = (addAll [] l, 0) := by
    unfold addR
    rw [if_pos may_nil0, if_neg]
    rw [cnt_may may_nil0, t0]
    omega
  have hla : ∀ b, le (addAll [] l) b = cle l b := fun b => by
    have h0 : le ([] : List S61) b = 0 := rfl
    rw [le_add]; omega
  generalize addAll [] l = s at a1 a2 a3 le0 wf0 hr hla
  rw [add_eq [] l wf_nil0 (by simp) hl _ (by simp; omega), Option.bind_some, hr, (quant_eq s wf0 (by omega) Q O _ (by omega)).1, Option.bind_some]
  have hq : quantR s Q O = if s = [] then (0, 3) else (pk (rank (tot s) Q O) s, 0) := if_pos ⟨a1, by omega, by omega, q1, q2⟩
  rw [hq]
  by_cases c : l.length = 0
  · have hs : s = [] := by
      cases s with
      | nil => rfl
      | cons y s =>
        have e : tot (y :: s) = y.f1 + tot s := rfl
        have h1 := ((may_iff _).1 a1).1
        have h2 := (h1 y List.mem_cons_self).2.2
        have h3 := tot_nn (fun z hz => h1 z (List.mem_cons_of_mem _ hz))
        omega
    rw [if_pos hs, if_pos (by omega), if_pos rfl, if_pos rfl, awake_eq, Option.bind_some]
  · have hs : s ≠ [] := fun h => by rw [h] at a2; omega
    have ht : tot s = l.length := by omega
    have hrk := rank_bd (tot s) Q O (by omega) (by omega) (by omega) (by omega) q1 q2
    obtain ⟨m1, m2, m3⟩ := (may_iff _).1 a1
    have hmid := pk_mid s (rank (tot s) Q O) m2 m1 hrk.1 hrk.2
    obtain ⟨y, hy, hpk⟩ := pk_mem s (rank (tot s) Q O) hrk.1 hrk.2
    have hyb := m1 y hy
    rw [if_neg hs, if_neg (by omega)]
    dsimp only
    have hi : I64 (pk (rank (tot s) Q O) s) := by rw [hpk]; unfold I64; omega
    have he : endsR (pk (rank (tot s) Q O) s) = (lo (pk (rank (tot s) Q O) s), lo (pk (rank (tot s) Q O) s + 1) - 1, 0) := if_pos (by rw [hpk]; omega)
    rw [ends_eq hi, Option.bind_some, he, if_pos rfl, if_pos rfl, headgatelaw29_SketchTells.j0, if_neg (show ¬ ((0 : Int) != 0) = true by decide), rrank_eq _ Q O (by omega) (by omega) (by omega) (by omega) q1 q2, Option.bind_some]
    rw [hla, hla] at hmid
    rw [← ht]
    refine tells_l0 l hn _ _ _ l.length 0 5000 0 0 rfl (by omega) (by omega) (by omega) (by omega) (by omega) (by omega) ?_ ?_
    · rw [List.drop_zero, show lo (pk (rank (tot s) Q O) s + 1) - 1 + 1 = lo (pk (rank (tot s) Q O) s + 1) by omega, cle_is l hl]
      omega
    · have := cle_is l hl (pk (rank (tot s) Q O) s - 1)
      rw [show pk (rank (tot s) Q O) s - 1 + 1 = pk (rank (tot s) Q O) s by omega] at this
      rw [List.drop_zero, this]
      omega
end Go.Proofs.Ytgijangnoekbjaa.Pure
