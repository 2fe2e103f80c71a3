/- For any numbers (their first 200), cut in two anywhere: counted in two sketches that are put together, or turned around, they are counted as in one. No condition. -/
import Derived.Test.YtgijangnoekbjaaPx2
import Derived.Test.YtgijangnoekbjaaPx3
import Derived.Test.YtgijangnoekbjaaPx6
import Derived.Test.YtgijangnoekbjaaPx7
import Derived.Test.YtgijangnoekbjaaPx9
import Derived.Test.YtgijangnoekbjaaPx18
import Derived.Test.YtgijangnoekbjaaPx20
import Derived.Test.YtgijangnoekbjaaPx21
import Derived.Test.YtgijangnoekbjaaPx22
import Derived.Test.YtgijangnoekbjaaPx26
import Derived.Test.YtgijangnoekbjaaPx29
import Derived.Test.YtgijangnoekbjaaSm
import Derived.Test.YtgijangnoekbjaaVm
import Derived.Laws.Bits64
set_option linter.unusedVariables false
set_option linter.unusedSimpArgs false
namespace Go.Proofs.Ytgijangnoekbjaa.Sp
open Go.RowKit Go.Proofs.Ytgijangnoekbjaa.Vm Go.Proofs.Ytgijangnoekbjaa.Sm Go.Proofs.Ytgijangnoekbjaa.P Go.Proofs.YtgijangnoekbjaaW.PrintWords
theorem w64 {x : Int} (h0 : -9223372036854775808 ≤ x) (h1 : x ≤ 9223372036854775807) : wrap64 x = x := by unfold wrap64; omega
theorem i64_of {n : Int} (h : (Lit.int .i64 n).wf = true) : I64 n := by
  simp only [Lit.wf, IntKind.min, IntKind.max, IntKind.signed, IntKind.bits, Bool.and_eq_true, decide_eq_true_eq, if_true] at h
  unfold I64
  omega
def endsR (b : Int) : Int × Int × Int := if -960 ≤ b ∧ b < 960 then (lo b, lo (b + 1) - 1, 0) else (0, 0, 1)
theorem of_eq {v : Int} (h : I64 v) : sketch_Of.f v = some (bk v) := if_pos h
theorem lo_neg (a : Nat) : lo (-1 - (a : Int)) = -(lst (a + 1) : Int) ∧ lo (-1 - (a : Int) + 1) = -(lst a : Int) := by
  constructor
  · unfold lo; rw [if_pos (by omega), show (-(-1 - (a : Int))).toNat = a + 1 by omega]
  · unfold lo
    by_cases h1 : -1 - (a : Int) + 1 < 0
    · rw [if_pos h1, show (-(-1 - (a : Int) + 1)).toNat = a by omega]
    · obtain rfl : a = 0 := by omega
      rw [if_neg h1, show (-1 - ((0 : Nat) : Int) + 1).toNat = 0 by omega]
      decide
theorem lo_pos (a : Nat) : lo (a : Int) = (lst a : Int) ∧ lo ((a : Int) + 1) = (lst (a + 1) : Int) := by
  constructor
  · unfold lo; rw [if_neg (by omega), Int.toNat_natCast]
  · unfold lo; rw [if_neg (by omega), show ((a : Int) + 1).toNat = a + 1 by omega]
theorem lst_959 (a : Nat) (h : a + 1 < 960) : lst (a + 1) < 9223372036854775808 := by
  have h1 := lst_lt (a + 1)
  have h2 : lst (a + 1 + 1) ≤ lst 960 := lst_mono (by omega)
  rw [lst_960] at h2
  omega
theorem ends_eq {b : Int} (h : I64 b) : sketch_Ends.f b = some (endsR b) := by
  have his : sketch_is.f b = some (decide (-960 ≤ b ∧ b < 960)) := if_pos h
  have hx := Len.notx b h
  unfold sketch_Ends.f endsR
  rw [his, Option.bind_some]
  by_cases hr : -960 ≤ b ∧ b < 960
  · rw [if_pos (decide_eq_true hr), if_pos hr]
    by_cases h0 : b < 0
    · obtain ⟨a, rfl⟩ : ∃ a : Nat, b = -1 - (a : Int) := ⟨(-1 - b).toNat, by omega⟩
      have hm : mx (-1 - (a : Int)) (Go.bits .xor .i64 (-1) (-1 - (a : Int))) = (a : Int) := by rw [hx]; unfold mx; split <;> omega
      have hl : sketch_least.f (a : Int) = some (lst a : Int) := if_pos (by omega)
      obtain ⟨e1, e2⟩ := lo_neg a
      have hb := lst_lt a
      rw [hm, hl, Option.bind_some, w64 (by omega) (by omega), e1, e2]
      by_cases h9 : a + 1 < 960
      · have hl2 : sketch_least.f ((a : Int) + 1) = some (lst (a + 1) : Int) := if_pos (by omega)
        have hb9 := lst_959 a h9
        rw [if_pos (by omega), hl2, Option.bind_some, if_pos h0, w64 (by omega) (by omega), Len.notx _ (by unfold I64; omega), Len.notx _ (by unfold I64; omega)]
        simp only [Option.some.injEq, Prod.mk.injEq]
        exact ⟨by omega, by omega, trivial⟩
      · obtain rfl : a = 959 := by omega
        have e9 : lst (959 + 1) = 9223372036854775808 := lst_960
        rw [e9] at hb ⊢
        rw [if_neg (by omega), if_pos h0, Len.notx _ (by unfold I64; omega), Len.notx _ (by unfold I64; omega)]
        simp only [Option.some.injEq, Prod.mk.injEq]
        exact ⟨by omega, by omega, trivial⟩
    · obtain ⟨a, rfl⟩ : ∃ a : Nat, b = (a : Int) := ⟨b.toNat, by omega⟩
      have hm : mx (a : Int) (Go.bits .xor .i64 (-1) (a : Int)) = (a : Int) := by rw [hx]; unfold mx; split <;> omega
      have hl : sketch_least.f (a : Int) = some (lst a : Int) := if_pos (by omega)
      obtain ⟨e1, e2⟩ := lo_pos a
      have hb := lst_lt a
      rw [hm, hl, Option.bind_some, w64 (by omega) (by omega), e1, e2]
      by_cases h9 : a + 1 < 960
      · have hl2 : sketch_least.f ((a : Int) + 1) = some (lst (a + 1) : Int) := if_pos (by omega)
        have hb9 := lst_959 a h9
        rw [if_pos (by omega), hl2, Option.bind_some, if_neg h0, w64 (by omega) (by omega)]
      · obtain rfl : a = 959 := by omega
        have e9 : lst (959 + 1) = 9223372036854775808 := lst_960
        rw [e9] at hb ⊢
        rw [if_neg (by omega), if_neg h0]
        rfl
  · rw [if_neg (by rw [decide_eq_true_eq]; exact hr), if_neg hr]
theorem awake_eq : headgatelaw29_awake.f = some true := by
  have o1 : bk 31 = 31 := by decide
  have o2 : bk 32 = 32 := by decide
  have o3 : bk 33 = 32 := by decide
  have o4 : bk 1000 = 111 := by decide
  have o5 : bk (-1) = -1 := by decide
  have e1 : endsR 111 = (992, 1023, 0) := by decide
  unfold headgatelaw29_awake.f
  rw [ends_eq (by decide), e1, Option.bind_some, of_eq (by decide), o1, Option.bind_some, if_pos rfl, of_eq (by decide), o2, Option.bind_some, if_pos rfl, of_eq (by decide), o3, Option.bind_some, if_pos rfl, of_eq (by decide), o4, Option.bind_some, if_pos rfl, of_eq (by decide), o5, Option.bind_some, if_pos rfl, if_pos rfl, if_pos rfl]
  rfl
end Go.Proofs.Ytgijangnoekbjaa.Sp
set_option linter.unusedVariables false
set_option linter.unusedSimpArgs false
namespace Go.Proofs.Ytgijangnoekbjaa.Sc
open Go.RowKit Go.Proofs.Ytgijangnoekbjaa.Vm Go.Proofs.Ytgijangnoekbjaa.Sm Go.Proofs.Ytgijangnoekbjaa.Sp Go.Proofs.Ytgijangnoekbjaa.P Go.Proofs.YtgijangnoekbjaaW.PrintWords Go.Proofs.YtgijangnoekbjaaW.PrintLast
def Wf (s : List S61) : Prop := ∀ y ∈ s, wf61 y
def good (sum prev : Int) (x : S61) : Bool := decide (-960 ≤ x.f0 ∧ x.f0 < 960 ∧ 1 ≤ x.f1 ∧ x.f1 ≤ 1099511627776 - sum ∧ prev < x.f0)
def okS : Int → Int → List S61 → Bool
  | _, _, [] => true
  | sum, prev, x :: r => good sum prev x && okS (sum + x.f1) x.f0 r
def tot : List S61 → Int
  | [] => 0
  | x :: r => x.f1 + tot r
theorem good_iff {sum prev : Int} {x : S61} : good sum prev x = true ↔ (-960 ≤ x.f0 ∧ x.f0 < 960 ∧ 1 ≤ x.f1 ∧ x.f1 ≤ 1099511627776 - sum ∧ prev < x.f0) := by unfold good; exact decide_eq_true_iff
theorem tot_le {sum prev : Int} {l : List S61} (h : okS sum prev l = true) (h0 : sum ≤ 1099511627776) : sum + tot l ≤ 1099511627776 ∧ (l.length : Int) ≤ tot l ∧ (∀ y ∈ l, -960 ≤ y.f0 ∧ y.f0 < 960 ∧ 1 ≤ y.f1 ∧ y.f1 ≤ tot l) := by
  induction l generalizing sum prev with
  | nil => exact ⟨by show sum + 0 ≤ _; omega, by show ((0 : Nat) : Int) ≤ 0; omega, fun y hy => by cases hy⟩
  | cons x r ih =>
    unfold okS at h
    rw [Bool.and_eq_true, good_iff] at h
    obtain ⟨⟨a1, a2, a3, a4, a5⟩, h2⟩ := h
    obtain ⟨b1, b2, b3⟩ := ih h2 (by omega)
    have ht : tot (x :: r) = x.f1 + tot r := rfl
    refine ⟨by omega, by rw [List.length_cons]; omega, fun y hy => ?_⟩
    rcases List.mem_cons.1 hy with rfl | hy
    · omega
    · have := b3 y hy; omega
theorem wf_i64 {x : S61} (h : wf61 x) : I64 x.f0 ∧ I64 x.f1 := ⟨i64_of h.1, i64_of h.2⟩
theorem rd_at (s : List S61) (j : Nat) (h : j < s.length) : rd_T61 s (j : Int) = s[j] := by
  unfold rd_T61
  rw [Int.toNat_natCast, List.getD_eq_getElem?_getD, List.getElem?_eq_getElem h]
  rfl
def prevAt (s : List S61) (j : Nat) : Int := if j = 0 then -961 else (rd_T61 s ((j : Int) - 1)).f0
theorem prev_succ (s : List S61) (j : Nat) (h : j < s.length) : prevAt s (j + 1) = s[j].f0 := by
  unfold prevAt
  rw [if_neg (by omega), show ((j + 1 : Nat) : Int) - 1 = (j : Int) by omega, rd_at s j h]
theorem check_l0 (s : List S61) (hw : Wf s) (hl : s.length ≤ 9223372036854775807) (d : Nat) : ∀ (j k : Nat) (sum : Int), s.length - j = d → j ≤ s.length → d < k → 0 ≤ sum → sum ≤ 1099511627776 →
    sketch_Check.l0 k s sum s (s.length : Int) (j : Int) = some (if okS sum (prevAt s j) (s.drop j) = true then 0 else 1) := by
  induction d with
  | zero =>
    intro j k sum hd hj hk h0 h1
    obtain ⟨k, rfl⟩ : ∃ m, k = m + 1 := ⟨k - 1, by omega⟩
    rw [sketch_Check.l0, if_neg (by omega), List.drop_of_length_le (by omega)]
    rfl
  | succ d ih =>
    intro j k sum hd hj hk h0 h1
    obtain ⟨k, rfl⟩ : ∃ m, k = m + 1 := ⟨k - 1, by omega⟩
    have hjl : j < s.length := by omega
    obtain ⟨x0, x1⟩ := wf_i64 (hw s[j] (List.getElem_mem hjl))
    have his : sketch_is.f s[j].f0 = some (decide (-960 ≤ s[j].f0 ∧ s[j].f0 < 960)) := if_pos x0
    unfold I64 at x0 x1
    rw [sketch_Check.l0, if_pos (by omega), if_pos (by omega), if_pos (by omega), rd_at s j hjl, his, Option.bind_some, List.drop_eq_getElem_cons hjl]
    show _ = some (if (good sum (prevAt s j) s[j] && okS (sum + s[j].f1) s[j].f0 (s.drop (j + 1))) = true then 0 else 1)
    have hg := @good_iff sum (prevAt s j) s[j]
    have hb : ∀ b : Bool, good sum (prevAt s j) s[j] = false → (1 : Int) = if (good sum (prevAt s j) s[j] && b) = true then 0 else 1 := fun b h => by rw [h]; rfl
    have hf : ¬ (-960 ≤ s[j].f0 ∧ s[j].f0 < 960 ∧ 1 ≤ s[j].f1 ∧ s[j].f1 ≤ 1099511627776 - sum ∧ prevAt s j < s[j].f0) → good sum (prevAt s j) s[j] = false := fun h => by
      rw [← hg] at h; exact Bool.eq_false_iff.2 h
    by_cases c1 : -960 ≤ s[j].f0 ∧ s[j].f0 < 960
    · rw [if_pos (decide_eq_true c1)]
      by_cases c2 : s[j].f1 < 1
      · rw [if_pos c2]; exact congrArg some (hb _ (hf (by omega)))
      · rw [if_neg c2, w64 (x := 1099511627776 - sum) (by omega) (by omega)]
        by_cases c3 : s[j].f1 > 1099511627776 - sum
        · rw [if_pos c3]; exact congrArg some (hb _ (hf (by omega)))
        · rw [if_neg c3, w64 (x := sum + s[j].f1) (by omega) (by omega), w64 (x := (j : Int) + 1) (by omega) (by omega)]
          have hrec : prevAt s j < s[j].f0 → sketch_Check.l0 k s (sum + s[j].f1) s (s.length : Int) ((j : Int) + 1) = some (if (good sum (prevAt s j) s[j] && okS (sum + s[j].f1) s[j].f0 (s.drop (j + 1))) = true then 0 else 1) := fun hp => by
            have := ih (j + 1) k (sum + s[j].f1) (by omega) (by omega) (by omega) (by omega) (by omega)
            rw [prev_succ s j hjl] at this
            rw [show ((j : Int) + 1) = ((j + 1 : Nat) : Int) by omega, this, good_iff.2 ⟨c1.1, c1.2, by omega, by omega, hp⟩, Bool.true_and]
          by_cases c4 : (j : Int) > 0
          · have hpe : prevAt s j = (rd_T61 s ((j : Int) - 1)).f0 := if_neg (by omega)
            rw [if_pos c4, w64 (x := (j : Int) - 1) (by omega) (by omega), if_pos (by omega), if_pos (by omega), ← hpe]
            by_cases c5 : prevAt s j ≥ s[j].f0
            · rw [if_pos c5]; exact congrArg some (hb _ (hf (by omega)))
            · rw [if_neg c5]; exact hrec (by omega)
          · rw [if_neg c4]
            have hpe : prevAt s j = -961 := if_pos (by omega)
            exact hrec (by omega)
    · rw [if_neg (by rw [decide_eq_true_eq]; exact c1)]; exact congrArg some (hb _ (hf (by omega)))
/-- May a sketch be? -/
def may (s : List S61) : Bool := okS 0 (-961) s
theorem check_eq (s : List S61) (hw : Wf s) (hl : s.length ≤ 9223372036854775807) (k : Nat) (hk : s.length < k) : sketch_Check.f k s = some (if may s = true then 0 else 1) :=
  check_l0 s hw hl s.length 0 k 0 (by omega) (by omega) hk (by omega) (by omega)
def cnt (s : List S61) : Int := if may s = true then tot s else 0
theorem cnt_bd (s : List S61) : 0 ≤ cnt s ∧ cnt s ≤ 1099511627776 := by
  unfold cnt
  split
  · rename_i h; have := tot_le h (by omega); omega
  · omega
theorem count_l0 (s : List S61) (hl : s.length ≤ 9223372036854775807) (d : Nat) : ∀ (j k : Nat) (sum : Int), s.length - j = d → j ≤ s.length → d < k → 0 ≤ sum → sum + tot (s.drop j) ≤ 1099511627776 → (∀ y ∈ s, 1 ≤ y.f1) →
    sketch_Count.l0 k sum s (s.length : Int) (j : Int) = some (sum + tot (s.drop j)) ∧ headgateref29_Count.l0 k s sum (j : Int) = some (sum + tot (s.drop j)) := by
  induction d with
  | zero =>
    intro j k sum hd hj hk h0 h1 hp
    obtain ⟨k, rfl⟩ : ∃ m, k = m + 1 := ⟨k - 1, by omega⟩
    rw [sketch_Count.l0, headgateref29_Count.l0, if_neg (by omega), if_neg (by omega), List.drop_of_length_le (by omega)]
    exact ⟨congrArg some (Int.add_zero _).symm, congrArg some (Int.add_zero _).symm⟩
  | succ d ih =>
    intro j k sum hd hj hk h0 h1 hp
    obtain ⟨k, rfl⟩ : ∃ m, k = m + 1 := ⟨k - 1, by omega⟩
    have hjl : j < s.length := by omega
    have hx := hp s[j] (List.getElem_mem hjl)
    have ht : tot (s.drop j) = s[j].f1 + tot (s.drop (j + 1)) := by rw [List.drop_eq_getElem_cons hjl]; rfl
    have hnn : ∀ l : List S61, (∀ y ∈ l, 1 ≤ y.f1) → 0 ≤ tot l := fun l h => by
      induction l with
      | nil => exact Int.le_refl 0
      | cons x r ih => have h1 := ih fun y hy => h y (List.mem_cons_of_mem _ hy); have h2 := h x (List.mem_cons_self ..); show 0 ≤ x.f1 + tot r; omega
    have hn := hnn (s.drop (j + 1)) fun y hy => hp y (List.mem_of_mem_drop hy)
    have := ih (j + 1) k (sum + s[j].f1) (by omega) (by omega) (by omega) (by omega) (by omega) hp
    rw [sketch_Count.l0, headgateref29_Count.l0, if_pos (by omega), if_pos (by omega), if_pos (by omega), if_pos (by omega), if_pos (by omega), rd_at s j hjl, w64 (x := sum + s[j].f1) (by omega) (by omega), w64 (x := (j : Int) + 1) (by omega) (by omega), show ((j : Int) + 1) = ((j + 1 : Nat) : Int) by omega, this.1, this.2, ht]
    exact ⟨congrArg some (by omega), congrArg some (by omega)⟩
theorem count_eq (s : List S61) (hw : Wf s) (hl : s.length ≤ 9223372036854775807) (k : Nat) (hk : s.length < k) : sketch_Count.f k s = some (cnt s) := by
  unfold sketch_Count.f cnt
  rw [check_eq s hw hl k hk, Option.bind_some]
  by_cases h : may s = true
  · have ht := tot_le h (by omega)
    have := (count_l0 s hl s.length 0 k 0 (by omega) (by omega) hk (by omega) (by rw [List.drop_zero]; omega) (fun y hy => (ht.2.2 y hy).2.2.1)).1
    rw [List.drop_zero, Int.zero_add] at this
    rw [if_pos h, if_pos rfl, if_pos h]
    exact this
  · rw [if_neg h, if_neg (by omega), if_neg h]
end Go.Proofs.Ytgijangnoekbjaa.Sc
set_option linter.unusedVariables false
set_option linter.unusedSimpArgs false
namespace Go.Proofs.Ytgijangnoekbjaa.Sa
open Go.RowKit Go.Proofs.Ytgijangnoekbjaa.Vm Go.Proofs.Ytgijangnoekbjaa.Sm Go.Proofs.Ytgijangnoekbjaa.Sp Go.Proofs.Ytgijangnoekbjaa.Sc Go.Proofs.Ytgijangnoekbjaa.P Go.Proofs.YtgijangnoekbjaaW.PrintWords Go.Proofs.YtgijangnoekbjaaW.PrintLast
/-- A bucket counted in a sketch. -/
def ins : List S61 → Int → Int → List S61
  | [], x, n => [⟨x, n⟩]
  | y :: s, x, n => if y.f0 < x then y :: ins s x n else if y.f0 = x then ⟨x, y.f1 + n⟩ :: s else ⟨x, n⟩ :: y :: s
def Srt (s : List S61) : Prop := s.Pairwise fun a b => a.f0 < b.f0
def Bd (s : List S61) : Prop := ∀ y ∈ s, -960 ≤ y.f0 ∧ y.f0 < 960 ∧ 1 ≤ y.f1
theorem okS_iff (s : List S61) : ∀ (sum prev : Int), sum ≤ 1099511627776 → (okS sum prev s = true ↔ Bd s ∧ (∀ y ∈ s, prev < y.f0) ∧ Srt s ∧ sum + tot s ≤ 1099511627776) := by
  induction s with
  | nil =>
    intro sum prev h
    refine ⟨fun _ => ⟨fun y hy => (by cases hy), fun y hy => (by cases hy), List.Pairwise.nil, ?_⟩, fun _ => rfl⟩
    show sum + 0 ≤ _
    omega
  | cons x r ih =>
    intro sum prev h
    have ht : tot (x :: r) = x.f1 + tot r := rfl
    have hd : okS sum prev (x :: r) = (good sum prev x && okS (sum + x.f1) x.f0 r) := rfl
    rw [hd, Bool.and_eq_true, good_iff]
    constructor
    · rintro ⟨⟨a1, a2, a3, a4, a5⟩, h2⟩
      obtain ⟨b1, b2, b3, b4⟩ := (ih _ _ (by omega)).1 h2
      refine ⟨fun y hy => ?_, fun y hy => ?_, List.pairwise_cons.2 ⟨b2, b3⟩, by omega⟩
      · rcases List.mem_cons.1 hy with rfl | hy
        · exact ⟨a1, a2, a3⟩
        · exact b1 y hy
      · rcases List.mem_cons.1 hy with rfl | hy
        · exact a5
        · have := b2 y hy; omega
    · rintro ⟨b1, b2, b3, b4⟩
      obtain ⟨a1, a2, a3⟩ := b1 x List.mem_cons_self
      have hr : Bd r := fun y hy => b1 y (List.mem_cons_of_mem _ hy)
      have h0 : 0 ≤ tot r := by
        clear ih b1 b2 b3 b4 ht hd
        induction r with
        | nil => exact Int.le_refl _
        | cons z r ih2 =>
          have e : tot (z :: r) = z.f1 + tot r := rfl
          have := (hr z List.mem_cons_self).2.2
          have := ih2 (fun y hy => hr y (List.mem_cons_of_mem _ hy))
          omega
      exact ⟨⟨a1, a2, a3, by omega, b2 x List.mem_cons_self⟩, (ih _ _ (by omega)).2 ⟨hr, (List.pairwise_cons.1 b3).1, (List.pairwise_cons.1 b3).2, by omega⟩⟩
theorem may_iff (s : List S61) : may s = true ↔ Bd s ∧ Srt s ∧ tot s ≤ 1099511627776 := by
  unfold may
  rw [okS_iff s 0 (-961) (by omega)]
  constructor
  · rintro ⟨a, b, c, d⟩; exact ⟨a, c, by omega⟩
  · rintro ⟨a, c, d⟩; exact ⟨a, fun y hy => by have := a y hy; omega, c, by omega⟩
theorem tot_ins (s : List S61) (x n : Int) : tot (ins s x n) = tot s + n := by
  induction s with
  | nil => show n + 0 = 0 + n; omega
  | cons y s ih =>
    have e1 : tot (y :: s) = y.f1 + tot s := rfl
    unfold ins
    split
    · have e2 : tot (y :: ins s x n) = y.f1 + tot (ins s x n) := rfl
      rw [e2, ih]; omega
    · split
      · have e2 : tot ((⟨x, y.f1 + n⟩ : S61) :: s) = y.f1 + n + tot s := rfl
        omega
      · have e2 : tot ((⟨x, n⟩ : S61) :: y :: s) = n + (y.f1 + tot s) := rfl
        omega
theorem mem_ins (s : List S61) (x n : Int) (y : S61) (h : y ∈ ins s x n) : y ∈ s ∨ (y.f0 = x ∧ (y.f1 = n ∨ ∃ z ∈ s, y.f1 = z.f1 + n)) := by
  induction s with
  | nil =>
    have : y = ⟨x, n⟩ := by simpa [ins] using h
    subst this; exact .inr ⟨rfl, .inl rfl⟩
  | cons z s ih =>
    unfold ins at h
    split at h
    · rcases List.mem_cons.1 h with rfl | h
      · exact .inl List.mem_cons_self
      · rcases ih h with h | ⟨h1, h2⟩
        · exact .inl (List.mem_cons_of_mem _ h)
        · exact .inr ⟨h1, h2.imp id (fun ⟨q, hq, e⟩ => ⟨q, List.mem_cons_of_mem _ hq, e⟩)⟩
    · split at h
      · rcases List.mem_cons.1 h with rfl | h
        · exact .inr ⟨rfl, .inr ⟨z, List.mem_cons_self, rfl⟩⟩
        · exact .inl (List.mem_cons_of_mem _ h)
      · rcases List.mem_cons.1 h with rfl | h
        · exact .inr ⟨rfl, .inl rfl⟩
        · exact .inl h
theorem bd_ins {s : List S61} {x n : Int} (h : Bd s) (hx : -960 ≤ x ∧ x < 960) (hn : 1 ≤ n) : Bd (ins s x n) := by
  intro y hy
  rcases mem_ins s x n y hy with h1 | ⟨h1, h2 | ⟨z, hz, h2⟩⟩
  · exact h y h1
  · omega
  · have := h z hz; omega
theorem srt_ins {s : List S61} {x n : Int} (h : Srt s) : Srt (ins s x n) := by
  induction s with
  | nil => exact List.pairwise_singleton _ _
  | cons y s ih =>
    obtain ⟨h1, h2⟩ := List.pairwise_cons.1 h
    unfold ins
    split
    · rename_i c
      refine List.pairwise_cons.2 ⟨fun z hz => ?_, ih h2⟩
      rcases mem_ins s x n z hz with h3 | ⟨h3, _⟩
      · exact h1 z h3
      · rw [h3]; exact c
    · split
      · rename_i c
        exact List.pairwise_cons.2 ⟨fun z hz => by have := h1 z hz; rw [c] at this; exact this, h2⟩
      · refine List.pairwise_cons.2 ⟨fun z hz => ?_, h⟩
        rcases List.mem_cons.1 hz with rfl | hz
        · show x < z.f0; omega
        · have := h1 z hz; show x < z.f0; omega
theorem tot_nn {t : List S61} (hb : Bd t) : 0 ≤ tot t := by
  induction t with
  | nil => exact Int.le_refl _
  | cons z r ih2 =>
    have e : tot (z :: r) = z.f1 + tot r := rfl
    have := (hb z List.mem_cons_self).2.2
    have := ih2 (fun y hy => hb y (List.mem_cons_of_mem _ hy))
    omega
theorem may_ins {s : List S61} {x n : Int} (h : may s = true) (hx : -960 ≤ x ∧ x < 960) (hn : 1 ≤ n) (ht : tot s + n ≤ 1099511627776) : may (ins s x n) = true := by
  obtain ⟨a, b, c⟩ := (may_iff s).1 h
  exact (may_iff _).2 ⟨bd_ins a hx hn, srt_ins b, by rw [tot_ins]; exact ht⟩
theorem len_le {s : List S61} (h : may s = true) : s.length ≤ 1920 := by
  obtain ⟨a, b, c⟩ := (may_iff s).1 h
  have key : ∀ j, (hj : j < s.length) → (j : Int) - 960 ≤ s[j].f0 := by
    intro j
    induction j with
    | zero => intro hj; have := (a _ (List.getElem_mem hj)).1; omega
    | succ j ih =>
      intro hj
      have p := ih (by omega)
      have q := List.pairwise_iff_getElem.1 b j (j + 1) (by omega) hj (by omega)
      omega
  rcases Nat.lt_or_ge 1920 s.length with h1 | h1
  · have p := key 1920 h1
    have q := (a _ (List.getElem_mem h1)).2.1
    omega
  · exact h1
theorem wf_may {s : List S61} (h : may s = true) : ∀ y ∈ s, -960 ≤ y.f0 ∧ y.f0 < 960 ∧ 1 ≤ y.f1 ∧ y.f1 ≤ 1099511627776 := by
  intro y hy
  obtain ⟨t1, t2, t3⟩ := tot_le (show okS 0 (-961) s = true from h) (by omega)
  have := t3 y hy
  omega
theorem wf_of {s : List S61} (h : may s = true) : Wf s := by
  intro y hy
  have := wf_may h y hy
  refine ⟨?_, ?_⟩ <;> (simp [Lit.wf, IntKind.min, IntKind.max, IntKind.signed, IntKind.bits]; omega)
theorem cnt_may {s : List S61} (h : may s = true) : cnt s = tot s := if_pos h
/-- What sketch.put comes to. -/
theorem put_v (s : List S61) (x n : Int) : sketch_put.v s x n = ins s x n := by
  induction s with
  | nil => rfl
  | cons y s ih =>
    unfold ins
    have hlt : lt061 (y :: s) x = if y.f0 < x then lt061 s x + 1 else 0 := by
      unfold lt061
      rw [List.takeWhile_cons]
      by_cases c : y.f0 < x
      · rw [if_pos (by simpa using c), if_pos c]; rfl
      · rw [if_neg (by simpa using c), if_neg c]; rfl
    by_cases c : y.f0 < x
    · rw [if_pos c, ← ih]
      rw [if_pos c] at hlt
      unfold sketch_put.v
      rw [hlt]
      have hrd : rd_T61 (y :: s) ((lt061 s x + 1 : Nat) : Int) = rd_T61 s (lt061 s x : Int) := by
        simp [rd_T61]
      rw [hrd]
      by_cases d : lt061 s x < s.length ∧ (rd_T61 s (lt061 s x : Int)).f0 = x
      · rw [if_pos d, if_pos ⟨by simpa using d.1, d.2⟩]; rfl
      · rw [if_neg d, if_neg (fun h => d ⟨by simpa using h.1, h.2⟩)]; rfl
    · rw [if_neg c]
      rw [if_neg c] at hlt
      unfold sketch_put.v
      rw [hlt]
      have hrd : rd_T61 (y :: s) ((0 : Nat) : Int) = y := by simp [rd_T61]
      rw [hrd]
      by_cases d : y.f0 = x
      · rw [if_pos d, if_pos ⟨by simp, d⟩]; rfl
      · rw [if_neg d, if_neg (fun h => d h.2)]; rfl
theorem put_eq {s : List S61} {x n : Int} (h : may s = true) (hx : -960 ≤ x ∧ x < 960) (hn : 0 ≤ n ∧ n ≤ 1099511627776) : sketch_put.f s x n = some (ins s x n) := by
  have h1 := wf_may h
  have h2 := ((may_iff s).1 h).2.1
  have h3 := len_le h
  unfold sketch_put.f
  rw [if_pos, put_v]
  simp only [sketch_put.okB, Bool.and_eq_true, decide_eq_true_eq, List.all_eq_true]
  exact ⟨⟨⟨h2, fun y hy => by have := h1 y hy; omega⟩, by omega⟩, by omega⟩
/-- What a bucket has. -/
def has : List S61 → Int → Int
  | [], _ => 0
  | y :: s, b => (if y.f0 = b then y.f1 else 0) + has s b
theorem has_ins (s : List S61) (x n b : Int) : has (ins s x n) b = has s b + if x = b then n else 0 := by
  induction s with
  | nil => show (if x = b then n else 0) + 0 = 0 + _; omega
  | cons y s ih =>
    have e1 : has (y :: s) b = (if y.f0 = b then y.f1 else 0) + has s b := rfl
    unfold ins
    split
    · have e2 : has (y :: ins s x n) b = (if y.f0 = b then y.f1 else 0) + has (ins s x n) b := rfl
      rw [e2, ih, e1]; omega
    · split
      · rename_i c
        have e2 : has ((⟨x, y.f1 + n⟩ : S61) :: s) b = (if x = b then y.f1 + n else 0) + has s b := rfl
        rw [e2, e1, c]
        split <;> omega
      · have e2 : has ((⟨x, n⟩ : S61) :: y :: s) b = (if x = b then n else 0) + ((if y.f0 = b then y.f1 else 0) + has s b) := rfl
        rw [e2, e1]; omega
theorem has_above {s : List S61} {b : Int} (h : ∀ y ∈ s, b < y.f0) : has s b = 0 := by
  induction s with
  | nil => rfl
  | cons y s ih =>
    have := h y List.mem_cons_self
    have e1 : has (y :: s) b = (if y.f0 = b then y.f1 else 0) + has s b := rfl
    rw [e1, if_neg (by omega), ih (fun z hz => h z (List.mem_cons_of_mem _ hz))]
    rfl
theorem has_ext : ∀ (s t : List S61), Srt s → Srt t → Bd s → Bd t → (∀ b, has s b = has t b) → s = t
  | [], [], _, _, _, _, _ => rfl
  | [], z :: t, _, h2, _, h4, h => by
    exfalso
    have a := h z.f0
    have e1 : has (z :: t) z.f0 = (if z.f0 = z.f0 then z.f1 else 0) + has t z.f0 := rfl
    rw [e1, if_pos rfl, has_above (List.pairwise_cons.1 h2).1] at a
    have := (h4 z List.mem_cons_self).2.2
    have : has ([] : List S61) z.f0 = 0 := rfl
    omega
  | y :: s, [], h1, _, h3, _, h => by
    exfalso
    have a := h y.f0
    have e1 : has (y :: s) y.f0 = (if y.f0 = y.f0 then y.f1 else 0) + has s y.f0 := rfl
    rw [e1, if_pos rfl, has_above (List.pairwise_cons.1 h1).1] at a
    have := (h3 y List.mem_cons_self).2.2
    have : has ([] : List S61) y.f0 = 0 := rfl
    omega
  | y :: s, z :: t, h1, h2, h3, h4, h => by
    obtain ⟨p1, p2⟩ := List.pairwise_cons.1 h1
    obtain ⟨q1, q2⟩ := List.pairwise_cons.1 h2
    have ey : ∀ b, has (y :: s) b = (if y.f0 = b then y.f1 else 0) + has s b := fun _ => rfl
    have ez : ∀ b, has (z :: t) b = (if z.f0 = b then z.f1 else 0) + has t b := fun _ => rfl
    have by1 := (h3 y List.mem_cons_self).2.2
    have bz1 := (h4 z List.mem_cons_self).2.2
    have hyz : y.f0 = z.f0 := by
      rcases Int.lt_trichotomy y.f0 z.f0 with c | c | c
      · exfalso
        have a := h y.f0
        rw [ey, ez, if_pos rfl, if_neg (by omega), has_above p1, has_above (fun w hw => by have := q1 w hw; omega)] at a
        omega
      · exact c
      · exfalso
        have a := h z.f0
        rw [ey, ez, if_pos rfl, if_neg (by omega), has_above q1, has_above (fun w hw => by have := p1 w hw; omega)] at a
        omega
    have hn : y.f1 = z.f1 := by
      have a := h y.f0
      rw [ey, ez, if_pos rfl, if_pos hyz.symm, has_above p1, has_above (fun w hw => by have := q1 w hw; omega)] at a
      omega
    have hyz2 : y = z := by cases y; cases z; simp only at hyz hn; subst hyz; subst hn; rfl
    subst hyz2
    rw [has_ext s t p2 q2 (fun w hw => h3 w (List.mem_cons_of_mem _ hw)) (fun w hw => h4 w (List.mem_cons_of_mem _ hw)) (fun b => by have a := h b; rw [ey, ez] at a; omega)]
/-- Numbers counted. -/
def addAll (s : List S61) (l : List Int) : List S61 := l.foldl (fun s v => ins s (bk v) 1) s
def times : List Int → Int → Int
  | [], _ => 0
  | v :: l, b => (if bk v = b then 1 else 0) + times l b
theorem add_all (l : List Int) (hl : ∀ v ∈ l, I64 v) : ∀ (s : List S61), may s = true → tot s + l.length ≤ 1099511627776 → may (addAll s l) = true ∧ tot (addAll s l) = tot s + l.length ∧ ∀ b, has (addAll s l) b = has s b + times l b := by
  induction l with
  | nil => intro s h ht; exact ⟨h, by show tot s = tot s + ((0 : Nat) : Int); omega, fun b => by show has s b = has s b + 0; omega⟩
  | cons v l ih =>
    intro s h ht
    have hv := hl v List.mem_cons_self
    rw [List.length_cons] at ht
    have hr := bk_range v hv.1 hv.2
    obtain ⟨a1, a2, a3⟩ := ih (fun u hu => hl u (List.mem_cons_of_mem _ hu)) (ins s (bk v) 1) (may_ins h hr (by omega) (by omega)) (by rw [tot_ins]; omega)
    refine ⟨a1, by show tot (addAll (ins s (bk v) 1) l) = _; rw [a2, tot_ins, List.length_cons]; omega, fun b => ?_⟩
    show has (addAll (ins s (bk v) 1) l) b = _
    rw [a3 b, has_ins]
    show _ = has s b + ((if bk v = b then 1 else 0) + times l b)
    omega
theorem rd_int (l : List Int) (j : Nat) (h : j < l.length) : rd l (j : Int) = l[j] := by
  simp [rd, List.getD_eq_getElem?_getD, List.getElem?_eq_getElem h]
theorem add_l0 (l : List Int) (hl : ∀ v ∈ l, I64 v) (hn : l.length ≤ 9223372036854775806) (d : Nat) : ∀ (j k : Nat) (s : List S61), l.length - j = d → j ≤ l.length → d < k → may s = true → tot s + d ≤ 1099511627776 →
    sketch_Add.l0 k s l (l.length : Int) (j : Int) = some (addAll s (l.drop j), 0) := by
  induction d with
  | zero =>
    intro j k s hd hj hk hs ht
    obtain ⟨k, rfl⟩ : ∃ m, k = m + 1 := ⟨k - 1, by omega⟩
    rw [sketch_Add.l0, if_neg (by omega), List.drop_of_length_le (by omega)]
    rfl
  | succ d ih =>
    intro j k s hd hj hk hs ht
    obtain ⟨k, rfl⟩ : ∃ m, k = m + 1 := ⟨k - 1, by omega⟩
    have hjl : j < l.length := by omega
    have hv := hl _ (List.getElem_mem hjl)
    have hr := bk_range _ hv.1 hv.2
    rw [sketch_Add.l0, if_pos (by omega), if_pos (by omega), if_pos (by omega), rd_int l j hjl, of_eq hv, Option.bind_some, put_eq hs hr (by omega), Option.bind_some, show wrap64 ((j : Int) + 1) = ((j + 1 : Nat) : Int) by rw [w64 (by omega) (by omega)]; omega,
      ih (j + 1) k _ (by omega) (by omega) (by omega) (may_ins hs hr (by omega) (by omega)) (by rw [tot_ins]; omega), List.drop_eq_getElem_cons hjl]
    rfl
def addR (s : List S61) (l : List Int) : List S61 × Int := if may s = true then (if (l.length : Int) > 1099511627776 - cnt s then ([], 6) else (addAll s l, 0)) else ([], 1)
theorem add_eq (s : List S61) (l : List Int) (hw : Wf s) (hs : s.length ≤ 9223372036854775807) (hl : ∀ v ∈ l, I64 v) (k : Nat) (hk : s.length + l.length < k) : sketch_Add.f k s l = some (addR s l) := by
  unfold sketch_Add.f addR
  rw [check_eq s hw hs k (by omega), Option.bind_some]
  by_cases h : may s = true
  · obtain ⟨b1, b2⟩ := cnt_bd s
    have h3 := len_le h
    rw [if_pos h, if_pos rfl, count_eq s hw hs k (by omega), Option.bind_some, w64 (by omega) (by omega), if_pos h]
    by_cases c : (l.length : Int) > 1099511627776 - cnt s
    · rw [if_pos c, if_pos c]
    · rw [cnt_may h] at c
      have hc : api_Bucket_43.f s = some s := if_pos (by omega)
      have hnn := tot_nn ((may_iff s).1 h).1
      rw [if_neg (by rw [cnt_may h]; exact c), if_neg (by rw [cnt_may h]; exact c), hc, Option.bind_some]
      exact add_l0 l hl (by omega) l.length 0 k s rfl (by omega) (by omega) h (by omega)
  · rw [if_neg h, if_neg (by decide), if_neg h]
/-- Two sketches put together. -/
def mergeAll (s t : List S61) : List S61 := t.foldl (fun s y => ins s y.f0 y.f1) s
theorem merge_all (t : List S61) (hb : Bd t) : ∀ (s : List S61), may s = true → tot s + tot t ≤ 1099511627776 → may (mergeAll s t) = true ∧ tot (mergeAll s t) = tot s + tot t ∧ ∀ b, has (mergeAll s t) b = has s b + has t b := by
  induction t with
  | nil => intro s h ht; exact ⟨h, by show tot s = tot s + 0; omega, fun b => by show has s b = has s b + 0; omega⟩
  | cons y t ih =>
    intro s h ht
    have hy := hb y List.mem_cons_self
    have hb2 : Bd t := fun z hz => hb z (List.mem_cons_of_mem _ hz)
    have e : tot (y :: t) = y.f1 + tot t := rfl
    have h0 : 0 ≤ tot t := by
      clear ih hb ht e
      induction t with
      | nil => exact Int.le_refl _
      | cons z r ih2 =>
        have e : tot (z :: r) = z.f1 + tot r := rfl
        have := (hb2 z List.mem_cons_self).2.2
        have := ih2 (fun y hy => hb2 y (List.mem_cons_of_mem _ hy))
        omega
    obtain ⟨a1, a2, a3⟩ := ih hb2 (ins s y.f0 y.f1) (may_ins h ⟨hy.1, hy.2.1⟩ hy.2.2 (by omega)) (by rw [tot_ins]; omega)
    refine ⟨a1, by show tot (mergeAll (ins s y.f0 y.f1) t) = _; rw [a2, tot_ins]; omega, fun b => ?_⟩
    show has (mergeAll (ins s y.f0 y.f1) t) b = _
    rw [a3 b, has_ins]
    show _ = has s b + ((if y.f0 = b then y.f1 else 0) + has t b)
    omega
theorem tot_drop {t : List S61} (hb : Bd t) (j : Nat) (hj : j < t.length) : tot (t.drop j) = t[j].f1 + tot (t.drop (j + 1)) := by
  rw [List.drop_eq_getElem_cons hj]; rfl
theorem merge_l0 (t : List S61) (hb : may t = true) (d : Nat) : ∀ (j k : Nat) (s : List S61), t.length - j = d → j ≤ t.length → d < k → may s = true → tot s + tot (t.drop j) ≤ 1099511627776 →
    sketch_Merge.l0 k s t (t.length : Int) (j : Int) = some (mergeAll s (t.drop j), 0) := by
  have hln := len_le hb
  have hbd := ((may_iff t).1 hb).1
  induction d with
  | zero =>
    intro j k s hd hj hk hs ht
    obtain ⟨k, rfl⟩ : ∃ m, k = m + 1 := ⟨k - 1, by omega⟩
    rw [sketch_Merge.l0, if_neg (by omega), List.drop_of_length_le (by omega)]
    rfl
  | succ d ih =>
    intro j k s hd hj hk hs ht
    obtain ⟨k, rfl⟩ : ∃ m, k = m + 1 := ⟨k - 1, by omega⟩
    have hjl : j < t.length := by omega
    have hv := wf_may hb _ (List.getElem_mem hjl)
    rw [tot_drop hbd j hjl] at ht
    have hnn : 0 ≤ tot (t.drop (j + 1)) := tot_nn (fun y hy => hbd y (List.mem_of_mem_drop hy))
    rw [sketch_Merge.l0, if_pos (by omega), if_pos (by omega), if_pos (by omega), rd_at t j hjl, put_eq hs ⟨hv.1, hv.2.1⟩ (by omega), Option.bind_some, show wrap64 ((j : Int) + 1) = ((j + 1 : Nat) : Int) by rw [w64 (by omega) (by omega)]; omega,
      ih (j + 1) k _ (by omega) (by omega) (by omega) (may_ins hs ⟨hv.1, hv.2.1⟩ hv.2.2.1 (by omega)) (by rw [tot_ins]; omega), List.drop_eq_getElem_cons hjl]
    rfl
def mergeR (s t : List S61) : List S61 × Int := if may s = true ∧ may t = true then (if cnt t > 1099511627776 - cnt s then ([], 6) else (mergeAll s t, 0)) else ([], 1)
theorem merge_eq (s t : List S61) (hw : Wf s) (hs : s.length ≤ 9223372036854775807) (hw2 : Wf t) (hs2 : t.length ≤ 9223372036854775807) (k : Nat) (hk : s.length + t.length + 1 < k) : sketch_Merge.f k s t = some (mergeR s t) := by
  obtain ⟨k1, rfl⟩ : ∃ m, k = m + 1 := ⟨k - 1, by omega⟩
  unfold sketch_Merge.f mergeR
  rw [check_eq s hw hs _ (by omega), Option.bind_some]
  by_cases h : may s = true
  · rw [if_pos h, if_pos rfl, check_eq t hw2 hs2 _ (by omega), Option.bind_some]
    by_cases h2 : may t = true
    · obtain ⟨b1, b2⟩ := cnt_bd s
      obtain ⟨b3, b4⟩ := cnt_bd t
      rw [if_pos h2, sketch_Merge.j0, if_neg (by decide), count_eq t hw2 hs2 _ (by omega), Option.bind_some, count_eq s hw hs _ (by omega), Option.bind_some, w64 (by omega) (by omega), if_pos (show may s = true ∧ may t = true from ⟨h, h2⟩)]
      by_cases c : cnt t > 1099511627776 - cnt s
      · rw [if_pos c, if_pos c]
      · have h3 := len_le h
        have hc : api_Bucket_43.f s = some s := if_pos (by omega)
        rw [if_neg c, if_neg c, hc, Option.bind_some]
        rw [cnt_may h, cnt_may h2] at c
        exact merge_l0 t h2 t.length 0 k1 s rfl (by omega) (by omega) h (by rw [List.drop_zero]; omega)
    · rw [if_neg h2, sketch_Merge.j0, if_pos (by decide), if_neg (fun h => h2 h.2)]
  · rw [if_neg h, if_neg (by decide), sketch_Merge.j0, if_pos rfl, if_neg (fun h2 => h h2.1)]
instance : DecidableEq S61 := fun a b => decidable_of_iff (a.f0 = b.f0 ∧ a.f1 = b.f1) ⟨fun h => by cases a; cases b; simp only at h; rw [h.1, h.2], fun h => by rw [h]; exact ⟨rfl, rfl⟩⟩
theorem same_l0 (s t : List S61) (hl : s.length = t.length) (hs : s.length ≤ 9223372036854775807) (d : Nat) : ∀ (j k : Nat), s.length - j = d → j ≤ s.length → d < k →
    headgateref29_Same.l0 k s t (j : Int) = some (decide (s.drop j = t.drop j)) := by
  induction d with
  | zero =>
    intro j k hd hj hk
    obtain ⟨k, rfl⟩ : ∃ m, k = m + 1 := ⟨k - 1, by omega⟩
    rw [headgateref29_Same.l0, if_neg (by omega), List.drop_of_length_le (by omega), List.drop_of_length_le (by omega)]
    simp
  | succ d ih =>
    intro j k hd hj hk
    obtain ⟨k, rfl⟩ : ∃ m, k = m + 1 := ⟨k - 1, by omega⟩
    have h1 : j < s.length := by omega
    have h2 : j < t.length := by omega
    rw [headgateref29_Same.l0, if_pos (by omega), if_pos (by omega), if_pos (by omega), rd_at s j h1, rd_at t j h2, List.drop_eq_getElem_cons h1]
    by_cases c : s[j] = t[j]
    · rw [if_neg (by rw [c]; simp), show wrap64 ((j : Int) + 1) = ((j + 1 : Nat) : Int) by rw [w64 (by omega) (by omega)]; omega, ih (j + 1) k (by omega) (by omega) (by omega)]
      congr 1
      rw [decide_eq_decide, List.drop_eq_getElem_cons h2, c]
      exact ⟨fun h => by rw [h], fun h => (List.cons.inj h).2⟩
    · rw [if_pos]
      · congr 1
        symm
        rw [decide_eq_false_iff_not]
        intro h
        rw [List.drop_eq_getElem_cons h2] at h
        exact c (List.cons.inj h).1
      · rw [Bool.or_eq_true]
        by_cases e0 : s[j].f0 = t[j].f0
        · right
          simp only [Bool.not_eq_true', beq_eq_false_iff_ne, ne_eq]
          intro e1
          refine c ?_
          revert e0 e1
          generalize s[j] = p
          generalize t[j] = q
          intro e0 e1
          cases p; cases q; simp only at e0 e1; rw [e0, e1]
        · left
          simpa using e0
theorem same_eq (s t : List S61) (hs : s.length ≤ 9223372036854775807) (k : Nat) (hk : s.length < k) : headgateref29_Same.f k s t = some (decide (s = t)) := by
  unfold headgateref29_Same.f
  by_cases h : (s.length : Int) = (t.length : Int)
  · rw [if_pos h]
    have := same_l0 s t (by omega) hs s.length 0 k rfl (by omega) (by omega)
    exact this
  · rw [if_neg h, decide_eq_false (fun e => h (by rw [e]))]
theorem same_self (s : List S61) (hs : s.length ≤ 9223372036854775807) (k : Nat) (hk : s.length < k) : headgateref29_Same.f k s s = some true := by
  rw [same_eq s s hs k hk, decide_eq_true rfl]
theorem some_eq (l : List Int) : headgatelaw29_some.f l = some (l.take 200) := by
  unfold headgatelaw29_some.f
  by_cases h : (l.length : Int) > 200
  · rw [if_pos h, if_pos (by omega)]
  · rw [if_neg h, List.take_of_length_le (by omega)]
end Go.Proofs.Ytgijangnoekbjaa.Sa
set_option linter.unusedVariables false
namespace Go.Proofs.Ytgijangnoekbjaa.Pure
open Go.RowKit Go.Proofs.Ytgijangnoekbjaa.Vm Go.Proofs.Ytgijangnoekbjaa.Sm Go.Proofs.Ytgijangnoekbjaa.Sp Go.Proofs.Ytgijangnoekbjaa.Sc Go.Proofs.Ytgijangnoekbjaa.Sa Go.Proofs.Ytgijangnoekbjaa.P Go.Proofs.YtgijangnoekbjaaW.PrintWords Go.Proofs.YtgijangnoekbjaaW.PrintLast
theorem times_append (l m : List Int) (b : Int) : times (l ++ m) b = times l b + times m b := by
  induction l with
  | nil => show times m b = 0 + _; omega
  | cons v l ih =>
    show (if bk v = b then 1 else 0) + times (l ++ m) b = (if bk v = b then 1 else 0) + times l b + times m b
    rw [ih]; omega
theorem times_reverse (l : List Int) (b : Int) : times l.reverse b = times l b := by
  induction l with
  | nil => rfl
  | cons v l ih =>
    rw [List.reverse_cons, times_append, ih]
    show times l b + ((if bk v = b then 1 else 0) + 0) = (if bk v = b then 1 else 0) + times l b
    omega
theorem may_nil : may ([] : List S61) = true := rfl
theorem addR_nil (l : List Int) (h : l.length ≤ 1000) : addR [] l = (addAll [] l, 0) := by
  unfold addR
  rw [if_pos may_nil, if_neg]
  rw [cnt_may may_nil]
  show ¬ ((l.length : Int) > 1099511627776 - 0)
  omega
theorem wf_nil : Wf ([] : List S61) := fun y hy => by cases hy
theorem back_l0 (l : List Int) (hl : ∀ v ∈ l, I64 v) (hn : l.length ≤ 200) (x6 x12 : List S61) (x7 x13 : Int) (d : Nat) : ∀ (j k : Nat), j ≤ l.length → j = d → d < k →
    headgatelaw29_SketchParts.l0 k l x6 x7 x12 x13 (l.drop j).reverse ((j : Int) - 1) = headgatelaw29_SketchParts.l0 (k - d) l x6 x7 x12 x13 l.reverse (-1) := by
  induction d with
  | zero =>
    intro j k hj hd hk
    subst hd
    rfl
  | succ d ih =>
    intro j k hj hd hk
    obtain ⟨k, rfl⟩ : ∃ m, k = m + 1 := ⟨k - 1, by omega⟩
    have hdl : d < l.length := by omega
    subst hd
    have e1 : (((d + 1 : Nat) : Int) - 1) = (d : Int) := by omega
    have e2 : l.drop d = l[d] :: l.drop (d + 1) := List.drop_eq_getElem_cons hdl
    rw [e1, headgatelaw29_SketchParts.l0, if_pos (by omega), if_pos (by omega), if_pos (by omega), if_pos (by simp; omega), rd_int l d hdl, w64 (by omega) (by omega), ← List.reverse_cons, ← e2, ih d k (by omega) rfl (by omega), show k + 1 - (d + 1) = k - d by omega]
theorem cut_le (n : Nat) (hn : n ≤ 200) (a : Int) (ha : I64 a) : ∃ m : Nat, m ≤ n ∧ Int.tmod (wrap64 ((wrap64 ((Int.tmod a (wrap64 ((n : Int) + 1))) + (n : Int))) + 1)) (wrap64 ((n : Int) + 1)) = (m : Int) := by
  have e1 : wrap64 ((n : Int) + 1) = (n : Int) + 1 := w64 (by omega) (by omega)
  rw [e1]
  have h1 := Int.tmod_lt_of_pos a (show 0 < (n : Int) + 1 by omega)
  have h2 : -((n : Int) + 1) < Int.tmod a ((n : Int) + 1) := by
    have := Int.lt_tmod_of_pos a (show 0 < (n : Int) + 1 by omega)
    omega
  rw [w64 (x := Int.tmod a ((n : Int) + 1) + (n : Int)) (by omega) (by omega), w64 (by omega) (by omega), Int.tmod_eq_emod_of_nonneg (by omega)]
  have h3 := Int.emod_nonneg (Int.tmod a ((n : Int) + 1) + (n : Int) + 1) (show (n : Int) + 1 ≠ 0 by omega)
  have h4 := Int.emod_lt_of_pos (Int.tmod a ((n : Int) + 1) + (n : Int) + 1) (show 0 < (n : Int) + 1 by omega)
  exact ⟨((Int.tmod a ((n : Int) + 1) + (n : Int) + 1) % ((n : Int) + 1)).toNat, by omega, by omega⟩
theorem SketchParts : headgatelaw29_SketchParts.Pure := by
  intro l a hl0 hl1 hl2 ha
  refine ⟨5000 + 200, ?_⟩
  unfold headgatelaw29_SketchParts.f
  rw [some_eq, Option.bind_some]
  have hl : ∀ v ∈ l.take 200, I64 v := fun v hv => i64_of (hl2 v (List.mem_of_mem_take hv))
  have hn : (l.take 200).length ≤ 200 := by rw [List.length_take]; omega
  generalize l.take 200 = l at hl hn
  obtain ⟨m, hm, em⟩ := cut_le l.length hn a (i64_of ha)
  rw [em, if_neg (by rw [w64 (by omega) (by omega)]; omega)]
  have c1 : ∀ v ∈ l.take m, I64 v := fun v hv => hl v (List.mem_of_mem_take hv)
  have c2 : ∀ v ∈ l.drop m, I64 v := fun v hv => hl v (List.mem_of_mem_drop hv)
  have n1 : (l.take m).length ≤ 200 := by rw [List.length_take]; omega
  have n2 : (l.drop m).length ≤ 200 := by rw [List.length_drop]; omega
  have n12 : ((l.take m).length : Int) + (l.drop m).length = l.length := by rw [List.length_take, List.length_drop]; omega
  have t0 : tot ([] : List S61) = 0 := rfl
  obtain ⟨a1, a2, a3⟩ := add_all l hl [] may_nil (by omega)
  obtain ⟨b1, b2, b3⟩ := add_all (l.take m) c1 [] may_nil (by omega)
  obtain ⟨d1, d2, d3⟩ := add_all (l.drop m) c2 [] may_nil (by omega)
  have wf1 := wf_of b1
  have wf2 := wf_of d1
  have le1 := len_le b1
  have le2 := len_le d1
  have le0 := len_le a1
  have hnl : ([] : List S61).length = 0 := rfl
  have hmr : mergeR (addAll [] (l.drop m)) (addAll [] (l.take m)) = (mergeAll (addAll [] (l.drop m)) (addAll [] (l.take m)), 0) := by
    unfold mergeR
    rw [if_pos (show may _ = true ∧ may _ = true from ⟨d1, b1⟩), cnt_may d1, cnt_may b1, if_neg (by omega)]
  obtain ⟨e1, e2, e3⟩ := merge_all _ ((may_iff _).1 b1).1 _ d1 (show tot (addAll [] (l.drop m)) + tot (addAll [] (l.take m)) ≤ 1099511627776 by omega)
  have hboth : mergeAll (addAll [] (l.drop m)) (addAll [] (l.take m)) = addAll [] l := by
    refine has_ext _ _ ((may_iff _).1 e1).2.1 ((may_iff _).1 a1).2.1 ((may_iff _).1 e1).1 ((may_iff _).1 a1).1 (fun b => ?_)
    have h0 : has ([] : List S61) b = 0 := rfl
    have ht := times_append (l.take m) (l.drop m) b
    rw [List.take_append_drop] at ht
    rw [e3, d3, b3, a3, ht]
    omega
  have hrev : ∀ v ∈ l.reverse, I64 v := fun v hv => hl v (List.mem_reverse.1 hv)
  obtain ⟨r1, r2, r3⟩ := add_all l.reverse hrev [] may_nil (by rw [List.length_reverse]; omega)
  have hback : addAll [] l.reverse = addAll [] l := by
    refine has_ext _ _ ((may_iff _).1 r1).2.1 ((may_iff _).1 a1).2.1 ((may_iff _).1 r1).1 ((may_iff _).1 a1).1 (fun b => ?_)
    rw [r3, a3, times_reverse]
  rw [add_eq [] l wf_nil (by simp) hl _ (by simp; omega), Option.bind_some, if_pos (by omega), if_pos (by omega), Int.toNat_natCast, add_eq [] _ wf_nil (by simp) c1 _ (by simp; omega), Option.bind_some, add_eq [] _ wf_nil (by simp) c2 _ (by simp; omega), Option.bind_some, addR_nil l (by omega), addR_nil _ (by omega), addR_nil _ (by omega),
    merge_eq _ _ wf2 (by omega) wf1 (by omega) _ (by omega), Option.bind_some, hmr, hboth, w64 (by omega) (by omega)]
  have hb := back_l0 l hl hn (addAll [] l) (addAll [] l) 0 0 l.length l.length (5000 + 200) (Nat.le_refl _) rfl (by omega)
  rw [List.drop_length] at hb
  refine hb.trans ?_
  obtain ⟨q, hq, hq2⟩ : ∃ q, 5000 + 200 - l.length = q + 1 ∧ 4000 ≤ q := ⟨5000 + 200 - l.length - 1, by omega, by omega⟩
  rw [hq, headgatelaw29_SketchParts.l0, if_neg (by omega), add_eq [] _ wf_nil (by simp) hrev _ (by simp; omega), Option.bind_some, addR_nil _ (by rw [List.length_reverse]; omega), hback, if_pos rfl, if_pos rfl, same_self _ (by omega) _ (by omega), Option.bind_some, if_pos rfl, Option.bind_some, if_pos rfl,
    count_eq _ (wf_of a1) (by omega) _ (by omega), Option.bind_some, cnt_may a1, a2, if_pos (by omega), awake_eq, Option.bind_some]
end Go.Proofs.Ytgijangnoekbjaa.Pure
