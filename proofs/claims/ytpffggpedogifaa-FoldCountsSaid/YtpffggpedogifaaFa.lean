/- What numbers come to (chapter 15): fold.Add and the document's Add are one function; what a row of numbers comes to, in closed form. Over the printed functions alone. -/
import Derived.Test.YtpffggpedogifaaPx4
import Derived.Test.YtpffggpedogifaaPx6
import Derived.Test.YtpffggpedogifaaPx7
import Derived.Test.YtpffggpedogifaaPx10
import Derived.Test.YtpffggpedogifaaPx9
import Derived.Test.YtpffggpedogifaaVm
set_option linter.unusedVariables false
namespace Go.Proofs.Ytpffggpedogifaa.Fa
open Go.RowKit Go.Proofs.Ytpffggpedogifaa.Vm Go.Proofs.Ytpffggpedogifaa.P Go.Proofs.YtpffggpedogifaaW.PrintWords Go.Proofs.YtpffggpedogifaaW.PrintLast

theorem w64 {x : Int} (h0 : -9223372036854775808 ≤ x) (h1 : x ≤ 9223372036854775807) : wrap64 x = x := by unfold wrap64; omega
theorem i64_of {n : Int} (h : (Lit.int .i64 n).wf = true) : I64 n := by
  simp [Lit.wf, IntKind.min, IntKind.max, IntKind.signed, IntKind.bits] at h
  unfold I64
  omega
def sat (x : Int) : Int := if 9223372036854775807 < x then 9223372036854775807 else if x < -9223372036854775808 then -9223372036854775808 else x
theorem sat_i64 (x : Int) : I64 (sat x) := by
  unfold sat I64
  repeat' split
  all_goals omega
theorem sat_of {x : Int} (h : I64 x) : sat x = x := by unfold I64 at h; unfold sat; rw [if_neg (by omega), if_neg (by omega)]
theorem wrap_cases {a b : Int} (ha : I64 a) (hb : I64 b) : (a + b ≤ 9223372036854775807 ∧ -9223372036854775808 ≤ a + b ∧ wrap64 (a + b) = a + b) ∨ (9223372036854775807 < a + b ∧ wrap64 (a + b) = a + b - 18446744073709551616) ∨ (a + b < -9223372036854775808 ∧ wrap64 (a + b) = a + b + 18446744073709551616) := by
  unfold I64 at ha hb
  unfold wrap64
  omega
theorem plus_eq {a b : Int} (ha : I64 a) (hb : I64 b) (k : Nat) : fold_plus.f (k + 1) a b = some (sat (a + b)) := by
  have hc := wrap_cases ha hb
  unfold I64 at ha hb
  unfold fold_plus.f sat
  simp only [fold_plus.j0, decide_eq_true_eq, Bool.false_eq_true, if_false]
  generalize wrap64 (a + b) = c at hc
  split
  · split
    · rw [if_pos (by omega)]
    · rw [if_neg (by omega), if_neg (by omega), if_neg (by omega)]; congr 1; omega
  · split
    · split
      · rw [if_neg (by omega), if_pos (by omega)]
      · rw [if_neg (by omega), if_neg (by omega)]; congr 1; omega
    · rw [if_neg (by omega), if_neg (by omega)]; congr 1; omega
theorem rplus_eq {a b : Int} (ha : I64 a) (hb : I64 b) (k : Nat) : headgateref15_Plus.f (k + 1) a b = some (sat (a + b)) := by
  have hc := wrap_cases ha hb
  unfold I64 at ha hb
  unfold headgateref15_Plus.f sat
  simp only [headgateref15_Plus.j0, decide_eq_true_eq, Bool.false_eq_true, if_false]
  split
  · rw [w64 (by omega) (by omega)]
    generalize wrap64 (a + b) = c at hc
    split
    · rw [if_pos (by omega)]
    · rw [if_neg (by omega), if_neg (by omega), if_neg (by omega)]; congr 1; omega
  · split
    · rw [w64 (by omega) (by omega)]
      generalize wrap64 (a + b) = c at hc
      split
      · rw [if_neg (by omega), if_pos (by omega)]
      · rw [if_neg (by omega), if_neg (by omega)]; congr 1; omega
    · generalize wrap64 (a + b) = c at hc
      rw [if_neg (by omega), if_neg (by omega)]; congr 1; omega
def srt (v : Int) : Int := if v < 0 then 0 else if v < 10 then 1 else if v < 100 then 2 else 3
theorem srt_cases (v : Int) : srt v = 0 ∨ srt v = 1 ∨ srt v = 2 ∨ srt v = 3 := by
  unfold srt
  repeat' split
  all_goals omega
theorem sort_eq (v : Int) : fold_Sort.f v = some (srt v) := by
  unfold fold_Sort.f srt
  split
  · rfl
  · split
    · rfl
    · split <;> rfl
theorem rsort_eq (v : Int) : headgateref15_Sort.f v = some (srt v) := by
  unfold headgateref15_Sort.f srt
  by_cases h1 : v ≥ 100
  · rw [if_pos h1, if_neg (by omega), if_neg (by omega), if_neg (by omega)]
  · rw [if_neg h1]
    by_cases h2 : v ≥ 10
    · rw [if_pos h2, if_neg (by omega), if_neg (by omega), if_pos (by omega)]
    · rw [if_neg h2]
      by_cases h3 : v ≥ 0
      · rw [if_pos h3, if_neg (by omega), if_pos (by omega)]
      · rw [if_neg h3, if_pos (by omega)]

/-- What numbers come to. -/
structure Ag where
  n : Int
  s : Int
  lo : Int
  hi : Int
  h0 : Int
  h1 : Int
  h2 : Int
  h3 : Int
  re : Int
  im : Int
abbrev T10 := Int × Int × Int × Int × Int × Int × Int × Int × Int × Int
def Ag.t (a : Ag) : T10 := (a.n, a.s, a.lo, a.hi, a.h0, a.h1, a.h2, a.h3, a.re, a.im)
structure Ag.I (a : Ag) : Prop where
  n : I64 a.n
  s : I64 a.s
  lo : I64 a.lo
  hi : I64 a.hi
  h0 : I64 a.h0
  h1 : I64 a.h1
  h2 : I64 a.h2
  h3 : I64 a.h3
  re : I64 a.re
  im : I64 a.im
def bump (k v x : Int) : Int := if srt v = k then sat (x + 1) else x
def add (a : Ag) (v : Int) : Ag := ⟨sat (a.n + 1), sat (a.s + v), if a.n = 0 then v else mn a.lo v, if a.n = 0 then v else mx a.hi v, bump 0 v a.h0, bump 1 v a.h1, bump 2 v a.h2, bump 3 v a.h3,
  if v % 4 = 0 then sat (a.re + 1) else if v % 4 = 2 then sat (a.re + -1) else a.re, if v % 4 = 1 then sat (a.im + 1) else if v % 4 = 3 then sat (a.im + -1) else a.im⟩
theorem i64_1 : I64 1 := by decide
theorem i64_m1 : I64 (-1) := by decide
theorem i64_0 : I64 0 := by decide
theorem mn_i64 {a b : Int} (ha : I64 a) (hb : I64 b) : I64 (mn a b) := by unfold mn; split <;> assumption
theorem mx_i64 {a b : Int} (ha : I64 a) (hb : I64 b) : I64 (mx a b) := by unfold mx; split <;> assumption
theorem bump_i64 {k v x : Int} (h : I64 x) : I64 (bump k v x) := by unfold bump; split; exact sat_i64 _; exact h
theorem add_I {a : Ag} (h : a.I) {v : Int} (hv : I64 v) : (add a v).I := by
  refine ⟨sat_i64 _, sat_i64 _, ?_, ?_, bump_i64 h.h0, bump_i64 h.h1, bump_i64 h.h2, bump_i64 h.h3, ?_, ?_⟩
  · show I64 (if a.n = 0 then v else mn a.lo v)
    split; exact hv; exact mn_i64 h.lo hv
  · show I64 (if a.n = 0 then v else mx a.hi v)
    split; exact hv; exact mx_i64 h.hi hv
  · show I64 (if v % 4 = 0 then sat (a.re + 1) else if v % 4 = 2 then sat (a.re + -1) else a.re)
    repeat' split
    exact sat_i64 _
    exact sat_i64 _
    exact h.re
  · show I64 (if v % 4 = 1 then sat (a.im + 1) else if v % 4 = 3 then sat (a.im + -1) else a.im)
    repeat' split
    exact sat_i64 _
    exact sat_i64 _
    exact h.im
theorem turn_re {x v : Int} (h : I64 x) (k : Nat) : fold_plus.f (k + 1) x (fold_turn.int (fold_turn.c (v % 4)).1) = some (if v % 4 = 0 then sat (x + 1) else if v % 4 = 2 then sat (x + -1) else x) := by
  have hq : v % 4 = 0 ∨ v % 4 = 1 ∨ v % 4 = 2 ∨ v % 4 = 3 := by omega
  rcases hq with e | e | e | e
  · rw [e, show fold_turn.int (fold_turn.c 0).1 = 1 from rfl, plus_eq h i64_1, if_pos rfl]
  · rw [e, show fold_turn.int (fold_turn.c 1).1 = 0 from rfl, plus_eq h i64_0, Int.add_zero, sat_of h]; rfl
  · rw [e, show fold_turn.int (fold_turn.c 2).1 = -1 from rfl, plus_eq h i64_m1]; rfl
  · rw [e, show fold_turn.int (fold_turn.c 3).1 = 0 from rfl, plus_eq h i64_0, Int.add_zero, sat_of h]; rfl
theorem turn_im {x v : Int} (h : I64 x) (k : Nat) : fold_plus.f (k + 1) x (fold_turn.int (fold_turn.c (v % 4)).2) = some (if v % 4 = 1 then sat (x + 1) else if v % 4 = 3 then sat (x + -1) else x) := by
  have hq : v % 4 = 0 ∨ v % 4 = 1 ∨ v % 4 = 2 ∨ v % 4 = 3 := by omega
  rcases hq with e | e | e | e
  · rw [e, show fold_turn.int (fold_turn.c 0).2 = 0 from rfl, plus_eq h i64_0, Int.add_zero, sat_of h]; rfl
  · rw [e, show fold_turn.int (fold_turn.c 1).2 = 1 from rfl, plus_eq h i64_1, if_pos rfl]
  · rw [e, show fold_turn.int (fold_turn.c 2).2 = 0 from rfl, plus_eq h i64_0, Int.add_zero, sat_of h]; rfl
  · rw [e, show fold_turn.int (fold_turn.c 3).2 = -1 from rfl, plus_eq h i64_m1]; rfl
theorem add_j1 {v n s lo hi h0 h1 h2 h3 re im : Int} (hr : I64 re) (hi' : I64 im) (k : Nat) : fold_Add.j1 (k + 2) v n s lo hi h0 h1 h2 h3 re im = some (n, s, lo, hi, h0, h1, h2, h3, (if v % 4 = 0 then sat (re + 1) else if v % 4 = 2 then sat (re + -1) else re), (if v % 4 = 1 then sat (im + 1) else if v % 4 = 3 then sat (im + -1) else im)) := by
  rw [fold_Add.j1, fold_turn.f, Option.bind_some, turn_re hr, Option.bind_some, turn_im hi', Option.bind_some]
theorem add_j0 {v n s lo hi h0 h1 h2 h3 re im : Int} (hv : I64 v) (hn : I64 n) (hs : I64 s) (i0 : I64 h0) (i1 : I64 h1) (i2 : I64 h2) (i3 : I64 h3) (hr : I64 re) (hi' : I64 im) (k : Nat) :
    fold_Add.j0 (k + 3) v n s lo hi h0 h1 h2 h3 re im = some (sat (n + 1), sat (s + v), mn lo v, mx hi v, bump 0 v h0, bump 1 v h1, bump 2 v h2, bump 3 v h3, (if v % 4 = 0 then sat (re + 1) else if v % 4 = 2 then sat (re + -1) else re), (if v % 4 = 1 then sat (im + 1) else if v % 4 = 3 then sat (im + -1) else im)) := by
  rw [fold_Add.j0, plus_eq hn i64_1, Option.bind_some, plus_eq hs hv, Option.bind_some, sort_eq, Option.bind_some, Option.bind_some]
  unfold bump
  rcases srt_cases v with e | e | e | e
  · rw [e, if_pos rfl, plus_eq i0 i64_1, Option.bind_some, if_pos rfl, add_j1 hr hi']; rfl
  · rw [e, if_neg (by decide), if_pos rfl, plus_eq i1 i64_1, Option.bind_some, if_neg (by decide), if_pos rfl, add_j1 hr hi']; rfl
  · rw [e, if_neg (by decide), if_neg (by decide), if_pos rfl, plus_eq i2 i64_1, Option.bind_some, if_neg (by decide), if_neg (by decide), if_pos rfl, add_j1 hr hi']; rfl
  · rw [e, if_neg (by decide), if_neg (by decide), if_neg (by decide), if_pos rfl, plus_eq i3 i64_1, Option.bind_some, if_neg (by decide), if_neg (by decide), if_neg (by decide), if_pos rfl, add_j1 hr hi']; rfl
theorem add_eq {a : Ag} (h : a.I) {v : Int} (hv : I64 v) (k : Nat) : fold_Add.f (k + 3) a.n a.s a.lo a.hi a.h0 a.h1 a.h2 a.h3 a.re a.im v = some (add a v).t := by
  unfold fold_Add.f add Ag.t
  by_cases c : a.n = 0
  · rw [if_pos c, add_j0 hv h.n h.s h.h0 h.h1 h.h2 h.h3 h.re h.im, show mn v v = v by unfold mn; split <;> rfl, show mx v v = v by unfold mx; split <;> rfl]
    simp only [if_pos c]
  · rw [if_neg c, add_j0 hv h.n h.s h.h0 h.h1 h.h2 h.h3 h.re h.im]
    simp only [if_neg c]
theorem quarter (v : Int) : Int.tmod (wrap64 ((Int.tmod v 4) + 4)) 4 = v % 4 := by
  have h : ∃ q, Int.tmod v 4 = q ∧ -4 < q ∧ q < 4 ∧ q % 4 = v % 4 := by
    rcases Int.le_total 0 v with h | h
    · exact ⟨_, Int.tmod_eq_emod_of_nonneg h, by omega, by omega, by omega⟩
    · refine ⟨-((-v) % 4), ?_, by omega, by omega, by omega⟩
      rw [← Int.tmod_eq_emod_of_nonneg (by omega : 0 ≤ -v), Int.neg_tmod, Int.neg_neg]
  obtain ⟨q, hq, h1, h2, h3⟩ := h
  rw [hq, w64 (by omega) (by omega), Int.tmod_eq_emod_of_nonneg (by omega)]
  omega
theorem radd_j4 {v a0 a1 a2 a3 a4 a5 a6 a7 n s lo hi h0 h1 h2 h3 re im : Int} (hr : I64 re) (hi' : I64 im) (k : Nat) :
    headgateref15_Add.j4 (k + 4) v a0 a1 a2 a3 a4 a5 a6 a7 re im n s lo hi h0 h1 h2 h3 re im = some (n, s, lo, hi, h0, h1, h2, h3, (if v % 4 = 0 then sat (re + 1) else if v % 4 = 2 then sat (re + -1) else re), (if v % 4 = 1 then sat (im + 1) else if v % 4 = 3 then sat (im + -1) else im)) := by
  have hq : v % 4 = 0 ∨ v % 4 = 1 ∨ v % 4 = 2 ∨ v % 4 = 3 := by omega
  rw [headgateref15_Add.j4, quarter]
  rcases hq with e | e | e | e
  · rw [e, if_pos rfl, rplus_eq hr i64_1, Option.bind_some, headgateref15_Add.j5, if_neg (by decide), headgateref15_Add.j6, if_neg (by decide), if_neg (by decide)]; rfl
  · rw [e, if_neg (by decide), headgateref15_Add.j5, if_pos rfl, rplus_eq hi' i64_1, Option.bind_some, headgateref15_Add.j6, if_neg (by decide), if_neg (by decide)]; rfl
  · rw [e, if_neg (by decide), headgateref15_Add.j5, if_neg (by decide), headgateref15_Add.j6, if_pos rfl, rplus_eq hr i64_m1, Option.bind_some, if_neg (by decide)]; rfl
  · rw [e, if_neg (by decide), headgateref15_Add.j5, if_neg (by decide), headgateref15_Add.j6, if_neg (by decide), if_pos rfl, rplus_eq hi' i64_m1, Option.bind_some]; rfl
theorem radd_j3 {v n s lo' hi' lo hi h0 h1 h2 h3 re im : Int} (hv : I64 v) (hn : I64 n) (hs : I64 s) (i0 : I64 h0) (i1 : I64 h1) (i2 : I64 h2) (i3 : I64 h3) (hr : I64 re) (hm : I64 im) (k : Nat) :
    headgateref15_Add.j3 (k + 5) v n s lo' hi' h0 h1 h2 h3 re im n s lo hi h0 h1 h2 h3 re im = some (sat (n + 1), sat (s + v), lo, hi, bump 0 v h0, bump 1 v h1, bump 2 v h2, bump 3 v h3, (if v % 4 = 0 then sat (re + 1) else if v % 4 = 2 then sat (re + -1) else re), (if v % 4 = 1 then sat (im + 1) else if v % 4 = 3 then sat (im + -1) else im)) := by
  rw [headgateref15_Add.j3, rplus_eq hn i64_1, Option.bind_some, rplus_eq hs hv, Option.bind_some, rsort_eq, Option.bind_some]
  unfold bump
  rcases srt_cases v with e | e | e | e
  · rw [e, if_pos rfl, rplus_eq i0 i64_1, Option.bind_some, radd_j4 hr hm]; rfl
  · rw [e, if_neg (by decide), if_pos rfl, rplus_eq i1 i64_1, Option.bind_some, radd_j4 hr hm]; rfl
  · rw [e, if_neg (by decide), if_neg (by decide), if_pos rfl, rplus_eq i2 i64_1, Option.bind_some, radd_j4 hr hm]; rfl
  · rw [e, if_neg (by decide), if_neg (by decide), if_neg (by decide), if_pos rfl, rplus_eq i3 i64_1, Option.bind_some, radd_j4 hr hm]; rfl
theorem radd_eq {a : Ag} (h : a.I) {v : Int} (hv : I64 v) (k : Nat) : headgateref15_Add.f (k + 8) a.n a.s a.lo a.hi a.h0 a.h1 a.h2 a.h3 a.re a.im v = some (add a v).t := by
  have J3 := fun lo hi => @radd_j3 v a.n a.s a.lo a.hi lo hi a.h0 a.h1 a.h2 a.h3 a.re a.im hv h.n h.s h.h0 h.h1 h.h2 h.h3 h.re h.im k
  have J1 : ∀ lo, headgateref15_Add.j1 (k + 7) v a.n a.s a.lo a.hi a.h0 a.h1 a.h2 a.h3 a.re a.im a.n a.s lo a.hi a.h0 a.h1 a.h2 a.h3 a.re a.im = headgateref15_Add.j3 (k + 5) v a.n a.s a.lo a.hi a.h0 a.h1 a.h2 a.h3 a.re a.im a.n a.s lo (if a.n = 0 then v else mx a.hi v) a.h0 a.h1 a.h2 a.h3 a.re a.im := by
    intro lo
    rw [headgateref15_Add.j1]
    by_cases c : a.n = 0
    · rw [if_pos c, if_pos c, headgateref15_Add.j2, if_pos rfl]
    · rw [if_neg c, if_neg c, headgateref15_Add.j2]
      unfold mx
      by_cases d : v > a.hi
      · rw [if_pos (decide_eq_true d), if_pos d]
      · rw [if_neg (by simpa using d), if_neg d]
  unfold headgateref15_Add.f add Ag.t
  by_cases c : a.n = 0
  · rw [if_pos c, headgateref15_Add.j0, if_pos rfl, J1, J3]
    simp only [if_pos c]
  · rw [if_neg c, headgateref15_Add.j0]
    by_cases d : v < a.lo
    · rw [if_pos (decide_eq_true d), J1, J3]
      simp only [if_neg c]
      rw [show mn a.lo v = v by unfold mn; rw [if_pos d]]
    · rw [if_neg (by simpa using d), J1, J3]
      simp only [if_neg c]
      rw [show mn a.lo v = a.lo by unfold mn; rw [if_neg d]]

/-! ### rows of numbers -/
def zero : Ag := ⟨0, 0, 0, 0, 0, 0, 0, 0, 0, 0⟩
theorem zero_I : zero.I := ⟨i64_0, i64_0, i64_0, i64_0, i64_0, i64_0, i64_0, i64_0, i64_0, i64_0⟩
def all (l : List Int) : Ag := l.foldl add zero
theorem foldl_I : ∀ (l : List Int) {a : Ag}, a.I → (∀ x ∈ l, I64 x) → (l.foldl add a).I
  | [], _, h, _ => h
  | v :: t, _, h, hl => foldl_I t (add_I h (hl v (List.mem_cons_self ..))) (fun x hx => hl x (List.mem_cons_of_mem _ hx))
theorem all_I {l : List Int} (hl : ∀ x ∈ l, I64 x) : (all l).I := foldl_I l zero_I hl
theorem rd_at (l : List Int) (i : Nat) (h : i < l.length) : rd l (i : Int) = l[i] := by
  unfold rd
  simp [h]
theorem drop_at (l : List Int) (i : Nat) (h : i < l.length) : l.drop i = l[i] :: l.drop (i + 1) := List.drop_eq_getElem_cons h
theorem all_l0 (l : List Int) (hl : ∀ x ∈ l, I64 x) (hn : l.length ≤ 1000000) (d : Nat) : ∀ (i k : Nat) (a : Ag), l.length - i = d → i ≤ l.length → d + 10 < k → a.I →
    fold_All.l0 k l (l.length : Int) (i : Int) a.n a.s a.lo a.hi a.h0 a.h1 a.h2 a.h3 a.re a.im = some ((l.drop i).foldl add a).t := by
  induction d with
  | zero =>
    intro i k a hd hi hk ha
    obtain ⟨k, rfl⟩ : ∃ m, k = m + 1 := ⟨k - 1, by omega⟩
    rw [fold_All.l0, if_neg (by omega), List.drop_of_length_le (by omega)]
    rfl
  | succ d ih =>
    intro i k a hd hi hk ha
    obtain ⟨k, rfl⟩ : ∃ m, k = m + 3 + 1 := ⟨k - 4, by omega⟩
    have hlt : i < l.length := by omega
    have hv : I64 l[i] := hl _ (List.getElem_mem hlt)
    rw [fold_All.l0, if_pos (by omega), if_pos (by omega), if_pos (by omega), rd_at l i hlt, add_eq ha hv, Option.bind_some, drop_at l i hlt, w64 (by omega) (by omega)]
    exact ih (i + 1) (k + 3) (add a l[i]) (by omega) (by omega) (by omega) (add_I ha hv)
theorem all_eq {l : List Int} (hl : ∀ x ∈ l, I64 x) (hn : l.length ≤ 1000000) (k : Nat) (hk : l.length + 11 < k) : fold_All.f k l = some (all l).t := by
  unfold fold_All.f
  exact all_l0 l hl hn l.length 0 k zero (by omega) (by omega) (by omega) zero_I
theorem rall_l0 (l : List Int) (hl : ∀ x ∈ l, I64 x) (hn : l.length ≤ 1000000) (d : Nat) : ∀ (i k : Nat) (a : Ag), l.length - i = d → i ≤ l.length → d + 10 < k → a.I →
    headgateref15_All.l0 k l (i : Int) a.n a.s a.lo a.hi a.h0 a.h1 a.h2 a.h3 a.re a.im = some ((l.drop i).foldl add a).t := by
  induction d with
  | zero =>
    intro i k a hd hi hk ha
    obtain ⟨k, rfl⟩ : ∃ m, k = m + 1 := ⟨k - 1, by omega⟩
    rw [headgateref15_All.l0, if_neg (by omega), List.drop_of_length_le (by omega)]
    rfl
  | succ d ih =>
    intro i k a hd hi hk ha
    obtain ⟨k, rfl⟩ : ∃ m, k = m + 8 + 1 := ⟨k - 9, by omega⟩
    have hlt : i < l.length := by omega
    have hv : I64 l[i] := hl _ (List.getElem_mem hlt)
    rw [headgateref15_All.l0, if_pos (by omega), if_pos (by omega), rd_at l i hlt, radd_eq ha hv, Option.bind_some, drop_at l i hlt, w64 (by omega) (by omega)]
    exact ih (i + 1) (k + 8) (add a l[i]) (by omega) (by omega) (by omega) (add_I ha hv)
theorem rall_eq {l : List Int} (hl : ∀ x ∈ l, I64 x) (hn : l.length ≤ 1000000) (k : Nat) (hk : l.length + 11 < k) : headgateref15_All.f k l = some (all l).t := by
  unfold headgateref15_All.f
  exact rall_l0 l hl hn l.length 0 k zero (by omega) (by omega) (by omega) zero_I
theorem awake_eq (k : Nat) (hk : 20 < k) : headgatelaw15_awake.f k = some true := by
  unfold headgatelaw15_awake.f
  rw [all_eq (l := [5, (-1), 12]) (by decide) (by decide) k (by simp; omega), Option.bind_some]
  rfl
def cut (l : List Int) : List Int := l.take 300
theorem some_eq (l : List Int) : headgatelaw15_some.f l = some (cut l) := by
  unfold headgatelaw15_some.f cut
  by_cases h : (l.length : Int) > 300
  · rw [if_pos h, if_pos (by omega)]
  · rw [if_neg h, List.take_of_length_le (by omega)]
theorem cut_len (l : List Int) : (cut l).length ≤ 300 := by unfold cut; rw [List.length_take]; omega
theorem cut_i64 {l : List Int} (h : ∀ x ∈ l, (Lit.int .i64 x).wf = true) : ∀ x ∈ cut l, I64 x := fun x hx => i64_of (h x (List.mem_of_mem_take hx))
end Go.Proofs.Ytpffggpedogifaa.Fa
