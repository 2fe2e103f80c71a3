/- For any numbers and any bytes: what the numbers come to may be (if there are any), and is read as it was; what is read was laid so; chapter 15's example holds. No condition. -/
import Derived.Test.YtpffggpedogifaaPx3
import Derived.Test.YtpffggpedogifaaPx4
import Derived.Test.YtpffggpedogifaaPx7
import Derived.Test.YtpffggpedogifaaPx9
import Derived.Test.YtpffggpedogifaaPx15
import Derived.Test.YtpffggpedogifaaPx16
import Derived.Test.YtpffggpedogifaaPx17
import Derived.Test.YtpffggpedogifaaPx20
import Derived.Test.YtpffggpedogifaaPx21
import Derived.Test.YtpffggpedogifaaPx26
import Derived.Test.YtpffggpedogifaaVm
import Derived.Laws.Bits64
set_option linter.unusedVariables false
namespace Go.Proofs.Ytpffggpedogifaa.Fa
open Go.RowKit Go.Proofs.Ytpffggpedogifaa.Vm Go.Proofs.Ytpffggpedogifaa.P Go.Proofs.YtpffggpedogifaaW.PrintWords Go.Proofs.YtpffggpedogifaaW.PrintLast
theorem w64 {x : Int} (h0 : -9223372036854775808 ≤ x) (h1 : x ≤ 9223372036854775807) : wrap64 x = x := by unfold wrap64; omega
theorem i64_of {n : Int} (h : (Lit.int .i64 n).wf = true) : I64 n := by
  simp [Lit.wf, IntKind.min, IntKind.max, IntKind.signed, IntKind.bits] at h
  unfold I64
  omega
def sat (x : Int) : Int := if 9223372036854775807 < x then 9223372036854775807 else if x < -9223372036854775808 then -9223372036854775808 else x
theorem sat_i64 (x : Int) : I64 (sat x) := by
  unfold sat I64
  repeat' split
  all_goals omega
theorem sat_of {x : Int} (h : I64 x) : sat x = x := by unfold I64 at h; unfold sat; rw [if_neg (by omega), if_neg (by omega)]
theorem wrap_cases {a b : Int} (ha : I64 a) (hb : I64 b) : (a + b ≤ 9223372036854775807 ∧ -9223372036854775808 ≤ a + b ∧ wrap64 (a + b) = a + b) ∨ (9223372036854775807 < a + b ∧ wrap64 (a + b) = a + b - 18446744073709551616) ∨ (a + b < -9223372036854775808 ∧ wrap64 (a + b) = a + b + 18446744073709551616) := by
  unfold I64 at ha hb
  unfold wrap64
  omega
theorem plus_eq {a b : Int} (ha : I64 a) (hb : I64 b) (k : Nat) : fold_plus.f (k + 1) a b = some (sat (a + b)) := by
  have hc := wrap_cases ha hb
  unfold I64 at ha hb
  unfold fold_plus.f sat
  simp only [fold_plus.j0, decide_eq_true_eq, Bool.false_eq_true, if_false]
  generalize wrap64 (a + b) = c at hc
  split
  · split
    · rw [if_pos (by omega)]
    · rw [if_neg (by omega), if_neg (by omega), if_neg (by omega)]; congr 1; omega
  · split
    · split
      · rw [if_neg (by omega), if_pos (by omega)]
      · rw [if_neg (by omega), if_neg (by omega)]; congr 1; omega
    · rw [if_neg (by omega), if_neg (by omega)]; congr 1; omega
def srt (v : Int) : Int := if v < 0 then 0 else if v < 10 then 1 else if v < 100 then 2 else 3
theorem srt_cases (v : Int) : srt v = 0 ∨ srt v = 1 ∨ srt v = 2 ∨ srt v = 3 := by
  unfold srt
  repeat' split
  all_goals omega
theorem sort_eq (v : Int) : fold_Sort.f v = some (srt v) := by
  unfold fold_Sort.f srt
  split
  · rfl
  · split
    · rfl
    · split <;> rfl
/-- What numbers come to. -/
structure Ag where
  n : Int
  s : Int
  lo : Int
  hi : Int
  h0 : Int
  h1 : Int
  h2 : Int
  h3 : Int
  re : Int
  im : Int
abbrev T10 := Int × Int × Int × Int × Int × Int × Int × Int × Int × Int
def Ag.t (a : Ag) : T10 := (a.n, a.s, a.lo, a.hi, a.h0, a.h1, a.h2, a.h3, a.re, a.im)
structure Ag.I (a : Ag) : Prop where
  n : I64 a.n
  s : I64 a.s
  lo : I64 a.lo
  hi : I64 a.hi
  h0 : I64 a.h0
  h1 : I64 a.h1
  h2 : I64 a.h2
  h3 : I64 a.h3
  re : I64 a.re
  im : I64 a.im
def bump (k v x : Int) : Int := if srt v = k then sat (x + 1) else x
def add (a : Ag) (v : Int) : Ag := ⟨sat (a.n + 1), sat (a.s + v), if a.n = 0 then v else mn a.lo v, if a.n = 0 then v else mx a.hi v, bump 0 v a.h0, bump 1 v a.h1, bump 2 v a.h2, bump 3 v a.h3,
  if v % 4 = 0 then sat (a.re + 1) else if v % 4 = 2 then sat (a.re + -1) else a.re, if v % 4 = 1 then sat (a.im + 1) else if v % 4 = 3 then sat (a.im + -1) else a.im⟩
theorem i64_1 : I64 1 := by decide
theorem i64_m1 : I64 (-1) := by decide
theorem i64_0 : I64 0 := by decide
theorem mn_i64 {a b : Int} (ha : I64 a) (hb : I64 b) : I64 (mn a b) := by unfold mn; split <;> assumption
theorem mx_i64 {a b : Int} (ha : I64 a) (hb : I64 b) : I64 (mx a b) := by unfold mx; split <;> assumption
theorem bump_i64 {k v x : Int} (h : I64 x) : I64 (bump k v x) := by unfold bump; split; exact sat_i64 _; exact h
theorem add_I {a : Ag} (h : a.I) {v : Int} (hv : I64 v) : (add a v).I := by
  refine ⟨sat_i64 _, sat_i64 _, ?_, ?_, bump_i64 h.h0, bump_i64 h.h1, bump_i64 h.h2, bump_i64 h.h3, ?_, ?_⟩
  · show I64 (if a.n = 0 then v else mn a.lo v)
    split; exact hv; exact mn_i64 h.lo hv
  · show I64 (if a.n = 0 then v else mx a.hi v)
    split; exact hv; exact mx_i64 h.hi hv
  · show I64 (if v % 4 = 0 then sat (a.re + 1) else if v % 4 = 2 then sat (a.re + -1) else a.re)
    repeat' split
    exact sat_i64 _
    exact sat_i64 _
    exact h.re
  · show I64 (if v % 4 = 1 then sat (a.im + 1) else if v % 4 = 3 then sat (a.im + -1) else a.im)
    repeat' split
    exact sat_i64 _
    exact sat_i64 _
    exact h.im
theorem turn_re {x v : Int} (h : I64 x) (k : Nat) : fold_plus.f (k + 1) x (fold_turn.int (fold_turn.c (v % 4)).1) = some (if v % 4 = 0 then sat (x + 1) else if v % 4 = 2 then sat (x + -1) else x) := by
  have hq : v % 4 = 0 ∨ v % 4 = 1 ∨ v % 4 = 2 ∨ v % 4 = 3 := by omega
  rcases hq with e | e | e | e
  · rw [e, show fold_turn.int (fold_turn.c 0).1 = 1 from rfl, plus_eq h i64_1, if_pos rfl]
  · rw [e, show fold_turn.int (fold_turn.c 1).1 = 0 from rfl, plus_eq h i64_0, Int.add_zero, sat_of h]; rfl
  · rw [e, show fold_turn.int (fold_turn.c 2).1 = -1 from rfl, plus_eq h i64_m1]; rfl
  · rw [e, show fold_turn.int (fold_turn.c 3).1 = 0 from rfl, plus_eq h i64_0, Int.add_zero, sat_of h]; rfl
theorem turn_im {x v : Int} (h : I64 x) (k : Nat) : fold_plus.f (k + 1) x (fold_turn.int (fold_turn.c (v % 4)).2) = some (if v % 4 = 1 then sat (x + 1) else if v % 4 = 3 then sat (x + -1) else x) := by
  have hq : v % 4 = 0 ∨ v % 4 = 1 ∨ v % 4 = 2 ∨ v % 4 = 3 := by omega
  rcases hq with e | e | e | e
  · rw [e, show fold_turn.int (fold_turn.c 0).2 = 0 from rfl, plus_eq h i64_0, Int.add_zero, sat_of h]; rfl
  · rw [e, show fold_turn.int (fold_turn.c 1).2 = 1 from rfl, plus_eq h i64_1, if_pos rfl]
  · rw [e, show fold_turn.int (fold_turn.c 2).2 = 0 from rfl, plus_eq h i64_0, Int.add_zero, sat_of h]; rfl
  · rw [e, show fold_turn.int (fold_turn.c 3).2 = -1 from rfl, plus_eq h i64_m1]; rfl
theorem add_j1 {v n s lo hi h0 h1 h2 h3 re im : Int} (hr : I64 re) (hi' : I64 im) (k : Nat) : fold_Add.j1 (k + 2) v n s lo hi h0 h1 h2 h3 re im = some (n, s, lo, hi, h0, h1, h2, h3, (if v % 4 = 0 then sat (re + 1) else if v % 4 = 2 then sat (re + -1) else re), (if v % 4 = 1 then sat (im + 1) else if v % 4 = 3 then sat (im + -1) else im)) := by
  rw [fold_Add.j1, fold_turn.f, Option.bind_some, turn_re hr, Option.bind_some, turn_im hi', Option.bind_some]
theorem add_j0 {v n s lo hi h0 h1 h2 h3 re im : Int} (hv : I64 v) (hn : I64 n) (hs : I64 s) (i0 : I64 h0) (i1 : I64 h1) (i2 : I64 h2) (i3 : I64 h3) (hr : I64 re) (hi' : I64 im) (k : Nat) :
    fold_Add.j0 (k + 3) v n s lo hi h0 h1 h2 h3 re im = some (sat (n + 1), sat (s + v), mn lo v, mx hi v, bump 0 v h0, bump 1 v h1, bump 2 v h2, bump 3 v h3, (if v % 4 = 0 then sat (re + 1) else if v % 4 = 2 then sat (re + -1) else re), (if v % 4 = 1 then sat (im + 1) else if v % 4 = 3 then sat (im + -1) else im)) := by
  rw [fold_Add.j0, plus_eq hn i64_1, Option.bind_some, plus_eq hs hv, Option.bind_some, sort_eq, Option.bind_some, Option.bind_some]
  unfold bump
  rcases srt_cases v with e | e | e | e
  · rw [e, if_pos rfl, plus_eq i0 i64_1, Option.bind_some, if_pos rfl, add_j1 hr hi']; rfl
  · rw [e, if_neg (by decide), if_pos rfl, plus_eq i1 i64_1, Option.bind_some, if_neg (by decide), if_pos rfl, add_j1 hr hi']; rfl
  · rw [e, if_neg (by decide), if_neg (by decide), if_pos rfl, plus_eq i2 i64_1, Option.bind_some, if_neg (by decide), if_neg (by decide), if_pos rfl, add_j1 hr hi']; rfl
  · rw [e, if_neg (by decide), if_neg (by decide), if_neg (by decide), if_pos rfl, plus_eq i3 i64_1, Option.bind_some, if_neg (by decide), if_neg (by decide), if_neg (by decide), if_pos rfl, add_j1 hr hi']; rfl
theorem add_eq {a : Ag} (h : a.I) {v : Int} (hv : I64 v) (k : Nat) : fold_Add.f (k + 3) a.n a.s a.lo a.hi a.h0 a.h1 a.h2 a.h3 a.re a.im v = some (add a v).t := by
  unfold fold_Add.f add Ag.t
  by_cases c : a.n = 0
  · rw [if_pos c, add_j0 hv h.n h.s h.h0 h.h1 h.h2 h.h3 h.re h.im, show mn v v = v by unfold mn; split <;> rfl, show mx v v = v by unfold mx; split <;> rfl]
    simp only [if_pos c]
  · rw [if_neg c, add_j0 hv h.n h.s h.h0 h.h1 h.h2 h.h3 h.re h.im]
    simp only [if_neg c]
def zero : Ag := ⟨0, 0, 0, 0, 0, 0, 0, 0, 0, 0⟩
theorem zero_I : zero.I := ⟨i64_0, i64_0, i64_0, i64_0, i64_0, i64_0, i64_0, i64_0, i64_0, i64_0⟩
def all (l : List Int) : Ag := l.foldl add zero
theorem foldl_I : ∀ (l : List Int) {a : Ag}, a.I → (∀ x ∈ l, I64 x) → (l.foldl add a).I
  | [], _, h, _ => h
  | v :: t, _, h, hl => foldl_I t (add_I h (hl v (List.mem_cons_self ..))) (fun x hx => hl x (List.mem_cons_of_mem _ hx))
theorem all_I {l : List Int} (hl : ∀ x ∈ l, I64 x) : (all l).I := foldl_I l zero_I hl
theorem rd_at (l : List Int) (i : Nat) (h : i < l.length) : rd l (i : Int) = l[i] := by
  unfold rd
  simp [h]
theorem drop_at (l : List Int) (i : Nat) (h : i < l.length) : l.drop i = l[i] :: l.drop (i + 1) := List.drop_eq_getElem_cons h
theorem all_l0 (l : List Int) (hl : ∀ x ∈ l, I64 x) (hn : l.length ≤ 1000000) (d : Nat) : ∀ (i k : Nat) (a : Ag), l.length - i = d → i ≤ l.length → d + 10 < k → a.I →
    fold_All.l0 k l (l.length : Int) (i : Int) a.n a.s a.lo a.hi a.h0 a.h1 a.h2 a.h3 a.re a.im = some ((l.drop i).foldl add a).t := by
  induction d with
  | zero =>
    intro i k a hd hi hk ha
    obtain ⟨k, rfl⟩ : ∃ m, k = m + 1 := ⟨k - 1, by omega⟩
    rw [fold_All.l0, if_neg (by omega), List.drop_of_length_le (by omega)]
    rfl
  | succ d ih =>
    intro i k a hd hi hk ha
    obtain ⟨k, rfl⟩ : ∃ m, k = m + 3 + 1 := ⟨k - 4, by omega⟩
    have hlt : i < l.length := by omega
    have hv : I64 l[i] := hl _ (List.getElem_mem hlt)
    rw [fold_All.l0, if_pos (by omega), if_pos (by omega), if_pos (by omega), rd_at l i hlt, add_eq ha hv, Option.bind_some, drop_at l i hlt, w64 (by omega) (by omega)]
    exact ih (i + 1) (k + 3) (add a l[i]) (by omega) (by omega) (by omega) (add_I ha hv)
theorem all_eq {l : List Int} (hl : ∀ x ∈ l, I64 x) (hn : l.length ≤ 1000000) (k : Nat) (hk : l.length + 11 < k) : fold_All.f k l = some (all l).t := by
  unfold fold_All.f
  exact all_l0 l hl hn l.length 0 k zero (by omega) (by omega) (by omega) zero_I
theorem awake_eq (k : Nat) (hk : 20 < k) : headgatelaw15_awake.f k = some true := by
  unfold headgatelaw15_awake.f
  rw [all_eq (l := [5, (-1), 12]) (by decide) (by decide) k (by simp; omega), Option.bind_some]
  rfl
def cut (l : List Int) : List Int := l.take 300
theorem some_eq (l : List Int) : headgatelaw15_some.f l = some (cut l) := by
  unfold headgatelaw15_some.f cut
  by_cases h : (l.length : Int) > 300
  · rw [if_pos h, if_pos (by omega)]
  · rw [if_neg h, List.take_of_length_le (by omega)]
theorem cut_len (l : List Int) : (cut l).length ≤ 300 := by unfold cut; rw [List.length_take]; omega
theorem cut_i64 {l : List Int} (h : ∀ x ∈ l, (Lit.int .i64 x).wf = true) : ∀ x ∈ cut l, I64 x := fun x hx => i64_of (h x (List.mem_of_mem_take hx))
end Go.Proofs.Ytpffggpedogifaa.Fa
set_option linter.unusedVariables false
namespace Go.Proofs.Ytpffggpedogifaa.Fb
open Go.RowKit Go.Proofs.Ytpffggpedogifaa.Vm Go.Proofs.Ytpffggpedogifaa.Fa Go.Proofs.Ytpffggpedogifaa.P Go.Proofs.YtpffggpedogifaaW.PrintWords Go.Proofs.YtpffggpedogifaaW.PrintLast
theorem snoc_ind {P : List Int → Prop} (h0 : P []) (h1 : ∀ l v, P l → P (l ++ [v])) (l : List Int) : P l := by
  rw [← List.reverse_reverse l]
  induction l.reverse with
  | nil => exact h0
  | cons v t ih => rw [List.reverse_cons]; exact h1 _ _ ih
def cnt (p : Int → Bool) (l : List Int) : Int := (l.countP p : Nat)
theorem cnt_snoc (p : Int → Bool) (l : List Int) (v : Int) : cnt p (l ++ [v]) = cnt p l + (if p v = true then 1 else 0) := by
  unfold cnt
  rw [List.countP_append, List.countP_singleton]
  split <;> simp
theorem cnt_le (p : Int → Bool) (l : List Int) : 0 ≤ cnt p l ∧ cnt p l ≤ l.length := by
  unfold cnt
  have := List.countP_le_length (p := p) (l := l)
  omega
structure Is (l : List Int) (a : Ag) : Prop where
  n : a.n = l.length
  h0 : a.h0 = cnt (fun v => srt v == 0) l
  h1 : a.h1 = cnt (fun v => srt v == 1) l
  h2 : a.h2 = cnt (fun v => srt v == 2) l
  h3 : a.h3 = cnt (fun v => srt v == 3) l
  re : a.re = cnt (fun v => v % 4 == 0) l - cnt (fun v => v % 4 == 2) l
  im : a.im = cnt (fun v => v % 4 == 1) l - cnt (fun v => v % 4 == 3) l
  lo : l ≠ [] → a.lo ∈ l ∧ ∀ x ∈ l, a.lo ≤ x
  hi : l ≠ [] → a.hi ∈ l ∧ ∀ x ∈ l, x ≤ a.hi
theorem bump_is (j : Int) (l : List Int) (v : Int) (hn : l.length ≤ 1000) {x : Int} (hx : x = cnt (fun v => srt v == j) l) : bump j v x = cnt (fun v => srt v == j) (l ++ [v]) := by
  unfold bump
  rw [cnt_snoc, hx]
  have := cnt_le (fun v => srt v == j) l
  by_cases h : srt v = j
  · rw [if_pos h, if_pos (by simpa using h), sat_of (by unfold I64; omega)]
  · rw [if_neg h, if_neg (by simpa using h), Int.add_zero]
theorem turn_is (p q : Int) (hpq : p ≠ q) (l : List Int) (v : Int) (hn : l.length ≤ 1000) {x : Int} (hx : x = cnt (fun v => v % 4 == p) l - cnt (fun v => v % 4 == q) l) :
    (if v % 4 = p then sat (x + 1) else if v % 4 = q then sat (x + -1) else x) = cnt (fun v => v % 4 == p) (l ++ [v]) - cnt (fun v => v % 4 == q) (l ++ [v]) := by
  rw [cnt_snoc, cnt_snoc, hx]
  have h1 := cnt_le (fun v => v % 4 == p) l
  have h2 := cnt_le (fun v => v % 4 == q) l
  by_cases h : v % 4 = p
  · rw [if_pos h, if_pos (by simpa using h), if_neg (by simp; omega), sat_of (by unfold I64; omega)]
    omega
  · rw [if_neg h]
    by_cases h' : v % 4 = q
    · rw [if_pos h', if_neg (by simpa using h), if_pos (by simpa using h'), sat_of (by unfold I64; omega)]
      omega
    · rw [if_neg h', if_neg (by simpa using h), if_neg (by simpa using h')]
      omega
theorem all_snoc (l : List Int) (v : Int) : all (l ++ [v]) = add (all l) v := by simp [all]
theorem all_is (l : List Int) : l.length ≤ 1000 → Is l (all l) := by
  refine snoc_ind (P := fun l => l.length ≤ 1000 → Is l (all l)) ?_ ?_ l
  · intro _
    exact ⟨rfl, rfl, rfl, rfl, rfl, rfl, rfl, fun h => absurd rfl h, fun h => absurd rfl h⟩
  · intro l v ih hn
    rw [List.length_append, List.length_singleton] at hn
    have I := ih (by omega)
    rw [all_snoc]
    refine ⟨?_, bump_is 0 l v (by omega) I.h0, bump_is 1 l v (by omega) I.h1, bump_is 2 l v (by omega) I.h2, bump_is 3 l v (by omega) I.h3, turn_is 0 2 (by decide) l v (by omega) I.re, turn_is 1 3 (by decide) l v (by omega) I.im, ?_, ?_⟩
    · show sat ((all l).n + 1) = _
      rw [I.n, sat_of (by unfold I64; omega), List.length_append, List.length_singleton]
      omega
    · intro _
      show (if (all l).n = 0 then v else mn (all l).lo v) ∈ l ++ [v] ∧ ∀ x ∈ l ++ [v], (if (all l).n = 0 then v else mn (all l).lo v) ≤ x
      by_cases hl : l = []
      · subst hl
        rw [if_pos (by rw [I.n]; rfl)]
        simp
      · have hp := List.length_pos_iff.2 hl
        obtain ⟨h1, h2⟩ := I.lo hl
        rw [if_neg (by rw [I.n]; omega)]
        unfold mn
        refine ⟨by split <;> simp [h1], fun x hx => ?_⟩
        rcases List.mem_append.1 hx with hx | hx
        · have := h2 x hx
          split <;> omega
        · rw [List.mem_singleton.1 hx]
          split <;> omega
    · intro _
      show (if (all l).n = 0 then v else mx (all l).hi v) ∈ l ++ [v] ∧ ∀ x ∈ l ++ [v], x ≤ (if (all l).n = 0 then v else mx (all l).hi v)
      by_cases hl : l = []
      · subst hl
        rw [if_pos (by rw [I.n]; rfl)]
        simp
      · have hp := List.length_pos_iff.2 hl
        obtain ⟨h1, h2⟩ := I.hi hl
        rw [if_neg (by rw [I.n]; omega)]
        unfold mx
        refine ⟨by split <;> simp [h1], fun x hx => ?_⟩
        rcases List.mem_append.1 hx with hx | hx
        · have := h2 x hx
          split <;> omega
        · rw [List.mem_singleton.1 hx]
          split <;> omega
end Go.Proofs.Ytpffggpedogifaa.Fb
set_option linter.unusedVariables false
set_option linter.unusedSimpArgs false
namespace Go.Proofs.Ytpffggpedogifaa.Vref
open Go.RowKit Go.Proofs.Ytpffggpedogifaa.Vm Go.Proofs.Ytpffggpedogifaa.P Go.Proofs.YtpffggpedogifaaW.PrintWords
theorem w64 {x : Int} (h0 : -9223372036854775808 ≤ x) (h1 : x ≤ 9223372036854775807) : wrap64 x = x := by unfold wrap64; omega
end Go.Proofs.Ytpffggpedogifaa.Vref
set_option linter.unusedVariables false
set_option linter.unusedSimpArgs false
namespace Go.Proofs.Ytpffggpedogifaa.Vp
open Go.RowKit Go.Proofs.Ytpffggpedogifaa.Vm Go.Proofs.Ytpffggpedogifaa.Vref Go.Proofs.Ytpffggpedogifaa.P Go.Proofs.YtpffggpedogifaaW.PrintWords
theorem i64_of {n : Int} (h : (Lit.int .i64 n).wf = true) : I64 n := by
  simp only [Lit.wf, IntKind.min, IntKind.max, IntKind.signed, IntKind.bits, Bool.and_eq_true, decide_eq_true_eq, if_true] at h
  unfold I64
  omega
theorem take_eq (l : List UInt8) (h : l.length ≤ 9223372036854775807) : varint_Take.f (bs l) = some (takeR (dec l)) := by
  unfold varint_Take.f
  rw [size_bs, if_pos h, data_bs]
theorem takeR_1 (n : Int) (r : List UInt8) : (takeR (some (n, r))).1 = n := rfl
theorem takeR_2 (n : Int) (r : List UInt8) : (takeR (some (n, r))).2.1 = bs r := rfl
theorem takeR_3 (n : Int) (r : List UInt8) : (takeR (some (n, r))).2.2 = 0 := rfl
theorem takeR_n3 : (takeR none).2.2 = 2 := rfl
/-- So many numbers, with which bytes begin. -/
def decN : Nat → List UInt8 → Option (List Int × List UInt8)
  | 0, l => some ([], l)
  | n + 1, l => (dec l).bind fun p => (decN n p.2).map fun q => (p.1 :: q.1, q.2)
theorem decN_iff (n : Nat) : ∀ (l : List UInt8) (xs : List Int) (r : List UInt8), decN n l = some (xs, r) ↔ l = xs.flatMap enc ++ r ∧ xs.length = n ∧ ∀ x ∈ xs, I64 x := by
  induction n with
  | zero =>
    intro l xs r
    simp only [decN, Option.some.injEq, Prod.mk.injEq]
    constructor
    · rintro ⟨rfl, rfl⟩; simp
    · rintro ⟨h1, h2, -⟩
      obtain rfl := List.eq_nil_of_length_eq_zero h2
      simp at h1
      exact ⟨rfl, h1⟩
  | succ n ih =>
    intro l xs r
    simp only [decN, Option.bind_eq_some_iff, Option.map_eq_some_iff, Prod.exists, Prod.mk.injEq]
    constructor
    · rintro ⟨x, l', hd, ys, r', hn, rfl, rfl⟩
      obtain ⟨rfl, hx⟩ := (dec_iff _ _ _).1 hd
      obtain ⟨rfl, hl, hall⟩ := (ih _ _ _).1 hn
      refine ⟨by simp, by simp [hl], fun y hy => ?_⟩
      rcases List.mem_cons.1 hy with rfl | hy
      · exact hx
      · exact hall y hy
    · rintro ⟨rfl, h2, h3⟩
      cases xs with
      | nil => simp at h2
      | cons x ys =>
        have hx := h3 x (List.mem_cons_self ..)
        refine ⟨x, ys.flatMap enc ++ r, ?_, ys, r, (ih _ _ _).2 ⟨rfl, by simpa using h2, fun y hy => h3 y (List.mem_cons_of_mem _ hy)⟩, rfl, rfl⟩
        rw [List.flatMap_cons, List.append_assoc]
        exact dec_enc hx _
def allR : Option (List Int × List UInt8) → List Int × ByteArray × Int
  | some (a, b) => (a, bs b, 0)
  | none => ([], bs [], 2)
/-- What TakeAll tells. -/
def takeAllR (l : List UInt8) (n : Int) : List Int × ByteArray × Int := if n < 0 ∨ n > 64 then ([], bs [], 1) else allR (decN n.toNat l)
theorem takeAll_l0 (d : Nat) : ∀ (l : List UInt8) (acc : List Int) (n i : Int) (k : Nat), l.length ≤ 9223372036854775800 → 0 ≤ i → i ≤ n → n ≤ 64 → n - i = d → d < k → acc.length ≤ 64 - d →
    varint_TakeAll.l0 k (bs l) acc n i = some (allR ((decN d l).map fun q => (acc ++ q.1, q.2))) := by
  induction d with
  | zero =>
    intro l acc n i k hl h0 h1 h64 hd hk ha
    obtain ⟨k, rfl⟩ : ∃ m, k = m + 1 := ⟨k - 1, by omega⟩
    rw [varint_TakeAll.l0, if_neg (by omega)]
    simp [decN, allR]
  | succ d ih =>
    intro l acc n i k hl h0 h1 h64 hd hk ha
    obtain ⟨k, rfl⟩ : ∃ m, k = m + 1 := ⟨k - 1, by omega⟩
    rw [varint_TakeAll.l0, if_pos (by omega), take_eq l (by omega), Option.bind_some]
    cases hdc : dec l with
    | none =>
      rw [takeR_n3, if_neg (by decide)]
      simp only [decN, hdc]
      rfl
    | some p =>
      obtain ⟨x, r⟩ := p
      have hr := (dec_iff _ _ _).1 hdc
      have hrl : r.length ≤ l.length := by rw [hr.1, List.length_append]; omega
      rw [takeR_1, takeR_2, takeR_3, if_pos rfl, if_pos (by omega), w64 (by omega) (by omega), ih r (acc ++ [x]) n (i + 1) k (by omega) (by omega) (by omega) h64 (by omega) (by omega) (by rw [List.length_append, List.length_singleton]; omega)]
      simp only [decN, hdc, Option.bind_some, Option.map_map]
      congr 2
      cases decN d r <;> simp
theorem takeAll_eq (l : List UInt8) (hl : l.length ≤ 9223372036854775800) (n : Int) (k : Nat) (hk : 200 ≤ k) : varint_TakeAll.f k (bs l) n = some (takeAllR l n) := by
  obtain ⟨k, rfl⟩ : ∃ m, k = m + 1 := ⟨k - 1, by omega⟩
  unfold varint_TakeAll.f takeAllR
  rw [varint_TakeAll.j0, if_pos rfl, varint_TakeAll.j0]
  by_cases h0 : n < 0
  · rw [if_pos h0, if_pos (.inl h0)]; rfl
  · rw [if_neg h0]
    by_cases h1 : n > 64
    · rw [if_pos (decide_eq_true h1), if_pos (.inr h1)]; rfl
    · rw [if_neg (by rw [decide_eq_true_eq]; exact h1), if_neg (by omega), takeAll_l0 n.toNat l [] n 0 k hl (by omega) (by omega) (by omega) (by omega) (by omega) (by simp)]
      congr 2
      cases decN n.toNat l <;> simp
theorem putAll_eq (l : List Int) (hl : l.length ≤ 1099511627776) (h : ∀ x ∈ l, I64 x) : varint_PutAll.f l = some (bs (l.flatMap enc)) := if_pos ⟨hl, h⟩
end Go.Proofs.Ytpffggpedogifaa.Vp
set_option linter.unusedVariables false
namespace Go.Proofs.Ytpffggpedogifaa.Fc
open Go.RowKit Go.Proofs.Ytpffggpedogifaa.Vm Go.Proofs.Ytpffggpedogifaa.Fa Go.Proofs.Ytpffggpedogifaa.Fb Go.Proofs.Ytpffggpedogifaa.P Go.Proofs.YtpffggpedogifaaW.PrintWords Go.Proofs.YtpffggpedogifaaW.PrintLast
open Go.Proofs.Ytpffggpedogifaa.Vp
def ab (x : Int) : Int := if x < 0 then -x else x
def okA (a : Ag) : Prop := 1 ≤ a.n ∧ a.n ≤ 1099511627776 ∧ a.lo ≤ a.hi ∧ 0 ≤ a.h0 ∧ 0 ≤ a.h1 ∧ 0 ≤ a.h2 ∧ 0 ≤ a.h3 ∧ a.h0 + a.h1 + a.h2 + a.h3 = a.n ∧ ab a.re + ab a.im ≤ a.n
instance (a : Ag) : Decidable (okA a) := by unfold okA; infer_instance
theorem chk_j2 (k : Nat) (a0 a1 a2 a3 a4 a5 a6 a7 a8 a9 : Int) : fold_Check.j2 (k + 1) true a0 a1 a2 a3 a4 a5 a6 a7 a8 a9 = some 1 := by rw [fold_Check.j2, if_pos rfl]
theorem chk_4 (k : Nat) (x a0 a1 a2 a3 a4 a5 a6 a7 a8 a9 : Int) : fold_Check.l0 (k + 2) x false 4 a0 a1 a2 a3 a4 a5 a6 a7 a8 a9 = some 1 := by
  rw [fold_Check.l0, if_neg (by decide), if_neg (by decide), chk_j2]
theorem chk_3 (k : Nat) (x a0 a1 a2 a3 a4 a5 a6 a7 a8 a9 : Int) : fold_Check.l0 (k + 3) x false 3 a0 a1 a2 a3 a4 a5 a6 a7 a8 a9 = some 1 := by
  rw [fold_Check.l0, if_pos (by decide), if_neg (by decide), if_neg (by decide), if_neg (by decide), if_pos rfl, if_neg (by decide), show wrap64 (3 + 1) = 4 by unfold wrap64; decide]
  exact chk_4 k _ _ _ _ _ _ _ _ _ _ _
theorem chk_2 (k : Nat) (x a0 a1 a2 a3 a4 a5 a6 a7 a8 a9 : Int) : fold_Check.l0 (k + 4) x false 2 a0 a1 a2 a3 a4 a5 a6 a7 a8 a9 = some 1 := by
  rw [fold_Check.l0, if_pos (by decide), if_neg (by decide), if_neg (by decide), if_pos rfl, if_neg (by decide), show wrap64 (2 + 1) = 3 by unfold wrap64; decide]
  exact chk_3 k _ _ _ _ _ _ _ _ _ _ _
theorem chk_1 (k : Nat) (x a0 a1 a2 a3 a4 a5 a6 a7 a8 a9 : Int) : fold_Check.l0 (k + 5) x false 1 a0 a1 a2 a3 a4 a5 a6 a7 a8 a9 = some 1 := by
  rw [fold_Check.l0, if_pos (by decide), if_neg (by decide), if_pos rfl, if_neg (by decide), show wrap64 (1 + 1) = 2 by unfold wrap64; decide]
  exact chk_2 k _ _ _ _ _ _ _ _ _ _ _
theorem chk_0 (k : Nat) (x a0 a1 a2 a3 a4 a5 a6 a7 a8 a9 : Int) : fold_Check.l0 (k + 6) x false 0 a0 a1 a2 a3 a4 a5 a6 a7 a8 a9 = some 1 := by
  rw [fold_Check.l0, if_pos (by decide), if_pos rfl, if_neg (by decide), show wrap64 (0 + 1) = 1 by unfold wrap64; decide]
  exact chk_1 k _ _ _ _ _ _ _ _ _ _ _
theorem ab_cases (x : Int) : (x < 0 ∧ ab x = -x) ∨ (0 ≤ x ∧ ab x = x) := by
  unfold ab
  by_cases h : x < 0
  · rw [if_pos h]; omega
  · rw [if_neg h]; omega
theorem far_eq {x n : Int} (hx : I64 x) (h1 : 1 ≤ n) (h2 : n ≤ 1099511627776) : fold_far.f x n = if ab x ≤ n then some (ab x, true) else some (0, false) := by
  unfold I64 at hx
  have ha := ab_cases x
  generalize ab x = y at ha
  unfold fold_far.f
  rw [w64 (x := -n) (by omega) (by omega)]
  by_cases c : x < -n
  · rw [if_pos c, if_neg (show ¬ y ≤ n by omega)]
  · rw [if_neg c]
    by_cases d : x > n
    · rw [if_pos d, if_neg (show ¬ y ≤ n by omega)]
    · rw [if_neg d, w64 (x := -x) (by omega) (by omega), if_pos (show y ≤ n by omega)]
      unfold mx
      by_cases e : x < 0
      · rw [if_pos (show x < -x by omega)]; congr 2; omega
      · rw [if_neg (show ¬ x < -x by omega)]; congr 2; omega
theorem ab_nn (x : Int) : 0 ≤ ab x := by have := ab_cases x; omega
theorem chk_end {a : Ag} (ha : a.I) (h1 : 1 ≤ a.n) (h2 : a.n ≤ 1099511627776) (k : Nat) : fold_Check.j2 (k + 1) false a.n a.s a.lo a.hi a.h0 a.h1 a.h2 a.h3 a.re a.im = some (if ab a.re + ab a.im ≤ a.n then 0 else 1) := by
  have p := ab_nn a.re
  have q := ab_nn a.im
  rw [fold_Check.j2, if_neg (by decide), far_eq ha.re h1 h2]
  by_cases c : ab a.re ≤ a.n
  · rw [if_pos c, Option.bind_some, far_eq ha.im h1 h2]
    by_cases d : ab a.im ≤ a.n
    · rw [if_pos d, Option.bind_some, if_pos rfl, if_pos rfl, w64 (by omega) (by omega)]
      by_cases e : ab a.re + ab a.im ≤ a.n
      · rw [if_neg (by omega), if_pos e]
      · rw [if_pos (by omega), if_neg e]
    · rw [if_neg d, Option.bind_some, if_pos rfl, if_neg (by decide), if_neg (by omega)]
  · rw [if_neg c, Option.bind_some, far_eq ha.im h1 h2]
    by_cases d : ab a.im ≤ a.n
    · rw [if_pos d, Option.bind_some, if_neg (by decide), if_neg (by omega)]
    · rw [if_neg d, Option.bind_some, if_neg (by decide), if_neg (by omega)]
theorem check_eq {a : Ag} (ha : a.I) (k : Nat) (hk : 20 ≤ k) : fold_Check.f k a.n a.s a.lo a.hi a.h0 a.h1 a.h2 a.h3 a.re a.im = some (if okA a then 0 else 1) := by
  obtain ⟨k, rfl⟩ : ∃ m, k = m + 7 := ⟨k - 7, by omega⟩
  have i0 := ha.h0; have i1 := ha.h1; have i2 := ha.h2; have i3 := ha.h3
  unfold I64 at i0 i1 i2 i3
  unfold fold_Check.f
  by_cases c1 : a.n ≥ 1
  · rw [if_pos c1]
    by_cases c2 : a.n ≤ 1099511627776
    · rw [if_pos c2, fold_Check.j0]
      by_cases c3 : a.lo ≤ a.hi
      · rw [decide_eq_true c3, fold_Check.l0, if_pos (by decide), if_pos rfl, if_pos rfl]
        by_cases p0 : a.h0 ≥ 0
        · rw [if_pos p0]
          by_cases q0 : a.h0 ≤ a.n
          · rw [decide_eq_true q0, w64 (x := a.n - a.h0) (by omega) (by omega), show wrap64 (0 + 1) = 1 by unfold wrap64; decide, fold_Check.l0, if_pos (by decide), if_neg (by decide), if_pos rfl, if_pos rfl]
            by_cases p1 : a.h1 ≥ 0
            · rw [if_pos p1]
              by_cases q1 : a.h1 ≤ a.n - a.h0
              · rw [decide_eq_true q1, w64 (x := a.n - a.h0 - a.h1) (by omega) (by omega), show wrap64 (1 + 1) = 2 by unfold wrap64; decide, fold_Check.l0, if_pos (by decide), if_neg (by decide), if_neg (by decide), if_pos rfl, if_pos rfl]
                by_cases p2 : a.h2 ≥ 0
                · rw [if_pos p2]
                  by_cases q2 : a.h2 ≤ a.n - a.h0 - a.h1
                  · rw [decide_eq_true q2, w64 (x := a.n - a.h0 - a.h1 - a.h2) (by omega) (by omega), show wrap64 (2 + 1) = 3 by unfold wrap64; decide, fold_Check.l0, if_pos (by decide), if_neg (by decide), if_neg (by decide), if_neg (by decide), if_pos rfl, if_pos rfl]
                    by_cases p3 : a.h3 ≥ 0
                    · rw [if_pos p3]
                      by_cases q3 : a.h3 ≤ a.n - a.h0 - a.h1 - a.h2
                      · rw [decide_eq_true q3, w64 (x := a.n - a.h0 - a.h1 - a.h2 - a.h3) (by omega) (by omega), show wrap64 (3 + 1) = 4 by unfold wrap64; decide, fold_Check.l0, if_neg (by decide), if_pos rfl]
                        by_cases z : a.n - a.h0 - a.h1 - a.h2 - a.h3 = 0
                        · rw [z, bne_self_eq_false, chk_end ha c1 c2]
                          by_cases e : ab a.re + ab a.im ≤ a.n
                          · rw [if_pos e, if_pos (by unfold okA; omega)]
                          · rw [if_neg e, if_neg (by unfold okA; omega)]
                        · rw [bne_iff_ne.2 z, chk_j2, if_neg (by unfold okA; omega)]
                      · rw [decide_eq_false q3, show wrap64 (3 + 1) = 4 by unfold wrap64; decide, chk_4, if_neg (by unfold okA; omega)]
                    · rw [if_neg p3, show wrap64 (3 + 1) = 4 by unfold wrap64; decide, chk_4, if_neg (by unfold okA; omega)]
                  · rw [decide_eq_false q2, show wrap64 (2 + 1) = 3 by unfold wrap64; decide, chk_3, if_neg (by unfold okA; omega)]
                · rw [if_neg p2, show wrap64 (2 + 1) = 3 by unfold wrap64; decide, chk_3, if_neg (by unfold okA; omega)]
              · rw [decide_eq_false q1, show wrap64 (1 + 1) = 2 by unfold wrap64; decide, chk_2, if_neg (by unfold okA; omega)]
            · rw [if_neg p1, show wrap64 (1 + 1) = 2 by unfold wrap64; decide, chk_2, if_neg (by unfold okA; omega)]
          · rw [decide_eq_false q0, show wrap64 (0 + 1) = 1 by unfold wrap64; decide, chk_1, if_neg (by unfold okA; omega)]
        · rw [if_neg p0, show wrap64 (0 + 1) = 1 by unfold wrap64; decide, chk_1, if_neg (by unfold okA; omega)]
      · rw [decide_eq_false c3, chk_0, if_neg (by unfold okA; omega)]
    · rw [if_neg c2, fold_Check.j0, chk_0, if_neg (by unfold okA; omega)]
  · rw [if_neg c1, fold_Check.j0, chk_0, if_neg (by unfold okA; omega)]
def Ag.L (a : Ag) : List Int := [a.n, a.s, a.lo, a.hi, a.h0, a.h1, a.h2, a.h3, a.re, a.im]
theorem L_i64 {a : Ag} (h : a.I) : ∀ x ∈ Ag.L a, I64 x := by
  intro x hx
  unfold Ag.L at hx
  simp only [List.mem_cons, List.not_mem_nil, or_false] at hx
  rcases hx with rfl | rfl | rfl | rfl | rfl | rfl | rfl | rfl | rfl | rfl
  · exact h.n
  · exact h.s
  · exact h.lo
  · exact h.hi
  · exact h.h0
  · exact h.h1
  · exact h.h2
  · exact h.h3
  · exact h.re
  · exact h.im
def encA (a : Ag) : List UInt8 := (Ag.L a).flatMap enc
def encR (a : Ag) : ByteArray × Int := if okA a then (bs (encA a), 0) else (bs [], 1)
theorem encode_eq {a : Ag} (ha : a.I) (k : Nat) (hk : 20 ≤ k) : fold_Encode.f k a.n a.s a.lo a.hi a.h0 a.h1 a.h2 a.h3 a.re a.im = some (encR a) := by
  unfold fold_Encode.f encR
  rw [check_eq ha k hk, Option.bind_some]
  by_cases c : okA a
  · rw [if_pos c, if_pos rfl, show varint_PutAll.f [a.n, a.s, a.lo, a.hi, a.h0, a.h1, a.h2, a.h3, a.re, a.im] = some (bs (encA a)) from putAll_eq (Ag.L a) (by show (10 : Nat) ≤ 1099511627776; decide) (L_i64 ha), Option.bind_some, if_pos c]
  · rw [if_neg c, if_neg (by decide), if_neg c]
    rfl
abbrev T11 := Int × Int × Int × Int × Int × Int × Int × Int × Int × Int × Int
def t1 (a : Ag) (e : Int) : T11 := (a.n, a.s, a.lo, a.hi, a.h0, a.h1, a.h2, a.h3, a.re, a.im, e)
def ofL (l : List Int) : Ag := ⟨l.getD 0 0, l.getD 1 0, l.getD 2 0, l.getD 3 0, l.getD 4 0, l.getD 5 0, l.getD 6 0, l.getD 7 0, l.getD 8 0, l.getD 9 0⟩
def decA (l : List UInt8) : Option Ag := match decN 10 l with
  | some (xs, []) => if okA (ofL xs) then some (ofL xs) else none
  | _ => none
def decR (l : List UInt8) : T11 := match decA l with
  | some a => t1 a 0
  | none => t1 zero 2
theorem ten {xs : List Int} (h : xs.length = 10) : ∃ a b c d e f g i j m, xs = [a, b, c, d, e, f, g, i, j, m] := by
  match xs, h with
  | [a, b, c, d, e, f, g, i, j, m], _ => exact ⟨a, b, c, d, e, f, g, i, j, m, rfl⟩
theorem takeAll10 (l : List UInt8) : takeAllR l 10 = allR (decN 10 l) := rfl
theorem decA_none {l : List UInt8} (h : decN 10 l = none) : decA l = none := by unfold decA; rw [h]
theorem decode_eq (l : List UInt8) (hl : l.length ≤ 9223372036854775800) (k : Nat) (hk : 200 ≤ k) : fold_Decode.f k (bs l) = some (decR l) := by
  obtain ⟨k, rfl⟩ : ∃ m, k = m + 1 := ⟨k - 1, by omega⟩
  unfold fold_Decode.f
  rw [takeAll_eq l hl 10 (k + 1) hk, Option.bind_some, takeAll10]
  cases hd : decN 10 l with
  | none =>
    have e : decR l = t1 zero 2 := by unfold decR; rw [decA_none hd]
    rw [e, if_neg (by unfold allR; decide), fold_Decode.j0, if_pos rfl]
    rfl
  | some p =>
    obtain ⟨xs, r⟩ := p
    obtain ⟨hlr, hlen, hI⟩ := (decN_iff 10 l xs r).1 hd
    obtain ⟨x0, x1, x2, x3, x4, x5, x6, x7, x8, x9, rfl⟩ := ten hlen
    have hA : (⟨x0, x1, x2, x3, x4, x5, x6, x7, x8, x9⟩ : Ag).I := ⟨hI _ (by simp), hI _ (by simp), hI _ (by simp), hI _ (by simp), hI _ (by simp), hI _ (by simp), hI _ (by simp), hI _ (by simp), hI _ (by simp), hI _ (by simp)⟩
    rw [show (allR (some ([x0, x1, x2, x3, x4, x5, x6, x7, x8, x9], r))).2.2 = 0 from rfl, if_pos rfl, show (allR (some ([x0, x1, x2, x3, x4, x5, x6, x7, x8, x9], r))).1 = [x0, x1, x2, x3, x4, x5, x6, x7, x8, x9] from rfl, show (allR (some ([x0, x1, x2, x3, x4, x5, x6, x7, x8, x9], r))).2.1 = bs r from rfl, toList_bs, fold_Decode.j0]
    cases r with
    | cons c t =>
      have e : decR l = t1 zero 2 := by unfold decR decA; rw [hd]
      rw [e, if_pos (by simp)]
      rfl
    | nil =>
      rw [if_neg (by simp), if_pos (by simp), if_pos (by simp), if_pos (by simp), if_pos (by simp), if_pos (by decide), if_pos (by simp), Option.bind_some, show ([x0, x1, x2, x3, x4, x5, x6, x7, x8, x9].take 8).drop 4 = [x4, x5, x6, x7] from rfl, if_pos (by simp), if_pos (by simp), if_pos (by simp), if_pos (by simp), if_pos (by simp), if_pos (by simp), if_pos (by simp)]
      rw [show fold_Check.f k (rd [x0, x1, x2, x3, x4, x5, x6, x7, x8, x9] 0) (rd [x0, x1, x2, x3, x4, x5, x6, x7, x8, x9] 1) (rd [x0, x1, x2, x3, x4, x5, x6, x7, x8, x9] 2) (rd [x0, x1, x2, x3, x4, x5, x6, x7, x8, x9] 3) (rd [x4, x5, x6, x7] 0) (rd [x4, x5, x6, x7] 1) (rd [x4, x5, x6, x7] 2) (rd [x4, x5, x6, x7] 3) (rd [x0, x1, x2, x3, x4, x5, x6, x7, x8, x9] 8) (rd [x0, x1, x2, x3, x4, x5, x6, x7, x8, x9] 9) = _ from check_eq hA k (by omega), Option.bind_some]
      unfold decR decA
      rw [hd]
      show _ = some (match (if okA ⟨x0, x1, x2, x3, x4, x5, x6, x7, x8, x9⟩ then some (⟨x0, x1, x2, x3, x4, x5, x6, x7, x8, x9⟩ : Ag) else none) with | some a => t1 a 0 | none => t1 zero 2)
      by_cases c : okA ⟨x0, x1, x2, x3, x4, x5, x6, x7, x8, x9⟩
      · rw [if_pos c, if_pos rfl, if_pos c]
        rfl
      · rw [if_neg c, if_neg (by decide), if_neg c]
        rfl
end Go.Proofs.Ytpffggpedogifaa.Fc
set_option linter.unusedVariables false
namespace Go.Proofs.Ytpffggpedogifaa.Pure
open Go.RowKit Go.Proofs.Ytpffggpedogifaa.Vm Go.Proofs.Ytpffggpedogifaa.Vp Go.Proofs.Ytpffggpedogifaa.Fa Go.Proofs.Ytpffggpedogifaa.Fb Go.Proofs.Ytpffggpedogifaa.Fc Go.Proofs.Ytpffggpedogifaa.P Go.Proofs.YtpffggpedogifaaW.PrintWords Go.Proofs.YtpffggpedogifaaW.PrintLast
theorem cnt_sorts (l : List Int) : cnt (fun v => srt v == 0) l + cnt (fun v => srt v == 1) l + cnt (fun v => srt v == 2) l + cnt (fun v => srt v == 3) l = l.length := by
  refine snoc_ind (P := fun l => cnt (fun v => srt v == 0) l + cnt (fun v => srt v == 1) l + cnt (fun v => srt v == 2) l + cnt (fun v => srt v == 3) l = l.length) rfl ?_ l
  intro l v ih
  rw [cnt_snoc, cnt_snoc, cnt_snoc, cnt_snoc, List.length_append, List.length_singleton]
  rcases srt_cases v with e | e | e | e <;> simp only [e] <;> simp <;> omega
theorem cnt_turns (l : List Int) : cnt (fun v => v % 4 == 0) l + cnt (fun v => v % 4 == 1) l + cnt (fun v => v % 4 == 2) l + cnt (fun v => v % 4 == 3) l = l.length := by
  refine snoc_ind (P := fun l => cnt (fun v => v % 4 == 0) l + cnt (fun v => v % 4 == 1) l + cnt (fun v => v % 4 == 2) l + cnt (fun v => v % 4 == 3) l = l.length) rfl ?_ l
  intro l v ih
  rw [cnt_snoc, cnt_snoc, cnt_snoc, cnt_snoc, List.length_append, List.length_singleton]
  have hq : v % 4 = 0 ∨ v % 4 = 1 ∨ v % 4 = 2 ∨ v % 4 = 3 := by omega
  rcases hq with e | e | e | e <;> simp only [e] <;> simp <;> omega
theorem all_ok {l : List Int} (hn : l.length ≤ 300) (hl : l ≠ []) : okA (all l) := by
  have I := all_is l (by omega)
  have hp := List.length_pos_iff.2 hl
  have s0 := cnt_sorts l
  have t0 := cnt_turns l
  have a0 := cnt_le (fun v => srt v == 0) l
  have a1 := cnt_le (fun v => srt v == 1) l
  have a2 := cnt_le (fun v => srt v == 2) l
  have a3 := cnt_le (fun v => srt v == 3) l
  have b0 := cnt_le (fun v => v % 4 == 0) l
  have b1 := cnt_le (fun v => v % 4 == 1) l
  have b2 := cnt_le (fun v => v % 4 == 2) l
  have b3 := cnt_le (fun v => v % 4 == 3) l
  have h1 := (I.hi hl).2 _ (I.lo hl).1
  refine ⟨by rw [I.n]; omega, by rw [I.n]; omega, h1, by rw [I.h0]; omega, by rw [I.h1]; omega, by rw [I.h2]; omega, by rw [I.h3]; omega, by rw [I.h0, I.h1, I.h2, I.h3, I.n]; omega, ?_⟩
  rw [I.re, I.im, I.n]
  unfold ab
  split <;> split <;> omega
theorem zero_no : ¬ okA zero := by decide
theorem ofL_L (a : Ag) : ofL (Ag.L a) = a := rfl
theorem decA_enc {a : Ag} (ha : a.I) (ok : okA a) : decA (encA a) = some a := by
  have h := (decN_iff 10 (encA a) (Ag.L a) []).2 ⟨by simp [encA], rfl, L_i64 ha⟩
  unfold decA
  rw [h]
  show (if okA (ofL (Ag.L a)) then some (ofL (Ag.L a)) else none) = some a
  rw [ofL_L, if_pos ok]
theorem decA_some {l : List UInt8} {a : Ag} (h : decA l = some a) : okA a ∧ a.I ∧ encA a = l := by
  unfold decA at h
  cases hd : decN 10 l with
  | none => rw [hd] at h; cases h
  | some p =>
    obtain ⟨xs, r⟩ := p
    rw [hd] at h
    cases r with
    | cons c t => cases h
    | nil =>
      obtain ⟨hlr, hlen, hI⟩ := (decN_iff 10 l xs []).1 hd
      obtain ⟨x0, x1, x2, x3, x4, x5, x6, x7, x8, x9, rfl⟩ := ten hlen
      have hA : (⟨x0, x1, x2, x3, x4, x5, x6, x7, x8, x9⟩ : Ag).I := ⟨hI _ (by simp), hI _ (by simp), hI _ (by simp), hI _ (by simp), hI _ (by simp), hI _ (by simp), hI _ (by simp), hI _ (by simp), hI _ (by simp), hI _ (by simp)⟩
      have h' : (if okA ⟨x0, x1, x2, x3, x4, x5, x6, x7, x8, x9⟩ then some (⟨x0, x1, x2, x3, x4, x5, x6, x7, x8, x9⟩ : Ag) else none) = some a := h
      by_cases c : okA ⟨x0, x1, x2, x3, x4, x5, x6, x7, x8, x9⟩
      · rw [if_pos c] at h'
        obtain rfl := Option.some.inj h'
        refine ⟨c, hA, ?_⟩
        rw [hlr, List.append_nil]
        rfl
      · rw [if_neg c] at h'
        cases h'
theorem encA_len (a : Ag) : (encA a).length ≤ 100 := by
  unfold encA Ag.L
  simp only [List.flatMap_cons, List.flatMap_nil, List.length_append, List.length_nil]
  have h := fun n => (enc_len n).2
  have h0 := h a.n; have h1 := h a.s; have h2 := h a.lo; have h3 := h a.hi; have h4 := h a.h0; have h5 := h a.h1; have h6 := h a.h2; have h7 := h a.h3; have h8 := h a.re; have h9 := h a.im
  omega
theorem back_j0 {l : List Int} (hl : ∀ x ∈ l, I64 x) (hn : l.length ≤ 300) (k : Nat) (hk : 400 ≤ k) : headgatelaw15_FoldBack.j0 (k + 1) l = some true := by
  have ha := all_I hl
  rw [headgatelaw15_FoldBack.j0, all_eq hl (by omega) k (by omega), Option.bind_some, show fold_Encode.f k (all l).t.1 (all l).t.2.1 (all l).t.2.2.1 (all l).t.2.2.2.1 (all l).t.2.2.2.2.1 (all l).t.2.2.2.2.2.1 (all l).t.2.2.2.2.2.2.1 (all l).t.2.2.2.2.2.2.2.1 (all l).t.2.2.2.2.2.2.2.2.1 (all l).t.2.2.2.2.2.2.2.2.2 = _ from encode_eq ha k (by omega), Option.bind_some]
  by_cases c : (l.length : Int) = 0
  · have e : l = [] := List.eq_nil_of_length_eq_zero (by omega)
    subst e
    rw [if_pos c, show encR (all []) = (bs [], 1) from if_neg zero_no, if_pos rfl, if_pos (by simp), awake_eq _ (by omega), Option.bind_some]
  · have hne : l ≠ [] := fun e => c (by subst e; rfl)
    have ok := all_ok hn hne
    have hlen := encA_len (all l)
    rw [if_neg c, show encR (all l) = (bs (encA (all l)), 0) from if_pos ok, decode_eq (encA (all l)) (by omega) k (by omega), Option.bind_some, show decR (encA (all l)) = t1 (all l) 0 by unfold decR; rw [decA_enc ha ok], if_pos rfl, if_pos (show (t1 (all l) 0).2.2.2.2.2.2.2.2.2.2 = 0 from rfl), if_pos (by simp [t1, Ag.t]), awake_eq _ (by omega), Option.bind_some]
theorem FoldBack : headgatelaw15_FoldBack.Pure := by
  intro l0 b h1 h2 h3 h4
  obtain ⟨s, rfl⟩ := bs_of b
  refine ⟨500, ?_⟩
  unfold headgatelaw15_FoldBack.f
  rw [size_bs] at h4 ⊢
  have hl := cut_i64 h3
  have hn := cut_len l0
  have J := back_j0 hl hn 499 (by omega)
  rw [some_eq, Option.bind_some]
  by_cases c : (s.length : Int) > 1000
  · rw [if_pos c, awake_eq _ (by omega), Option.bind_some]
  · rw [if_neg c, decode_eq s (by omega) _ (by omega), Option.bind_some]
    cases hd : decA s with
    | none =>
      rw [show decR s = t1 zero 2 by unfold decR; rw [hd], if_neg (by decide)]
      exact J
    | some a =>
      obtain ⟨ok, ha, he⟩ := decA_some hd
      rw [show decR s = t1 a 0 by unfold decR; rw [hd], if_pos (show (t1 a 0).2.2.2.2.2.2.2.2.2.2 = 0 from rfl), show fold_Encode.f 500 (t1 a 0).1 (t1 a 0).2.1 (t1 a 0).2.2.1 (t1 a 0).2.2.2.1 (t1 a 0).2.2.2.2.1 (t1 a 0).2.2.2.2.2.1 (t1 a 0).2.2.2.2.2.2.1 (t1 a 0).2.2.2.2.2.2.2.1 (t1 a 0).2.2.2.2.2.2.2.2.1 (t1 a 0).2.2.2.2.2.2.2.2.2.1 = _ from encode_eq ha 500 (by omega), Option.bind_some, show encR a = (bs (encA a), 0) from if_pos ok, if_pos rfl, he, if_pos rfl]
      exact J
end Go.Proofs.Ytpffggpedogifaa.Pure
