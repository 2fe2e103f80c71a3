/- For anything and any bytes: fold.Check, Encode and Decode tell what the document's references tell; chapter 15's example holds. No condition. -/
import Derived.Test.YtpffggpedogifaaPx3
import Derived.Test.YtpffggpedogifaaPx4
import Derived.Test.YtpffggpedogifaaPx7
import Derived.Test.YtpffggpedogifaaPx15
import Derived.Test.YtpffggpedogifaaPx16
import Derived.Test.YtpffggpedogifaaPx17
import Derived.Test.YtpffggpedogifaaPx18
import Derived.Test.YtpffggpedogifaaPx19
import Derived.Test.YtpffggpedogifaaPx20
import Derived.Test.YtpffggpedogifaaPx21
import Derived.Test.YtpffggpedogifaaPx22
import Derived.Test.YtpffggpedogifaaPx23
import Derived.Test.YtpffggpedogifaaPx24
import Derived.Test.YtpffggpedogifaaPx25
import Derived.Test.YtpffggpedogifaaVm
import Derived.Laws.Bits64
set_option linter.unusedVariables false
namespace Go.Proofs.Ytpffggpedogifaa.Fa
open Go.RowKit Go.Proofs.Ytpffggpedogifaa.Vm Go.Proofs.Ytpffggpedogifaa.P Go.Proofs.YtpffggpedogifaaW.PrintWords Go.Proofs.YtpffggpedogifaaW.PrintLast
theorem w64 {x : Int} (h0 : -9223372036854775808 ≤ x) (h1 : x ≤ 9223372036854775807) : wrap64 x = x := by unfold wrap64; omega
theorem i64_of {n : Int} (h : (Lit.int .i64 n).wf = true) : I64 n := by
  simp [Lit.wf, IntKind.min, IntKind.max, IntKind.signed, IntKind.bits] at h
  unfold I64
  omega
def sat (x : Int) : Int := if 9223372036854775807 < x then 9223372036854775807 else if x < -9223372036854775808 then -9223372036854775808 else x
theorem sat_i64 (x : Int) : I64 (sat x) := by
  unfold sat I64
  repeat' split
  all_goals omega
theorem sat_of {x : Int} (h : I64 x) : sat x = x := by unfold I64 at h; unfold sat; rw [if_neg (by omega), if_neg (by omega)]
theorem wrap_cases {a b : Int} (ha : I64 a) (hb : I64 b) : (a + b ≤ 9223372036854775807 ∧ -9223372036854775808 ≤ a + b ∧ wrap64 (a + b) = a + b) ∨ (9223372036854775807 < a + b ∧ wrap64 (a + b) = a + b - 18446744073709551616) ∨ (a + b < -9223372036854775808 ∧ wrap64 (a + b) = a + b + 18446744073709551616) := by
  unfold I64 at ha hb
  unfold wrap64
  omega
theorem plus_eq {a b : Int} (ha : I64 a) (hb : I64 b) (k : Nat) : fold_plus.f (k + 1) a b = some (sat (a + b)) := by
  have hc := wrap_cases ha hb
  unfold I64 at ha hb
  unfold fold_plus.f sat
  simp only [fold_plus.j0, decide_eq_true_eq, Bool.false_eq_true, if_false]
  generalize wrap64 (a + b) = c at hc
  split
  · split
    · rw [if_pos (by omega)]
    · rw [if_neg (by omega), if_neg (by omega), if_neg (by omega)]; congr 1; omega
  · split
    · split
      · rw [if_neg (by omega), if_pos (by omega)]
      · rw [if_neg (by omega), if_neg (by omega)]; congr 1; omega
    · rw [if_neg (by omega), if_neg (by omega)]; congr 1; omega
def srt (v : Int) : Int := if v < 0 then 0 else if v < 10 then 1 else if v < 100 then 2 else 3
theorem srt_cases (v : Int) : srt v = 0 ∨ srt v = 1 ∨ srt v = 2 ∨ srt v = 3 := by
  unfold srt
  repeat' split
  all_goals omega
theorem sort_eq (v : Int) : fold_Sort.f v = some (srt v) := by
  unfold fold_Sort.f srt
  split
  · rfl
  · split
    · rfl
    · split <;> rfl
/-- What numbers come to. -/
structure Ag where
  n : Int
  s : Int
  lo : Int
  hi : Int
  h0 : Int
  h1 : Int
  h2 : Int
  h3 : Int
  re : Int
  im : Int
abbrev T10 := Int × Int × Int × Int × Int × Int × Int × Int × Int × Int
def Ag.t (a : Ag) : T10 := (a.n, a.s, a.lo, a.hi, a.h0, a.h1, a.h2, a.h3, a.re, a.im)
structure Ag.I (a : Ag) : Prop where
  n : I64 a.n
  s : I64 a.s
  lo : I64 a.lo
  hi : I64 a.hi
  h0 : I64 a.h0
  h1 : I64 a.h1
  h2 : I64 a.h2
  h3 : I64 a.h3
  re : I64 a.re
  im : I64 a.im
def bump (k v x : Int) : Int := if srt v = k then sat (x + 1) else x
def add (a : Ag) (v : Int) : Ag := ⟨sat (a.n + 1), sat (a.s + v), if a.n = 0 then v else mn a.lo v, if a.n = 0 then v else mx a.hi v, bump 0 v a.h0, bump 1 v a.h1, bump 2 v a.h2, bump 3 v a.h3,
  if v % 4 = 0 then sat (a.re + 1) else if v % 4 = 2 then sat (a.re + -1) else a.re, if v % 4 = 1 then sat (a.im + 1) else if v % 4 = 3 then sat (a.im + -1) else a.im⟩
theorem i64_1 : I64 1 := by decide
theorem i64_m1 : I64 (-1) := by decide
theorem i64_0 : I64 0 := by decide
theorem mn_i64 {a b : Int} (ha : I64 a) (hb : I64 b) : I64 (mn a b) := by unfold mn; split <;> assumption
theorem mx_i64 {a b : Int} (ha : I64 a) (hb : I64 b) : I64 (mx a b) := by unfold mx; split <;> assumption
theorem bump_i64 {k v x : Int} (h : I64 x) : I64 (bump k v x) := by unfold bump; split; exact sat_i64 _; exact h
theorem add_I {a : Ag} (h : a.I) {v : Int} (hv : I64 v) : (add a v).I := by
  refine ⟨sat_i64 _, sat_i64 _, ?_, ?_, bump_i64 h.h0, bump_i64 h.h1, bump_i64 h.h2, bump_i64 h.h3, ?_, ?_⟩
  · show I64 (if a.n = 0 then v else mn a.lo v)
    split; exact hv; exact mn_i64 h.lo hv
  · show I64 (if a.n = 0 then v else mx a.hi v)
    split; exact hv; exact mx_i64 h.hi hv
  · show I64 (if v % 4 = 0 then sat (a.re + 1) else if v % 4 = 2 then sat (a.re + -1) else a.re)
    repeat' split
    exact sat_i64 _
    exact sat_i64 _
    exact h.re
  · show I64 (if v % 4 = 1 then sat (a.im + 1) else if v % 4 = 3 then sat (a.im + -1) else a.im)
    repeat' split
    exact sat_i64 _
    exact sat_i64 _
    exact h.im
theorem turn_re {x v : Int} (h : I64 x) (k : Nat) : fold_plus.f (k + 1) x (fold_turn.int (fold_turn.c (v % 4)).1) = some (if v % 4 = 0 then sat (x + 1) else if v % 4 = 2 then sat (x + -1) else x) := by
  have hq : v % 4 = 0 ∨ v % 4 = 1 ∨ v % 4 = 2 ∨ v % 4 = 3 := by omega
  rcases hq with e | e | e | e
  · rw [e, show fold_turn.int (fold_turn.c 0).1 = 1 from rfl, plus_eq h i64_1, if_pos rfl]
  · rw [e, show fold_turn.int (fold_turn.c 1).1 = 0 from rfl, plus_eq h i64_0, Int.add_zero, sat_of h]; rfl
  · rw [e, show fold_turn.int (fold_turn.c 2).1 = -1 from rfl, plus_eq h i64_m1]; rfl
  · rw [e, show fold_turn.int (fold_turn.c 3).1 = 0 from rfl, plus_eq h i64_0, Int.add_zero, sat_of h]; rfl
theorem turn_im {x v : Int} (h : I64 x) (k : Nat) : fold_plus.f (k + 1) x (fold_turn.int (fold_turn.c (v % 4)).2) = some (if v % 4 = 1 then sat (x + 1) else if v % 4 = 3 then sat (x + -1) else x) := by
  have hq : v % 4 = 0 ∨ v % 4 = 1 ∨ v % 4 = 2 ∨ v % 4 = 3 := by omega
  rcases hq with e | e | e | e
  · rw [e, show fold_turn.int (fold_turn.c 0).2 = 0 from rfl, plus_eq h i64_0, Int.add_zero, sat_of h]; rfl
  · rw [e, show fold_turn.int (fold_turn.c 1).2 = 1 from rfl, plus_eq h i64_1, if_pos rfl]
  · rw [e, show fold_turn.int (fold_turn.c 2).2 = 0 from rfl, plus_eq h i64_0, Int.add_zero, sat_of h]; rfl
  · rw [e, show fold_turn.int (fold_turn.c 3).2 = -1 from rfl, plus_eq h i64_m1]; rfl
theorem add_j1 {v n s lo hi h0 h1 h2 h3 re im : Int} (hr : I64 re) (hi' : I64 im) (k : Nat) : fold_Add.j1 (k + 2) v n s lo hi h0 h1 h2 h3 re im = some (n, s, lo, hi, h0, h1, h2, h3, (if v % 4 = 0 then sat (re + 1) else if v % 4 = 2 then sat (re + -1) else re), (if v % 4 = 1 then sat (im + 1) else if v % 4 = 3 then sat (im + -1) else im)) := by
  rw [fold_Add.j1, fold_turn.f, Option.bind_some, turn_re hr, Option.bind_some, turn_im hi', Option.bind_some]
theorem add_j0 {v n s lo hi h0 h1 h2 h3 re im : Int} (hv : I64 v) (hn : I64 n) (hs : I64 s) (i0 : I64 h0) (i1 : I64 h1) (i2 : I64 h2) (i3 : I64 h3) (hr : I64 re) (hi' : I64 im) (k : Nat) :
    fold_Add.j0 (k + 3) v n s lo hi h0 h1 h2 h3 re im = some (sat (n + 1), sat (s + v), mn lo v, mx hi v, bump 0 v h0, bump 1 v h1, bump 2 v h2, bump 3 v h3, (if v % 4 = 0 then sat (re + 1) else if v % 4 = 2 then sat (re + -1) else re), (if v % 4 = 1 then sat (im + 1) else if v % 4 = 3 then sat (im + -1) else im)) := by
  rw [fold_Add.j0, plus_eq hn i64_1, Option.bind_some, plus_eq hs hv, Option.bind_some, sort_eq, Option.bind_some, Option.bind_some]
  unfold bump
  rcases srt_cases v with e | e | e | e
  · rw [e, if_pos rfl, plus_eq i0 i64_1, Option.bind_some, if_pos rfl, add_j1 hr hi']; rfl
  · rw [e, if_neg (by decide), if_pos rfl, plus_eq i1 i64_1, Option.bind_some, if_neg (by decide), if_pos rfl, add_j1 hr hi']; rfl
  · rw [e, if_neg (by decide), if_neg (by decide), if_pos rfl, plus_eq i2 i64_1, Option.bind_some, if_neg (by decide), if_neg (by decide), if_pos rfl, add_j1 hr hi']; rfl
  · rw [e, if_neg (by decide), if_neg (by decide), if_neg (by decide), if_pos rfl, plus_eq i3 i64_1, Option.bind_some, if_neg (by decide), if_neg (by decide), if_neg (by decide), if_pos rfl, add_j1 hr hi']; rfl
theorem add_eq {a : Ag} (h : a.I) {v : Int} (hv : I64 v) (k : Nat) : fold_Add.f (k + 3) a.n a.s a.lo a.hi a.h0 a.h1 a.h2 a.h3 a.re a.im v = some (add a v).t := by
  unfold fold_Add.f add Ag.t
  by_cases c : a.n = 0
  · rw [if_pos c, add_j0 hv h.n h.s h.h0 h.h1 h.h2 h.h3 h.re h.im, show mn v v = v by unfold mn; split <;> rfl, show mx v v = v by unfold mx; split <;> rfl]
    simp only [if_pos c]
  · rw [if_neg c, add_j0 hv h.n h.s h.h0 h.h1 h.h2 h.h3 h.re h.im]
    simp only [if_neg c]
def zero : Ag := ⟨0, 0, 0, 0, 0, 0, 0, 0, 0, 0⟩
theorem zero_I : zero.I := ⟨i64_0, i64_0, i64_0, i64_0, i64_0, i64_0, i64_0, i64_0, i64_0, i64_0⟩
def all (l : List Int) : Ag := l.foldl add zero
theorem rd_at (l : List Int) (i : Nat) (h : i < l.length) : rd l (i : Int) = l[i] := by
  unfold rd
  simp [h]
theorem drop_at (l : List Int) (i : Nat) (h : i < l.length) : l.drop i = l[i] :: l.drop (i + 1) := List.drop_eq_getElem_cons h
theorem all_l0 (l : List Int) (hl : ∀ x ∈ l, I64 x) (hn : l.length ≤ 1000000) (d : Nat) : ∀ (i k : Nat) (a : Ag), l.length - i = d → i ≤ l.length → d + 10 < k → a.I →
    fold_All.l0 k l (l.length : Int) (i : Int) a.n a.s a.lo a.hi a.h0 a.h1 a.h2 a.h3 a.re a.im = some ((l.drop i).foldl add a).t := by
  induction d with
  | zero =>
    intro i k a hd hi hk ha
    obtain ⟨k, rfl⟩ : ∃ m, k = m + 1 := ⟨k - 1, by omega⟩
    rw [fold_All.l0, if_neg (by omega), List.drop_of_length_le (by omega)]
    rfl
  | succ d ih =>
    intro i k a hd hi hk ha
    obtain ⟨k, rfl⟩ : ∃ m, k = m + 3 + 1 := ⟨k - 4, by omega⟩
    have hlt : i < l.length := by omega
    have hv : I64 l[i] := hl _ (List.getElem_mem hlt)
    rw [fold_All.l0, if_pos (by omega), if_pos (by omega), if_pos (by omega), rd_at l i hlt, add_eq ha hv, Option.bind_some, drop_at l i hlt, w64 (by omega) (by omega)]
    exact ih (i + 1) (k + 3) (add a l[i]) (by omega) (by omega) (by omega) (add_I ha hv)
theorem all_eq {l : List Int} (hl : ∀ x ∈ l, I64 x) (hn : l.length ≤ 1000000) (k : Nat) (hk : l.length + 11 < k) : fold_All.f k l = some (all l).t := by
  unfold fold_All.f
  exact all_l0 l hl hn l.length 0 k zero (by omega) (by omega) (by omega) zero_I
theorem awake_eq (k : Nat) (hk : 20 < k) : headgatelaw15_awake.f k = some true := by
  unfold headgatelaw15_awake.f
  rw [all_eq (l := [5, (-1), 12]) (by decide) (by decide) k (by simp; omega), Option.bind_some]
  rfl
end Go.Proofs.Ytpffggpedogifaa.Fa
set_option linter.unusedVariables false
namespace Go.Proofs.Ytpffggpedogifaa.Fb
open Go.RowKit Go.Proofs.Ytpffggpedogifaa.Vm Go.Proofs.Ytpffggpedogifaa.Fa Go.Proofs.Ytpffggpedogifaa.P Go.Proofs.YtpffggpedogifaaW.PrintWords Go.Proofs.YtpffggpedogifaaW.PrintLast
end Go.Proofs.Ytpffggpedogifaa.Fb
set_option linter.unusedVariables false
set_option linter.unusedSimpArgs false
namespace Go.Proofs.Ytpffggpedogifaa.Vref
open Go.RowKit Go.Proofs.Ytpffggpedogifaa.Vm Go.Proofs.Ytpffggpedogifaa.P Go.Proofs.YtpffggpedogifaaW.PrintWords
theorem u64w (n : Int) : IntKind.u64.wrap n = n % 18446744073709551616 := IntKind.wrap_u64 n
theorem w64 {x : Int} (h0 : -9223372036854775808 ≤ x) (h1 : x ≤ 9223372036854775807) : wrap64 x = x := by unfold wrap64; omega
def toB (xs : List Int) : List UInt8 := xs.map fun n => UInt8.ofNat n.toNat
theorem toB_snoc (xs : List Int) (n : Int) : toB (xs ++ [n]) = toB xs ++ [UInt8.ofNat n.toNat] := by simp [toB]
theorem strOfNums_snoc (xs : List Int) (n : Int) : strOfNums (xs ++ [n]) = bs (toB xs ++ [UInt8.ofNat n.toNat]) := by rw [strOfNums_bs]; simp [toB]
theorem put_l0 (f : Nat) : ∀ (u k : Nat) (acc : List Int), u < 2 * 128 ^ f → f ≤ 9 → f < k → acc.length + f < 100 →
    headgateref01_Put.l0 k (u : Int) acc = some (bs (toB acc ++ sev f u)) := by
  induction f with
  | zero =>
    intro u k acc hu _ hk hl
    obtain ⟨k, rfl⟩ : ∃ m, k = m + 1 := ⟨k - 1, by omega⟩
    simp only [headgateref01_Put.l0]
    rw [if_neg (by omega), if_pos (by omega), strOfNums_snoc]
    have : ((u : Int) % 256).toNat = u := by omega
    rw [this]
    rfl
  | succ f ih =>
    intro u k acc hu hf hk hl
    have hs : 2 * 128 ^ (f + 1) = 128 * (2 * 128 ^ f) := by rw [Nat.pow_succ]; omega
    have hmax : 2 * 128 ^ (f + 1) ≤ 18446744073709551616 := by
      have : 128 ^ (f + 1) ≤ 128 ^ 9 := Nat.pow_le_pow_right (by decide) hf
      omega
    obtain ⟨k, rfl⟩ : ∃ m, k = m + 1 := ⟨k - 1, by omega⟩
    simp only [headgateref01_Put.l0]
    unfold sev
    by_cases h : u < 128
    · rw [if_neg (by omega), if_pos (by omega), strOfNums_snoc, if_pos h]
      have : ((u : Int) % 256).toNat = u := by omega
      rw [this]
    · rw [if_pos (by omega), if_pos (by omega), if_neg h]
      have e1 : IntKind.u64.wrap (Int.tdiv (u : Int) 128) = ((u / 128 : Nat) : Int) := by
        rw [Int.tdiv_eq_ediv_of_nonneg (by omega), u64w]; omega
      have e2 : ((IntKind.u64.wrap (Int.tmod (u : Int) 128 + 128)) % 256).toNat = u % 128 + 128 := by
        rw [Int.tmod_eq_emod_of_nonneg (by omega), u64w]; omega
      rw [e1, ih (u / 128) k _ (by omega) (by omega) (by omega) (by simp; omega), toB_snoc, e2]
      simp
theorem put_f (n : Int) (hn : I64 n) (k : Nat) (hk : 12 ≤ k) : headgateref01_Put.f k n = some (bs (enc n)) := by
  have hz := zz_lt.2 hn
  obtain ⟨k, rfl⟩ : ∃ m, k = m + 1 := ⟨k - 1, by omega⟩
  unfold I64 at hn
  unfold headgateref01_Put.f
  split
  · rename_i h
    have e : IntKind.u64.wrap (IntKind.u64.wrap (IntKind.u64.wrap (wrap64 (-(wrap64 (n + 1)))) * 2) + 1) = ((zz n : Nat) : Int) := by
      unfold wrap64 zz; rw [if_pos h]; simp only [u64w]; omega
    rw [e]
    simp only [headgateref01_Put.j0]
    exact put_l0 9 _ _ _ hz (by omega) (by omega) (by simp)
  · rename_i h
    have e : IntKind.u64.wrap (IntKind.u64.wrap n * 2) = ((zz n : Nat) : Int) := by
      unfold zz; rw [if_neg h]; simp only [u64w]; omega
    rw [e]
    simp only [headgateref01_Put.j0]
    exact put_l0 9 _ _ _ hz (by omega) (by omega) (by simp)
/-- What bytes' sevens come to, the first byte the lowest. -/
def m64 (n : Nat) : Nat := n % 18446744073709551616
theorem m64_lt (n : Nat) : m64 n < 18446744073709551616 := Nat.mod_lt _ (by decide)
theorem m64_of {n : Nat} (h : n < 18446744073709551616) : m64 n = n := Nat.mod_eq_of_lt h
def val : List UInt8 → Nat
  | [] => 0
  | c :: t => c.toNat % 128 + 128 * val t
theorem val_sev (f : Nat) : ∀ u, u < 2 * 128 ^ f → val (sev f u) = u := by
  induction f with
  | zero => intro u hu; simp [sev, val, toNat_ofNat_lt (show u < 256 by omega)]; omega
  | succ f ih =>
    intro u hu
    have hs : 2 * 128 ^ (f + 1) = 128 * (2 * 128 ^ f) := by rw [Nat.pow_succ]; omega
    unfold sev
    split
    · rename_i h; simp [val, toNat_ofNat_lt (show u < 256 by omega)]; omega
    · simp only [val]; rw [ih _ (by omega), toNat_ofNat_lt (by omega)]; omega
/-- All bytes of a number but its last one are 128 or more; its last one is less. -/
theorem sev_tops (f : Nat) : ∀ u, u < 2 * 128 ^ f → (∀ i, i + 1 < (sev f u).length → 128 ≤ ((sev f u).getD i 0).toNat) ∧ ((sev f u).getD ((sev f u).length - 1) 0).toNat < 128 := by
  induction f with
  | zero => intro u hu; simp [sev, toNat_ofNat_lt (show u < 256 by omega)]; omega
  | succ f ih =>
    intro u hu
    have hs : 2 * 128 ^ (f + 1) = 128 * (2 * 128 ^ f) := by rw [Nat.pow_succ]; omega
    unfold sev
    split
    · rename_i h; simp [toNat_ofNat_lt (show u < 256 by omega)]; omega
    · obtain ⟨h1, h2⟩ := ih (u / 128) (by omega)
      have hl := (sev_len f (u / 128)).1
      constructor
      · intro i hi
        cases i with
        | zero => simp only [List.getD_cons_zero]; rw [toNat_ofNat_lt (by omega)]; omega
        | succ i => simp only [List.getD_cons_succ]; exact h1 i (by simpa using hi)
      · obtain ⟨m, hm⟩ : ∃ m, (sev f (u / 128)).length = m + 1 := ⟨_, (Nat.sub_add_cancel hl).symm⟩
        simp only [List.length_cons, Nat.add_sub_cancel]
        rw [hm]
        simp only [List.getD_cons_succ]
        rw [hm] at h2
        exact h2
theorem bt_bs (l : List UInt8) (i : Nat) (h : i < l.length) : bt (bs l) (i : Int) = ((l.getD i 0).toNat : Int) := by
  unfold bt
  rw [dif_pos (by simpa using h)]
  simp only [Int.toNat_natCast]
  rw [List.getD_eq_getElem?_getD, List.getElem?_eq_getElem h]
  rfl
/-- Where the scan stops: at the first byte below 128, at the end, or behind ten. -/
theorem take_l0 (l : List UInt8) (hl : l.length ≤ 9223372036854775800) (k : Nat) : ∀ (d i : Nat), i ≤ l.length → i ≤ 10 → d = 10 - i → (∀ j : Nat, j < i → 128 ≤ (l.getD j 0).toNat) → d < k →
    ∃ i' k' : Nat, k' + d + 1 ≥ k ∧ k' < k ∧ headgateref01_Take.l0 k (bs l) (i : Int) = headgateref01_Take.j1 k' (bs l) (i' : Int) ∧ i' ≤ l.length ∧ i' ≤ 10 ∧ (∀ j : Nat, j < i' → 128 ≤ (l.getD j 0).toNat) ∧ (i' = l.length ∨ i' = 10 ∨ (i' < l.length ∧ i' < 10 ∧ (l.getD i' 0).toNat < 128)) := by
  induction k with
  | zero => intro d i _ _ _ _ hk; omega
  | succ k ih =>
    intro d i h1 h2 hd hall hk
    simp only [headgateref01_Take.l0]
    by_cases hlt : i < l.length
    · rw [if_pos (by simp; omega)]
      by_cases h10 : i < 10
      · rw [if_pos (by omega), if_pos (by omega), bt_bs l i hlt]
        by_cases hb : 128 ≤ (l.getD i 0).toNat
        · rw [if_pos (by omega)]
          have e : wrap64 ((i : Int) + 1) = ((i + 1 : Nat) : Int) := by unfold wrap64; omega
          rw [e]
          obtain ⟨i', k', ha, hb', hc, hr⟩ := ih (d - 1) (i + 1) (by omega) (by omega) (by omega) (fun j hj => by
            rcases Nat.lt_or_ge j i with h | h
            · exact hall j h
            · obtain rfl : j = i := by omega
              exact hb) (by omega)
          exact ⟨i', k', by omega, by omega, hc, hr⟩
        · rw [if_neg (by omega)]
          exact ⟨i, k, by omega, by omega, rfl, h1, h2, hall, .inr (.inr ⟨hlt, h10, by omega⟩)⟩
      · rw [if_neg (by omega)]
        exact ⟨i, k, by omega, by omega, rfl, h1, h2, hall, .inr (.inl (by omega))⟩
    · rw [if_neg (by simp; omega)]
      exact ⟨i, k, by omega, by omega, rfl, h1, h2, hall, .inl (by omega)⟩
theorem val_drop (t : List UInt8) (m : Nat) (h : m < t.length) : val (t.drop m) = (t.getD m 0).toNat % 128 + 128 * val (t.drop (m + 1)) := by
  rw [List.drop_eq_getElem_cons h, val, List.getD_eq_getElem?_getD, List.getElem?_eq_getElem h]
  rfl
theorem l1_round (k : Nat) (x0 : ByteArray) (x5 x6 x7 : Int) (h0 : 0 ≤ x7) (h1 : x7 < (x0.size : Int)) : headgateref01_Take.l1 (k + 1) x0 x5 x6 x7 = headgateref01_Take.l1 k x0 x5 (IntKind.u64.wrap ((IntKind.u64.wrap (x6 * 128)) + (Int.tmod (IntKind.u64.wrap (bt x0 x7)) 128))) (wrap64 (x7 - 1)) := by
  rw [headgateref01_Take.l1, if_pos h0, if_pos h0, if_pos h1]
theorem take_l1 (l : List UInt8) (x5 : Nat) (hx : x5 < l.length) (h10 : x5 < 10) : ∀ (m k : Nat), m ≤ x5 + 1 → m + 20 ≤ k →
    ∃ k', 12 ≤ k' ∧ headgateref01_Take.l1 k (bs l) (x5 : Int) ((m64 (val ((l.take (x5 + 1)).drop m)) : Nat) : Int) ((m : Int) - 1) = headgateref01_Take.l1 (k' + 1) (bs l) (x5 : Int) ((m64 (val (l.take (x5 + 1))) : Nat) : Int) (-1) := by
  intro m
  induction m with
  | zero =>
    intro k _ hk
    obtain ⟨k, rfl⟩ : ∃ q, k = q + 1 := ⟨k - 1, by omega⟩
    refine ⟨k, by omega, ?_⟩
    rw [List.drop_zero, show ((0 : Nat) : Int) - 1 = -1 by omega]
  | succ m ih =>
    intro k hm hk
    obtain ⟨k, rfl⟩ : ∃ q, k = q + 1 := ⟨k - 1, by omega⟩
    obtain ⟨k', h1, h2⟩ := ih k (by omega) (by omega)
    refine ⟨k', h1, ?_⟩
    rw [← h2]
    have hlen : (l.take (x5 + 1)).length = x5 + 1 := by simp; omega
    have hg : (l.take (x5 + 1)).getD m 0 = l.getD m 0 := by
      simp only [List.getD_eq_getElem?_getD]
      rw [List.getElem?_take_of_lt (by omega)]
    have hv := val_drop (l.take (x5 + 1)) m (by omega)
    rw [hg] at hv
    have hbyte := (l.getD m 0).toNat_lt
    have e0 : ((m + 1 : Nat) : Int) - 1 = (m : Int) := by omega
    rw [e0]
    rw [l1_round k (bs l) _ _ (m : Int) (by omega) (by simp; omega), bt_bs l m (by omega)]
    have e1 : wrap64 ((m : Int) - 1) = (m : Int) - 1 := by unfold wrap64; omega
    have e2 : IntKind.u64.wrap ((IntKind.u64.wrap (((m64 (val ((l.take (x5 + 1)).drop (m + 1))) : Nat) : Int) * 128)) + (Int.tmod (IntKind.u64.wrap ((l.getD m 0).toNat : Int)) 128)) = ((m64 (val ((l.take (x5 + 1)).drop m)) : Nat) : Int) := by
      rw [hv]
      simp only [u64w, m64]
      rw [Int.tmod_eq_emod_of_nonneg (by omega)]
      omega
    rw [e1, e2]
theorem take_l1' (l : List UInt8) (x5 : Nat) (hx : x5 < l.length) (h10 : x5 < 10) (k : Nat) (hk : 40 ≤ k) :
    ∃ k', 12 ≤ k' ∧ headgateref01_Take.l1 k (bs l) (x5 : Int) 0 (x5 : Int) = headgateref01_Take.l1 (k' + 1) (bs l) (x5 : Int) ((m64 (val (l.take (x5 + 1))) : Nat) : Int) (-1) := by
  obtain ⟨kk, hkk, h⟩ := take_l1 l x5 hx h10 (x5 + 1) k (by omega) (by omega)
  refine ⟨kk, hkk, ?_⟩
  have hz : val ((l.take (x5 + 1)).drop (x5 + 1)) = 0 := by
    rw [List.drop_of_length_le (by rw [List.length_take]; omega)]
    rfl
  have hm : ((m64 0 : Nat) : Int) = 0 := rfl
  have e0 : ((x5 + 1 : Nat) : Int) - 1 = (x5 : Int) := by omega
  rw [hz, hm, e0] at h
  exact h
theorem take_fin (l : List UInt8) (hl : l.length ≤ 9223372036854775800) (i : Nat) (hlt : i < l.length) (h10 : i < 10) (hall : ∀ j : Nat, j < i → 128 ≤ (l.getD j 0).toNat) (hlast : (l.getD i 0).toNat < 128) (kk : Nat) (hkk : 12 ≤ kk) (u : Nat) (hu : m64 (val (l.take (i + 1))) = u) :
    ((headgateref01_Put.f kk (uz u)).bind fun t107 => (if 0 ≤ (wrap64 ((i : Int) + 1)) then (if (wrap64 ((i : Int) + 1)) ≤ ((bs l).size : Int) then (if t107.toList = ((bs l).extract 0 ((wrap64 ((i : Int) + 1)) : Int).toNat).toList then (some (uz u, (bs l).extract ((wrap64 ((i : Int) + 1)) : Int).toNat (bs l).size, (0 : Int))) else (some (0, (⟨#[]⟩ : ByteArray), 2))) else (none)) else (none))) = some (takeR (dec l)) := by
  have hult : u < 18446744073709551616 := by rw [← hu]; exact m64_lt _
  have e1 : wrap64 ((i : Int) + 1) = ((i + 1 : Nat) : Int) := by unfold wrap64; omega
  have hn : I64 (uz u) := zz_lt.1 (by rw [zz_uz]; exact hult)
  have hb : (i : Int) + 1 ≤ ((bs l).size : Int) := by rw [size_bs]; omega
  rw [put_f _ hn kk hkk, Option.bind_some, e1, if_pos (by omega), if_pos (by omega), Int.toNat_natCast, extract_bs, extract_bs, toList_bs, toList_bs, size_bs, List.drop_zero, Nat.sub_zero]
  by_cases hc : enc (uz u) = l.take (i + 1)
  · rw [if_pos hc]
    have : dec l = some (uz u, l.drop (i + 1)) := (dec_iff _ _ _).2 ⟨by rw [hc, List.take_append_drop], hn⟩
    rw [this, List.take_of_length_le (by simp)]
    rfl
  · rw [if_neg hc]
    cases hd : dec l with
    | none => rfl
    | some p =>
      exfalso
      obtain ⟨m, r⟩ := p
      obtain ⟨rfl, hm⟩ := (dec_iff l m r).1 hd
      have htop := sev_tops 9 (zz m) (zz_lt.2 hm)
      have hlen := enc_len m
      have hget : ∀ j, j < (enc m).length → (enc m ++ r).getD j 0 = (enc m).getD j 0 := fun j hj => by
        simp only [List.getD_eq_getElem?_getD]
        rw [List.getElem?_append_left hj]
      have hi : i + 1 = (enc m).length := by
        rcases Nat.lt_trichotomy (i + 1) (enc m).length with h | h | h
        · have h1 := htop.1 i h
          rw [hget i (by omega)] at hlast
          unfold enc at hlast
          omega
        · exact h
        · have h1 := hall ((enc m).length - 1) (by omega)
          rw [hget _ (by omega)] at h1
          unfold enc at h1
          omega
      have htk : (enc m ++ r).take (i + 1) = enc m := by rw [hi, List.take_left]
      rw [htk] at hu hc
      have hv : val (enc m) = zz m := val_sev 9 _ (zz_lt.2 hm)
      have hzl := zz_lt.2 hm
      rw [hv, m64_of hzl] at hu
      apply hc
      rw [← hu, uz_zz]
theorem take_f (l : List UInt8) (hl : l.length ≤ 9223372036854775800) (k : Nat) (hk : 80 ≤ k) : headgateref01_Take.f k (bs l) = some (takeR (dec l)) := by
  unfold headgateref01_Take.f
  obtain ⟨i, k', hk1, hk2, he, hi1, hi2, hall, hend⟩ := take_l0 l hl k 10 0 (by omega) (by omega) rfl (fun j hj => by omega) (by omega)
  rw [show (0 : Int) = ((0 : Nat) : Int) from rfl, he]
  have bad : (i = l.length ∨ i = 10) → dec l = none := by
    intro hb
    cases hd : dec l with
    | none => rfl
    | some p =>
      exfalso
      obtain ⟨n, r⟩ := p
      obtain ⟨rfl, hn⟩ := (dec_iff l n r).1 hd
      have ht := (sev_tops 9 (zz n) (zz_lt.2 hn)).2
      have hlen := enc_len n
      have h1 : (enc n).length - 1 < i := by
        rcases hb with hb | hb
        · rw [List.length_append] at hb; omega
        · omega
      have h2 := hall _ h1
      have h3 : (enc n ++ r).getD ((enc n).length - 1) 0 = (enc n).getD ((enc n).length - 1) 0 := by
        simp only [List.getD_eq_getElem?_getD]
        rw [List.getElem?_append_left (by omega)]
      rw [h3] at h2
      unfold enc at h2
      omega
  obtain ⟨k', rfl⟩ : ∃ q, k' = q + 1 := ⟨k' - 1, by omega⟩
  rw [headgateref01_Take.j1]
  obtain ⟨k', rfl⟩ : ∃ q, k' = q + 1 := ⟨k' - 1, by omega⟩
  by_cases hA : i = l.length
  · rw [if_pos (by rw [size_bs]; omega), headgateref01_Take.j2, if_pos rfl, bad (.inl hA)]
    rfl
  · rw [if_neg (by rw [size_bs]; omega), headgateref01_Take.j2]
    by_cases hB : i = 10
    · rw [if_pos (beq_iff_eq.mpr (by omega)), bad (.inr hB)]
      rfl
    · rw [if_neg (by rw [beq_iff_eq]; omega)]
      obtain ⟨hlt, h10, hlast⟩ : i < l.length ∧ i < 10 ∧ (l.getD i 0).toNat < 128 := by
        rcases hend with h | h | h
        · exact absurd h hA
        · exact absurd h hB
        · exact h
      obtain ⟨kk, hkk, hl1⟩ := take_l1' l i hlt h10 k' (by omega)
      rw [hl1]
      have hult := m64_lt (val (l.take (i + 1)))
      generalize hu : m64 (val (l.take (i + 1))) = u at hult
      have hfin := take_fin l hl i hlt h10 hall hlast kk hkk u hu
      rw [headgateref01_Take.l1, if_neg (by omega)]
      have hq : Int.tdiv (u : Int) 2 = ((u / 2 : Nat) : Int) := by rw [Int.tdiv_eq_ediv_of_nonneg (by omega)]; omega
      have hr : Int.tmod (u : Int) 2 = ((u % 2 : Nat) : Int) := by rw [Int.tmod_eq_emod_of_nonneg (by omega)]; omega
      rw [hq, hr]
      by_cases hodd : u % 2 = 1
      · rw [if_pos (by omega)]
        have e : wrap64 (wrap64 (-(wrap64 (IntKind.u64.wrap ((u / 2 : Nat) : Int)))) - 1) = uz u := by
          have h1 : IntKind.u64.wrap ((u / 2 : Nat) : Int) = ((u / 2 : Nat) : Int) := by rw [u64w]; omega
          rw [h1, w64 (x := ((u / 2 : Nat) : Int)) (by omega) (by omega), w64 (x := -((u / 2 : Nat) : Int)) (by omega) (by omega), w64 (by omega) (by omega)]
          unfold uz
          rw [if_pos hodd]
        rw [e]
        exact hfin
      · rw [if_neg (by omega)]
        have e : wrap64 (IntKind.u64.wrap ((u / 2 : Nat) : Int)) = uz u := by
          have h1 : IntKind.u64.wrap ((u / 2 : Nat) : Int) = ((u / 2 : Nat) : Int) := by rw [u64w]; omega
          rw [h1, w64 (x := ((u / 2 : Nat) : Int)) (by omega) (by omega)]
          unfold uz
          rw [if_neg hodd]
        rw [e]
        exact hfin
end Go.Proofs.Ytpffggpedogifaa.Vref
set_option linter.unusedVariables false
set_option linter.unusedSimpArgs false
namespace Go.Proofs.Ytpffggpedogifaa.Vp
open Go.RowKit Go.Proofs.Ytpffggpedogifaa.Vm Go.Proofs.Ytpffggpedogifaa.Vref Go.Proofs.Ytpffggpedogifaa.P Go.Proofs.YtpffggpedogifaaW.PrintWords
theorem i64_of {n : Int} (h : (Lit.int .i64 n).wf = true) : I64 n := by
  simp only [Lit.wf, IntKind.min, IntKind.max, IntKind.signed, IntKind.bits, Bool.and_eq_true, decide_eq_true_eq, if_true] at h
  unfold I64
  omega
theorem take_eq (l : List UInt8) (h : l.length ≤ 9223372036854775807) : varint_Take.f (bs l) = some (takeR (dec l)) := by
  unfold varint_Take.f
  rw [size_bs, if_pos h, data_bs]
theorem takeR_1 (n : Int) (r : List UInt8) : (takeR (some (n, r))).1 = n := rfl
theorem takeR_2 (n : Int) (r : List UInt8) : (takeR (some (n, r))).2.1 = bs r := rfl
theorem takeR_3 (n : Int) (r : List UInt8) : (takeR (some (n, r))).2.2 = 0 := rfl
theorem takeR_n3 : (takeR none).2.2 = 2 := rfl
/-- So many numbers, with which bytes begin. -/
def decN : Nat → List UInt8 → Option (List Int × List UInt8)
  | 0, l => some ([], l)
  | n + 1, l => (dec l).bind fun p => (decN n p.2).map fun q => (p.1 :: q.1, q.2)
theorem decN_iff (n : Nat) : ∀ (l : List UInt8) (xs : List Int) (r : List UInt8), decN n l = some (xs, r) ↔ l = xs.flatMap enc ++ r ∧ xs.length = n ∧ ∀ x ∈ xs, I64 x := by
  induction n with
  | zero =>
    intro l xs r
    simp only [decN, Option.some.injEq, Prod.mk.injEq]
    constructor
    · rintro ⟨rfl, rfl⟩; simp
    · rintro ⟨h1, h2, -⟩
      obtain rfl := List.eq_nil_of_length_eq_zero h2
      simp at h1
      exact ⟨rfl, h1⟩
  | succ n ih =>
    intro l xs r
    simp only [decN, Option.bind_eq_some_iff, Option.map_eq_some_iff, Prod.exists, Prod.mk.injEq]
    constructor
    · rintro ⟨x, l', hd, ys, r', hn, rfl, rfl⟩
      obtain ⟨rfl, hx⟩ := (dec_iff _ _ _).1 hd
      obtain ⟨rfl, hl, hall⟩ := (ih _ _ _).1 hn
      refine ⟨by simp, by simp [hl], fun y hy => ?_⟩
      rcases List.mem_cons.1 hy with rfl | hy
      · exact hx
      · exact hall y hy
    · rintro ⟨rfl, h2, h3⟩
      cases xs with
      | nil => simp at h2
      | cons x ys =>
        have hx := h3 x (List.mem_cons_self ..)
        refine ⟨x, ys.flatMap enc ++ r, ?_, ys, r, (ih _ _ _).2 ⟨rfl, by simpa using h2, fun y hy => h3 y (List.mem_cons_of_mem _ hy)⟩, rfl, rfl⟩
        rw [List.flatMap_cons, List.append_assoc]
        exact dec_enc hx _
def allR : Option (List Int × List UInt8) → List Int × ByteArray × Int
  | some (a, b) => (a, bs b, 0)
  | none => ([], bs [], 2)
/-- What TakeAll tells. -/
def takeAllR (l : List UInt8) (n : Int) : List Int × ByteArray × Int := if n < 0 ∨ n > 64 then ([], bs [], 1) else allR (decN n.toNat l)
theorem takeAll_l0 (d : Nat) : ∀ (l : List UInt8) (acc : List Int) (n i : Int) (k : Nat), l.length ≤ 9223372036854775800 → 0 ≤ i → i ≤ n → n ≤ 64 → n - i = d → d < k → acc.length ≤ 64 - d →
    varint_TakeAll.l0 k (bs l) acc n i = some (allR ((decN d l).map fun q => (acc ++ q.1, q.2))) := by
  induction d with
  | zero =>
    intro l acc n i k hl h0 h1 h64 hd hk ha
    obtain ⟨k, rfl⟩ : ∃ m, k = m + 1 := ⟨k - 1, by omega⟩
    rw [varint_TakeAll.l0, if_neg (by omega)]
    simp [decN, allR]
  | succ d ih =>
    intro l acc n i k hl h0 h1 h64 hd hk ha
    obtain ⟨k, rfl⟩ : ∃ m, k = m + 1 := ⟨k - 1, by omega⟩
    rw [varint_TakeAll.l0, if_pos (by omega), take_eq l (by omega), Option.bind_some]
    cases hdc : dec l with
    | none =>
      rw [takeR_n3, if_neg (by decide)]
      simp only [decN, hdc]
      rfl
    | some p =>
      obtain ⟨x, r⟩ := p
      have hr := (dec_iff _ _ _).1 hdc
      have hrl : r.length ≤ l.length := by rw [hr.1, List.length_append]; omega
      rw [takeR_1, takeR_2, takeR_3, if_pos rfl, if_pos (by omega), w64 (by omega) (by omega), ih r (acc ++ [x]) n (i + 1) k (by omega) (by omega) (by omega) h64 (by omega) (by omega) (by rw [List.length_append, List.length_singleton]; omega)]
      simp only [decN, hdc, Option.bind_some, Option.map_map]
      congr 2
      cases decN d r <;> simp
theorem rtakeAll_l0 (d : Nat) : ∀ (l : List UInt8) (acc : List Int) (n i : Int) (k : Nat), l.length ≤ 9223372036854775800 → 0 ≤ i → i ≤ n → n ≤ 64 → n - i = d → d + 80 < k → acc.length ≤ 64 - d →
    headgateref01_TakeAll.l0 k (bs l) n acc i = some (allR ((decN d l).map fun q => (acc ++ q.1, q.2))) := by
  induction d with
  | zero =>
    intro l acc n i k hl h0 h1 h64 hd hk ha
    obtain ⟨k, rfl⟩ : ∃ m, k = m + 1 := ⟨k - 1, by omega⟩
    rw [headgateref01_TakeAll.l0, if_neg (by omega)]
    simp [decN, allR]
  | succ d ih =>
    intro l acc n i k hl h0 h1 h64 hd hk ha
    obtain ⟨k, rfl⟩ : ∃ m, k = m + 1 := ⟨k - 1, by omega⟩
    rw [headgateref01_TakeAll.l0, if_pos (by omega), take_f l (by omega) k (by omega), Option.bind_some]
    cases hdc : dec l with
    | none =>
      rw [takeR_n3, if_neg (by decide)]
      simp only [decN, hdc]
      rfl
    | some p =>
      obtain ⟨x, r⟩ := p
      have hr := (dec_iff _ _ _).1 hdc
      have hrl : r.length ≤ l.length := by rw [hr.1, List.length_append]; omega
      rw [takeR_1, takeR_2, takeR_3, if_pos rfl, if_pos (by omega), w64 (by omega) (by omega), ih r (acc ++ [x]) n (i + 1) k (by omega) (by omega) (by omega) h64 (by omega) (by omega) (by rw [List.length_append, List.length_singleton]; omega)]
      simp only [decN, hdc, Option.bind_some, Option.map_map]
      congr 2
      cases decN d r <;> simp
theorem takeAll_eq (l : List UInt8) (hl : l.length ≤ 9223372036854775800) (n : Int) (k : Nat) (hk : 200 ≤ k) : varint_TakeAll.f k (bs l) n = some (takeAllR l n) := by
  obtain ⟨k, rfl⟩ : ∃ m, k = m + 1 := ⟨k - 1, by omega⟩
  unfold varint_TakeAll.f takeAllR
  rw [varint_TakeAll.j0, if_pos rfl, varint_TakeAll.j0]
  by_cases h0 : n < 0
  · rw [if_pos h0, if_pos (.inl h0)]; rfl
  · rw [if_neg h0]
    by_cases h1 : n > 64
    · rw [if_pos (decide_eq_true h1), if_pos (.inr h1)]; rfl
    · rw [if_neg (by rw [decide_eq_true_eq]; exact h1), if_neg (by omega), takeAll_l0 n.toNat l [] n 0 k hl (by omega) (by omega) (by omega) (by omega) (by omega) (by simp)]
      congr 2
      cases decN n.toNat l <;> simp
theorem rtakeAll_eq (l : List UInt8) (hl : l.length ≤ 9223372036854775800) (n : Int) (k : Nat) (hk : 200 ≤ k) : headgateref01_TakeAll.f k (bs l) n = some (takeAllR l n) := by
  obtain ⟨k, rfl⟩ : ∃ m, k = m + 1 := ⟨k - 1, by omega⟩
  unfold headgateref01_TakeAll.f takeAllR
  rw [headgateref01_TakeAll.j0, if_pos rfl, headgateref01_TakeAll.j0]
  by_cases h0 : n < 0
  · rw [if_pos h0, if_pos (.inl h0)]; rfl
  · rw [if_neg h0]
    by_cases h1 : n > 64
    · rw [if_pos (decide_eq_true h1), if_pos (.inr h1)]; rfl
    · rw [if_neg (by rw [decide_eq_true_eq]; exact h1), if_neg (by omega), rtakeAll_l0 n.toNat l [] n 0 k hl (by omega) (by omega) (by omega) (by omega) (by omega) (by simp)]
      congr 2
      cases decN n.toNat l <;> simp
theorem putAll_eq (l : List Int) (hl : l.length ≤ 1099511627776) (h : ∀ x ∈ l, I64 x) : varint_PutAll.f l = some (bs (l.flatMap enc)) := if_pos ⟨hl, h⟩
theorem rall_l0 (l : List Int) (hl : l.length ≤ 1099511627776) (h : ∀ x ∈ l, I64 x) (d : Nat) : ∀ (i k : Nat), i ≤ l.length → l.length - i = d → d + 20 < k →
    headgateref01_All.l0 k l (bs ((l.take i).flatMap enc)) (i : Int) = some (bs (l.flatMap enc)) := by
  induction d with
  | zero =>
    intro i k hi hd hk
    obtain ⟨k, rfl⟩ : ∃ m, k = m + 1 := ⟨k - 1, by omega⟩
    obtain rfl : i = l.length := by omega
    rw [headgateref01_All.l0, if_neg (by omega), List.take_length]
  | succ d ih =>
    intro i k hi hd hk
    obtain ⟨k, rfl⟩ : ∃ m, k = m + 1 := ⟨k - 1, by omega⟩
    have hlt : i < l.length := by omega
    have hx : I64 (rd l (i : Int)) := h _ (by simp [rd, List.getD_eq_getElem?_getD, List.getElem?_eq_getElem hlt])
    have hlen := varint_PutAll.len (l.take i)
    have hlt2 := List.length_take_le i l
    have he := (enc_len (rd l (i : Int))).2
    rw [headgateref01_All.l0, if_pos (by omega), if_pos (by omega), put_f _ hx k (by omega), Option.bind_some, if_pos (by rw [size_bs, size_bs]; omega), append_bs, ← varint_PutAll.snoc l i hlt, w64 (by omega) (by omega)]
    exact ih (i + 1) k (by omega) (by omega) (by omega)
theorem rall_eq (l : List Int) (hl : l.length ≤ 1099511627776) (h : ∀ x ∈ l, I64 x) (k : Nat) (hk : l.length + 20 < k) : headgateref01_All.f k l = some (bs (l.flatMap enc)) := by
  unfold headgateref01_All.f
  exact rall_l0 l hl h l.length 0 k (by omega) (by omega) hk
end Go.Proofs.Ytpffggpedogifaa.Vp
set_option linter.unusedVariables false
namespace Go.Proofs.Ytpffggpedogifaa.Fc
open Go.RowKit Go.Proofs.Ytpffggpedogifaa.Vm Go.Proofs.Ytpffggpedogifaa.Fa Go.Proofs.Ytpffggpedogifaa.Fb Go.Proofs.Ytpffggpedogifaa.P Go.Proofs.YtpffggpedogifaaW.PrintWords Go.Proofs.YtpffggpedogifaaW.PrintLast
open Go.Proofs.Ytpffggpedogifaa.Vp
def ab (x : Int) : Int := if x < 0 then -x else x
def okA (a : Ag) : Prop := 1 ≤ a.n ∧ a.n ≤ 1099511627776 ∧ a.lo ≤ a.hi ∧ 0 ≤ a.h0 ∧ 0 ≤ a.h1 ∧ 0 ≤ a.h2 ∧ 0 ≤ a.h3 ∧ a.h0 + a.h1 + a.h2 + a.h3 = a.n ∧ ab a.re + ab a.im ≤ a.n
instance (a : Ag) : Decidable (okA a) := by unfold okA; infer_instance
theorem chk_j2 (k : Nat) (a0 a1 a2 a3 a4 a5 a6 a7 a8 a9 : Int) : fold_Check.j2 (k + 1) true a0 a1 a2 a3 a4 a5 a6 a7 a8 a9 = some 1 := by rw [fold_Check.j2, if_pos rfl]
theorem chk_4 (k : Nat) (x a0 a1 a2 a3 a4 a5 a6 a7 a8 a9 : Int) : fold_Check.l0 (k + 2) x false 4 a0 a1 a2 a3 a4 a5 a6 a7 a8 a9 = some 1 := by
  rw [fold_Check.l0, if_neg (by decide), if_neg (by decide), chk_j2]
theorem chk_3 (k : Nat) (x a0 a1 a2 a3 a4 a5 a6 a7 a8 a9 : Int) : fold_Check.l0 (k + 3) x false 3 a0 a1 a2 a3 a4 a5 a6 a7 a8 a9 = some 1 := by
  rw [fold_Check.l0, if_pos (by decide), if_neg (by decide), if_neg (by decide), if_neg (by decide), if_pos rfl, if_neg (by decide), show wrap64 (3 + 1) = 4 by unfold wrap64; decide]
  exact chk_4 k _ _ _ _ _ _ _ _ _ _ _
theorem chk_2 (k : Nat) (x a0 a1 a2 a3 a4 a5 a6 a7 a8 a9 : Int) : fold_Check.l0 (k + 4) x false 2 a0 a1 a2 a3 a4 a5 a6 a7 a8 a9 = some 1 := by
  rw [fold_Check.l0, if_pos (by decide), if_neg (by decide), if_neg (by decide), if_pos rfl, if_neg (by decide), show wrap64 (2 + 1) = 3 by unfold wrap64; decide]
  exact chk_3 k _ _ _ _ _ _ _ _ _ _ _
theorem chk_1 (k : Nat) (x a0 a1 a2 a3 a4 a5 a6 a7 a8 a9 : Int) : fold_Check.l0 (k + 5) x false 1 a0 a1 a2 a3 a4 a5 a6 a7 a8 a9 = some 1 := by
  rw [fold_Check.l0, if_pos (by decide), if_neg (by decide), if_pos rfl, if_neg (by decide), show wrap64 (1 + 1) = 2 by unfold wrap64; decide]
  exact chk_2 k _ _ _ _ _ _ _ _ _ _ _
theorem chk_0 (k : Nat) (x a0 a1 a2 a3 a4 a5 a6 a7 a8 a9 : Int) : fold_Check.l0 (k + 6) x false 0 a0 a1 a2 a3 a4 a5 a6 a7 a8 a9 = some 1 := by
  rw [fold_Check.l0, if_pos (by decide), if_pos rfl, if_neg (by decide), show wrap64 (0 + 1) = 1 by unfold wrap64; decide]
  exact chk_1 k _ _ _ _ _ _ _ _ _ _ _
theorem ab_cases (x : Int) : (x < 0 ∧ ab x = -x) ∨ (0 ≤ x ∧ ab x = x) := by
  unfold ab
  by_cases h : x < 0
  · rw [if_pos h]; omega
  · rw [if_neg h]; omega
theorem far_eq {x n : Int} (hx : I64 x) (h1 : 1 ≤ n) (h2 : n ≤ 1099511627776) : fold_far.f x n = if ab x ≤ n then some (ab x, true) else some (0, false) := by
  unfold I64 at hx
  have ha := ab_cases x
  generalize ab x = y at ha
  unfold fold_far.f
  rw [w64 (x := -n) (by omega) (by omega)]
  by_cases c : x < -n
  · rw [if_pos c, if_neg (show ¬ y ≤ n by omega)]
  · rw [if_neg c]
    by_cases d : x > n
    · rw [if_pos d, if_neg (show ¬ y ≤ n by omega)]
    · rw [if_neg d, w64 (x := -x) (by omega) (by omega), if_pos (show y ≤ n by omega)]
      unfold mx
      by_cases e : x < 0
      · rw [if_pos (show x < -x by omega)]; congr 2; omega
      · rw [if_neg (show ¬ x < -x by omega)]; congr 2; omega
theorem ab_nn (x : Int) : 0 ≤ ab x := by have := ab_cases x; omega
theorem chk_end {a : Ag} (ha : a.I) (h1 : 1 ≤ a.n) (h2 : a.n ≤ 1099511627776) (k : Nat) : fold_Check.j2 (k + 1) false a.n a.s a.lo a.hi a.h0 a.h1 a.h2 a.h3 a.re a.im = some (if ab a.re + ab a.im ≤ a.n then 0 else 1) := by
  have p := ab_nn a.re
  have q := ab_nn a.im
  rw [fold_Check.j2, if_neg (by decide), far_eq ha.re h1 h2]
  by_cases c : ab a.re ≤ a.n
  · rw [if_pos c, Option.bind_some, far_eq ha.im h1 h2]
    by_cases d : ab a.im ≤ a.n
    · rw [if_pos d, Option.bind_some, if_pos rfl, if_pos rfl, w64 (by omega) (by omega)]
      by_cases e : ab a.re + ab a.im ≤ a.n
      · rw [if_neg (by omega), if_pos e]
      · rw [if_pos (by omega), if_neg e]
    · rw [if_neg d, Option.bind_some, if_pos rfl, if_neg (by decide), if_neg (by omega)]
  · rw [if_neg c, Option.bind_some, far_eq ha.im h1 h2]
    by_cases d : ab a.im ≤ a.n
    · rw [if_pos d, Option.bind_some, if_neg (by decide), if_neg (by omega)]
    · rw [if_neg d, Option.bind_some, if_neg (by decide), if_neg (by omega)]
theorem check_eq {a : Ag} (ha : a.I) (k : Nat) (hk : 20 ≤ k) : fold_Check.f k a.n a.s a.lo a.hi a.h0 a.h1 a.h2 a.h3 a.re a.im = some (if okA a then 0 else 1) := by
  obtain ⟨k, rfl⟩ : ∃ m, k = m + 7 := ⟨k - 7, by omega⟩
  have i0 := ha.h0; have i1 := ha.h1; have i2 := ha.h2; have i3 := ha.h3
  unfold I64 at i0 i1 i2 i3
  unfold fold_Check.f
  by_cases c1 : a.n ≥ 1
  · rw [if_pos c1]
    by_cases c2 : a.n ≤ 1099511627776
    · rw [if_pos c2, fold_Check.j0]
      by_cases c3 : a.lo ≤ a.hi
      · rw [decide_eq_true c3, fold_Check.l0, if_pos (by decide), if_pos rfl, if_pos rfl]
        by_cases p0 : a.h0 ≥ 0
        · rw [if_pos p0]
          by_cases q0 : a.h0 ≤ a.n
          · rw [decide_eq_true q0, w64 (x := a.n - a.h0) (by omega) (by omega), show wrap64 (0 + 1) = 1 by unfold wrap64; decide, fold_Check.l0, if_pos (by decide), if_neg (by decide), if_pos rfl, if_pos rfl]
            by_cases p1 : a.h1 ≥ 0
            · rw [if_pos p1]
              by_cases q1 : a.h1 ≤ a.n - a.h0
              · rw [decide_eq_true q1, w64 (x := a.n - a.h0 - a.h1) (by omega) (by omega), show wrap64 (1 + 1) = 2 by unfold wrap64; decide, fold_Check.l0, if_pos (by decide), if_neg (by decide), if_neg (by decide), if_pos rfl, if_pos rfl]
                by_cases p2 : a.h2 ≥ 0
                · rw [if_pos p2]
                  by_cases q2 : a.h2 ≤ a.n - a.h0 - a.h1
                  · rw [decide_eq_true q2, w64 (x := a.n - a.h0 - a.h1 - a.h2) (by omega) (by omega), show wrap64 (2 + 1) = 3 by unfold wrap64; decide, fold_Check.l0, if_pos (by decide), if_neg (by decide), if_neg (by decide), if_neg (by decide), if_pos rfl, if_pos rfl]
                    by_cases p3 : a.h3 ≥ 0
                    · rw [if_pos p3]
                      by_cases q3 : a.h3 ≤ a.n - a.h0 - a.h1 - a.h2
                      · rw [decide_eq_true q3, w64 (x := a.n - a.h0 - a.h1 - a.h2 - a.h3) (by omega) (by omega), show wrap64 (3 + 1) = 4 by unfold wrap64; decide, fold_Check.l0, if_neg (by decide), if_pos rfl]
                        by_cases z : a.n - a.h0 - a.h1 - a.h2 - a.h3 = 0
                        · rw [z, bne_self_eq_false, chk_end ha c1 c2]
                          by_cases e : ab a.re + ab a.im ≤ a.n
                          · rw [if_pos e, if_pos (by unfold okA; omega)]
                          · rw [if_neg e, if_neg (by unfold okA; omega)]
                        · rw [bne_iff_ne.2 z, chk_j2, if_neg (by unfold okA; omega)]
                      · rw [decide_eq_false q3, show wrap64 (3 + 1) = 4 by unfold wrap64; decide, chk_4, if_neg (by unfold okA; omega)]
                    · rw [if_neg p3, show wrap64 (3 + 1) = 4 by unfold wrap64; decide, chk_4, if_neg (by unfold okA; omega)]
                  · rw [decide_eq_false q2, show wrap64 (2 + 1) = 3 by unfold wrap64; decide, chk_3, if_neg (by unfold okA; omega)]
                · rw [if_neg p2, show wrap64 (2 + 1) = 3 by unfold wrap64; decide, chk_3, if_neg (by unfold okA; omega)]
              · rw [decide_eq_false q1, show wrap64 (1 + 1) = 2 by unfold wrap64; decide, chk_2, if_neg (by unfold okA; omega)]
            · rw [if_neg p1, show wrap64 (1 + 1) = 2 by unfold wrap64; decide, chk_2, if_neg (by unfold okA; omega)]
          · rw [decide_eq_false q0, show wrap64 (0 + 1) = 1 by unfold wrap64; decide, chk_1, if_neg (by unfold okA; omega)]
        · rw [if_neg p0, show wrap64 (0 + 1) = 1 by unfold wrap64; decide, chk_1, if_neg (by unfold okA; omega)]
      · rw [decide_eq_false c3, chk_0, if_neg (by unfold okA; omega)]
    · rw [if_neg c2, fold_Check.j0, chk_0, if_neg (by unfold okA; omega)]
  · rw [if_neg c1, fold_Check.j0, chk_0, if_neg (by unfold okA; omega)]
theorem may_j2 (k : Nat) (a0 a1 a2 a3 a4 a5 a6 a7 a8 a9 : Int) : headgateref15_May.j2 (k + 1) true a0 a1 a2 a3 a4 a5 a6 a7 a8 a9 = some false := by rw [headgateref15_May.j2, if_pos rfl]
theorem may_end {a : Ag} (ha : a.I) (h1 : 1 ≤ a.n) (h2 : a.n ≤ 1099511627776) (r1 : -1099511627776 ≤ a.re) (r2 : a.re ≤ 1099511627776) (m1 : -1099511627776 ≤ a.im) (m2 : a.im ≤ 1099511627776) (k : Nat) :
    headgateref15_May.j2 (k + 1) false a.n a.s a.lo a.hi a.h0 a.h1 a.h2 a.h3 a.re a.im = some (decide (ab a.re + ab a.im ≤ a.n)) := by
  rw [headgateref15_May.j2, if_neg (by decide)]
  unfold ab
  by_cases c : a.re < 0
  · rw [if_pos c, if_pos c, w64 (x := -a.re) (by omega) (by omega)]
    by_cases d : a.im < 0
    · rw [if_pos d, if_pos d, w64 (x := -a.im) (by omega) (by omega), w64 (by omega) (by omega)]
    · rw [if_neg d, if_neg d, w64 (by omega) (by omega)]
  · rw [if_neg c, if_neg c]
    by_cases d : a.im < 0
    · rw [if_pos d, if_pos d, w64 (x := -a.im) (by omega) (by omega), w64 (by omega) (by omega)]
    · rw [if_neg d, if_neg d, w64 (by omega) (by omega)]
theorem okA_ab {a : Ag} (h : okA a) : -1099511627776 ≤ a.re ∧ a.re ≤ 1099511627776 ∧ -1099511627776 ≤ a.im ∧ a.im ≤ 1099511627776 := by
  obtain ⟨h1, h2, h3, h4, h5, h6, h7, h8, h9⟩ := h
  have p := ab_cases a.re
  have q := ab_cases a.im
  omega
theorem may_eq {a : Ag} (ha : a.I) (k : Nat) (hk : 20 ≤ k) : headgateref15_May.f k a.n a.s a.lo a.hi a.h0 a.h1 a.h2 a.h3 a.re a.im = some (decide (okA a)) := by
  obtain ⟨k, rfl⟩ : ∃ m, k = m + 7 := ⟨k - 7, by omega⟩
  have B := @okA_ab a
  unfold headgateref15_May.f
  by_cases c1 : a.n < 1
  · rw [if_pos c1, headgateref15_May.j0, if_pos rfl, decide_eq_false (by unfold okA; omega)]
  · rw [if_neg c1]
    by_cases c2 : a.n > 1099511627776
    · rw [if_pos c2, headgateref15_May.j0, if_pos rfl, decide_eq_false (by unfold okA; omega)]
    · rw [if_neg c2, headgateref15_May.j0]
      by_cases c3 : a.lo > a.hi
      · rw [if_pos (decide_eq_true c3), decide_eq_false (by unfold okA; omega)]
      · rw [if_neg (by simpa using c3), headgateref15_May.l0, if_pos (by decide), if_pos rfl]
        by_cases p0 : a.h0 < 0
        · rw [if_pos p0, decide_eq_false (by unfold okA; omega)]
        · rw [if_neg p0]
          by_cases q0 : a.h0 > 1099511627776
          · rw [if_pos q0, decide_eq_false (by unfold okA; omega)]
          · rw [if_neg q0, Int.zero_add, w64 (x := a.h0) (by omega) (by omega), show wrap64 (0 + 1) = 1 by unfold wrap64; decide, headgateref15_May.l0, if_pos (by decide), if_neg (by decide), if_pos rfl]
            by_cases p1 : a.h1 < 0
            · rw [if_pos p1, decide_eq_false (by unfold okA; omega)]
            · rw [if_neg p1]
              by_cases q1 : a.h1 > 1099511627776
              · rw [if_pos q1, decide_eq_false (by unfold okA; omega)]
              · rw [if_neg q1, w64 (x := a.h0 + a.h1) (by omega) (by omega), show wrap64 (1 + 1) = 2 by unfold wrap64; decide, headgateref15_May.l0, if_pos (by decide), if_neg (by decide), if_neg (by decide), if_pos rfl]
                by_cases p2 : a.h2 < 0
                · rw [if_pos p2, decide_eq_false (by unfold okA; omega)]
                · rw [if_neg p2]
                  by_cases q2 : a.h2 > 1099511627776
                  · rw [if_pos q2, decide_eq_false (by unfold okA; omega)]
                  · rw [if_neg q2, w64 (x := a.h0 + a.h1 + a.h2) (by omega) (by omega), show wrap64 (2 + 1) = 3 by unfold wrap64; decide, headgateref15_May.l0, if_pos (by decide), if_neg (by decide), if_neg (by decide), if_neg (by decide), if_pos rfl]
                    by_cases p3 : a.h3 < 0
                    · rw [if_pos p3, decide_eq_false (by unfold okA; omega)]
                    · rw [if_neg p3]
                      by_cases q3 : a.h3 > 1099511627776
                      · rw [if_pos q3, decide_eq_false (by unfold okA; omega)]
                      · rw [if_neg q3, w64 (x := a.h0 + a.h1 + a.h2 + a.h3) (by omega) (by omega), show wrap64 (3 + 1) = 4 by unfold wrap64; decide, headgateref15_May.l0, if_neg (by decide)]
                        by_cases z : a.h0 + a.h1 + a.h2 + a.h3 = a.n
                        · rw [if_pos z]
                          by_cases r1 : a.re < -1099511627776
                          · rw [if_pos r1, may_j2, decide_eq_false (fun h => by have := B h; omega)]
                          · rw [if_neg r1]
                            by_cases r2 : a.re > 1099511627776
                            · rw [if_pos r2, may_j2, decide_eq_false (fun h => by have := B h; omega)]
                            · rw [if_neg r2]
                              by_cases m1 : a.im < -1099511627776
                              · rw [if_pos m1, may_j2, decide_eq_false (fun h => by have := B h; omega)]
                              · rw [if_neg m1]
                                by_cases m2 : a.im > 1099511627776
                                · rw [decide_eq_true m2, may_j2, decide_eq_false (fun h => by have := B h; omega)]
                                · rw [decide_eq_false m2, may_end ha (by omega) (by omega) (by omega) (by omega) (by omega) (by omega)]
                                  congr 1
                                  by_cases e : ab a.re + ab a.im ≤ a.n
                                  · rw [decide_eq_true e, decide_eq_true (by unfold okA; omega)]
                                  · rw [decide_eq_false e, decide_eq_false (by unfold okA; omega)]
                        · rw [if_neg z, may_j2, decide_eq_false (by unfold okA; omega)]
def Ag.L (a : Ag) : List Int := [a.n, a.s, a.lo, a.hi, a.h0, a.h1, a.h2, a.h3, a.re, a.im]
theorem L_i64 {a : Ag} (h : a.I) : ∀ x ∈ Ag.L a, I64 x := by
  intro x hx
  unfold Ag.L at hx
  simp only [List.mem_cons, List.not_mem_nil, or_false] at hx
  rcases hx with rfl | rfl | rfl | rfl | rfl | rfl | rfl | rfl | rfl | rfl
  · exact h.n
  · exact h.s
  · exact h.lo
  · exact h.hi
  · exact h.h0
  · exact h.h1
  · exact h.h2
  · exact h.h3
  · exact h.re
  · exact h.im
def encA (a : Ag) : List UInt8 := (Ag.L a).flatMap enc
def encR (a : Ag) : ByteArray × Int := if okA a then (bs (encA a), 0) else (bs [], 1)
theorem encode_eq {a : Ag} (ha : a.I) (k : Nat) (hk : 20 ≤ k) : fold_Encode.f k a.n a.s a.lo a.hi a.h0 a.h1 a.h2 a.h3 a.re a.im = some (encR a) := by
  unfold fold_Encode.f encR
  rw [check_eq ha k hk, Option.bind_some]
  by_cases c : okA a
  · rw [if_pos c, if_pos rfl, show varint_PutAll.f [a.n, a.s, a.lo, a.hi, a.h0, a.h1, a.h2, a.h3, a.re, a.im] = some (bs (encA a)) from putAll_eq (Ag.L a) (by show (10 : Nat) ≤ 1099511627776; decide) (L_i64 ha), Option.bind_some, if_pos c]
  · rw [if_neg c, if_neg (by decide), if_neg c]
    rfl
theorem rencode_eq {a : Ag} (ha : a.I) (k : Nat) (hk : 40 ≤ k) : headgateref15_Encode.f k a.n a.s a.lo a.hi a.h0 a.h1 a.h2 a.h3 a.re a.im = some (encR a) := by
  unfold headgateref15_Encode.f encR
  rw [may_eq ha k (by omega), Option.bind_some]
  by_cases c : okA a
  · rw [if_pos (decide_eq_true c), show headgateref01_All.f k [a.n, a.s, a.lo, a.hi, a.h0, a.h1, a.h2, a.h3, a.re, a.im] = some (bs (encA a)) from rall_eq (Ag.L a) (by show (10 : Nat) ≤ 1099511627776; decide) (L_i64 ha) k (by show 10 + 20 < k; omega), Option.bind_some, if_pos c]
  · rw [if_neg (by simpa using c), if_neg c]
    rfl
abbrev T11 := Int × Int × Int × Int × Int × Int × Int × Int × Int × Int × Int
def t1 (a : Ag) (e : Int) : T11 := (a.n, a.s, a.lo, a.hi, a.h0, a.h1, a.h2, a.h3, a.re, a.im, e)
def ofL (l : List Int) : Ag := ⟨l.getD 0 0, l.getD 1 0, l.getD 2 0, l.getD 3 0, l.getD 4 0, l.getD 5 0, l.getD 6 0, l.getD 7 0, l.getD 8 0, l.getD 9 0⟩
def decA (l : List UInt8) : Option Ag := match decN 10 l with
  | some (xs, []) => if okA (ofL xs) then some (ofL xs) else none
  | _ => none
def decR (l : List UInt8) : T11 := match decA l with
  | some a => t1 a 0
  | none => t1 zero 2
theorem ten {xs : List Int} (h : xs.length = 10) : ∃ a b c d e f g i j m, xs = [a, b, c, d, e, f, g, i, j, m] := by
  match xs, h with
  | [a, b, c, d, e, f, g, i, j, m], _ => exact ⟨a, b, c, d, e, f, g, i, j, m, rfl⟩
theorem takeAll10 (l : List UInt8) : takeAllR l 10 = allR (decN 10 l) := rfl
theorem decA_none {l : List UInt8} (h : decN 10 l = none) : decA l = none := by unfold decA; rw [h]
theorem decode_eq (l : List UInt8) (hl : l.length ≤ 9223372036854775800) (k : Nat) (hk : 200 ≤ k) : fold_Decode.f k (bs l) = some (decR l) := by
  obtain ⟨k, rfl⟩ : ∃ m, k = m + 1 := ⟨k - 1, by omega⟩
  unfold fold_Decode.f
  rw [takeAll_eq l hl 10 (k + 1) hk, Option.bind_some, takeAll10]
  cases hd : decN 10 l with
  | none =>
    have e : decR l = t1 zero 2 := by unfold decR; rw [decA_none hd]
    rw [e, if_neg (by unfold allR; decide), fold_Decode.j0, if_pos rfl]
    rfl
  | some p =>
    obtain ⟨xs, r⟩ := p
    obtain ⟨hlr, hlen, hI⟩ := (decN_iff 10 l xs r).1 hd
    obtain ⟨x0, x1, x2, x3, x4, x5, x6, x7, x8, x9, rfl⟩ := ten hlen
    have hA : (⟨x0, x1, x2, x3, x4, x5, x6, x7, x8, x9⟩ : Ag).I := ⟨hI _ (by simp), hI _ (by simp), hI _ (by simp), hI _ (by simp), hI _ (by simp), hI _ (by simp), hI _ (by simp), hI _ (by simp), hI _ (by simp), hI _ (by simp)⟩
    rw [show (allR (some ([x0, x1, x2, x3, x4, x5, x6, x7, x8, x9], r))).2.2 = 0 from rfl, if_pos rfl, show (allR (some ([x0, x1, x2, x3, x4, x5, x6, x7, x8, x9], r))).1 = [x0, x1, x2, x3, x4, x5, x6, x7, x8, x9] from rfl, show (allR (some ([x0, x1, x2, x3, x4, x5, x6, x7, x8, x9], r))).2.1 = bs r from rfl, toList_bs, fold_Decode.j0]
    cases r with
    | cons c t =>
      have e : decR l = t1 zero 2 := by unfold decR decA; rw [hd]
      rw [e, if_pos (by simp)]
      rfl
    | nil =>
      rw [if_neg (by simp), if_pos (by simp), if_pos (by simp), if_pos (by simp), if_pos (by simp), if_pos (by decide), if_pos (by simp), Option.bind_some, show ([x0, x1, x2, x3, x4, x5, x6, x7, x8, x9].take 8).drop 4 = [x4, x5, x6, x7] from rfl, if_pos (by simp), if_pos (by simp), if_pos (by simp), if_pos (by simp), if_pos (by simp), if_pos (by simp), if_pos (by simp)]
      rw [show fold_Check.f k (rd [x0, x1, x2, x3, x4, x5, x6, x7, x8, x9] 0) (rd [x0, x1, x2, x3, x4, x5, x6, x7, x8, x9] 1) (rd [x0, x1, x2, x3, x4, x5, x6, x7, x8, x9] 2) (rd [x0, x1, x2, x3, x4, x5, x6, x7, x8, x9] 3) (rd [x4, x5, x6, x7] 0) (rd [x4, x5, x6, x7] 1) (rd [x4, x5, x6, x7] 2) (rd [x4, x5, x6, x7] 3) (rd [x0, x1, x2, x3, x4, x5, x6, x7, x8, x9] 8) (rd [x0, x1, x2, x3, x4, x5, x6, x7, x8, x9] 9) = _ from check_eq hA k (by omega), Option.bind_some]
      unfold decR decA
      rw [hd]
      show _ = some (match (if okA ⟨x0, x1, x2, x3, x4, x5, x6, x7, x8, x9⟩ then some (⟨x0, x1, x2, x3, x4, x5, x6, x7, x8, x9⟩ : Ag) else none) with | some a => t1 a 0 | none => t1 zero 2)
      by_cases c : okA ⟨x0, x1, x2, x3, x4, x5, x6, x7, x8, x9⟩
      · rw [if_pos c, if_pos rfl, if_pos c]
        rfl
      · rw [if_neg c, if_neg (by decide), if_neg c]
        rfl
theorem rdecode_l0 (x0 x1 x2 x3 x4 x5 x6 x7 x8 x9 : Int) (hA : (⟨x0, x1, x2, x3, x4, x5, x6, x7, x8, x9⟩ : Ag).I) (k : Nat) (hk : 100 ≤ k) :
    headgateref15_Decode.l0 k [x0, x1, x2, x3, x4, x5, x6, x7, x8, x9] 0 x0 x1 x2 x3 0 0 0 0 x8 x9 = some (if okA ⟨x0, x1, x2, x3, x4, x5, x6, x7, x8, x9⟩ then t1 (⟨x0, x1, x2, x3, x4, x5, x6, x7, x8, x9⟩ : Ag) 0 else t1 zero 2) := by
  obtain ⟨k, rfl⟩ : ∃ m, k = m + 5 := ⟨k - 5, by omega⟩
  rw [headgateref15_Decode.l0, if_pos (by decide), show wrap64 (4 + 0) = 4 by unfold wrap64; decide, if_pos (by decide), if_pos (by simp), if_pos rfl, show wrap64 (0 + 1) = 1 by unfold wrap64; decide, show rd [x0, x1, x2, x3, x4, x5, x6, x7, x8, x9] 4 = x4 from rfl]
  rw [headgateref15_Decode.l0, if_pos (by decide), show wrap64 (4 + 1) = 5 by unfold wrap64; decide, if_pos (by decide), if_pos (by simp), if_neg (by decide), if_pos rfl, show wrap64 (1 + 1) = 2 by unfold wrap64; decide, show rd [x0, x1, x2, x3, x4, x5, x6, x7, x8, x9] 5 = x5 from rfl]
  rw [headgateref15_Decode.l0, if_pos (by decide), show wrap64 (4 + 2) = 6 by unfold wrap64; decide, if_pos (by decide), if_pos (by simp), if_neg (by decide), if_neg (by decide), if_pos rfl, show wrap64 (2 + 1) = 3 by unfold wrap64; decide, show rd [x0, x1, x2, x3, x4, x5, x6, x7, x8, x9] 6 = x6 from rfl]
  rw [headgateref15_Decode.l0, if_pos (by decide), show wrap64 (4 + 3) = 7 by unfold wrap64; decide, if_pos (by decide), if_pos (by simp), if_neg (by decide), if_neg (by decide), if_neg (by decide), if_pos rfl, show wrap64 (3 + 1) = 4 by unfold wrap64; decide, show rd [x0, x1, x2, x3, x4, x5, x6, x7, x8, x9] 7 = x7 from rfl]
  rw [headgateref15_Decode.l0, if_neg (by decide), show headgateref15_May.f k x0 x1 x2 x3 x4 x5 x6 x7 x8 x9 = _ from may_eq hA k (by omega), Option.bind_some]
  by_cases c : okA ⟨x0, x1, x2, x3, x4, x5, x6, x7, x8, x9⟩
  · rw [if_pos (decide_eq_true c), if_pos c]
    rfl
  · rw [if_neg (by simpa using c), if_neg c]
    rfl
theorem rdecode_eq (l : List UInt8) (hl : l.length ≤ 9223372036854775800) (k : Nat) (hk : 300 ≤ k) : headgateref15_Decode.f k (bs l) = some (decR l) := by
  obtain ⟨k, rfl⟩ : ∃ m, k = m + 1 := ⟨k - 1, by omega⟩
  unfold headgateref15_Decode.f
  rw [rtakeAll_eq l hl 10 (k + 1) (by omega), Option.bind_some, takeAll10]
  cases hd : decN 10 l with
  | none =>
    have e : decR l = t1 zero 2 := by unfold decR; rw [decA_none hd]
    rw [e, if_neg (by unfold allR; decide), headgateref15_Decode.j0, if_pos rfl]
    rfl
  | some p =>
    obtain ⟨xs, r⟩ := p
    obtain ⟨hlr, hlen, hI⟩ := (decN_iff 10 l xs r).1 hd
    obtain ⟨x0, x1, x2, x3, x4, x5, x6, x7, x8, x9, rfl⟩ := ten hlen
    have hA : (⟨x0, x1, x2, x3, x4, x5, x6, x7, x8, x9⟩ : Ag).I := ⟨hI _ (by simp), hI _ (by simp), hI _ (by simp), hI _ (by simp), hI _ (by simp), hI _ (by simp), hI _ (by simp), hI _ (by simp), hI _ (by simp), hI _ (by simp)⟩
    rw [show (allR (some ([x0, x1, x2, x3, x4, x5, x6, x7, x8, x9], r))).2.2 = 0 from rfl, if_pos rfl, show (allR (some ([x0, x1, x2, x3, x4, x5, x6, x7, x8, x9], r))).1 = [x0, x1, x2, x3, x4, x5, x6, x7, x8, x9] from rfl, show (allR (some ([x0, x1, x2, x3, x4, x5, x6, x7, x8, x9], r))).2.1 = bs r from rfl, size_bs, headgateref15_Decode.j0]
    cases r with
    | cons c t =>
      have e : decR l = t1 zero 2 := by unfold decR decA; rw [hd]
      rw [e, if_pos (by simp)]
      rfl
    | nil =>
      rw [if_neg (by simp), if_pos (by simp), if_pos (by simp), if_pos (by simp), if_pos (by simp), if_pos (by simp), if_pos (by simp)]
      rw [show headgateref15_Decode.l0 k [x0, x1, x2, x3, x4, x5, x6, x7, x8, x9] 0 (rd [x0, x1, x2, x3, x4, x5, x6, x7, x8, x9] 0) (rd [x0, x1, x2, x3, x4, x5, x6, x7, x8, x9] 1) (rd [x0, x1, x2, x3, x4, x5, x6, x7, x8, x9] 2) (rd [x0, x1, x2, x3, x4, x5, x6, x7, x8, x9] 3) 0 0 0 0 (rd [x0, x1, x2, x3, x4, x5, x6, x7, x8, x9] 8) (rd [x0, x1, x2, x3, x4, x5, x6, x7, x8, x9] 9) = _ from rdecode_l0 x0 x1 x2 x3 x4 x5 x6 x7 x8 x9 hA k (by omega)]
      unfold decR decA
      rw [hd]
      show _ = some (match (if okA ⟨x0, x1, x2, x3, x4, x5, x6, x7, x8, x9⟩ then some (⟨x0, x1, x2, x3, x4, x5, x6, x7, x8, x9⟩ : Ag) else none) with | some a => t1 a 0 | none => t1 zero 2)
      by_cases c : okA ⟨x0, x1, x2, x3, x4, x5, x6, x7, x8, x9⟩
      · rw [if_pos c, if_pos c]
      · rw [if_neg c, if_neg c]
end Go.Proofs.Ytpffggpedogifaa.Fc
set_option linter.unusedVariables false
namespace Go.Proofs.Ytpffggpedogifaa.Pure
open Go.RowKit Go.Proofs.Ytpffggpedogifaa.Vm Go.Proofs.Ytpffggpedogifaa.Fa Go.Proofs.Ytpffggpedogifaa.Fc Go.Proofs.Ytpffggpedogifaa.P Go.Proofs.YtpffggpedogifaaW.PrintWords Go.Proofs.YtpffggpedogifaaW.PrintLast
theorem FoldCodes : headgatelaw15_FoldCodes.Pure := by
  intro a0 a1 a2 a3 a4 a5 a6 a7 a8 a9 b h0 h1 h2 h3 h4 h5 h6 h7 h8 h9 hb
  obtain ⟨l, rfl⟩ := bs_of b
  refine ⟨400, ?_⟩
  have ha : (⟨a0, a1, a2, a3, a4, a5, a6, a7, a8, a9⟩ : Ag).I := ⟨i64_of h0, i64_of h1, i64_of h2, i64_of h3, i64_of h4, i64_of h5, i64_of h6, i64_of h7, i64_of h8, i64_of h9⟩
  unfold headgatelaw15_FoldCodes.f
  rw [size_bs]
  by_cases c : (l.length : Int) > 1000
  · rw [if_pos c, awake_eq _ (by omega), Option.bind_some]
  · rw [if_neg c, show fold_Encode.f 400 a0 a1 a2 a3 a4 a5 a6 a7 a8 a9 = _ from encode_eq ha 400 (by omega), Option.bind_some, show headgateref15_Encode.f 400 a0 a1 a2 a3 a4 a5 a6 a7 a8 a9 = _ from rencode_eq ha 400 (by omega), Option.bind_some, decode_eq l (by omega) _ (by omega), Option.bind_some, rdecode_eq l (by omega) _ (by omega), Option.bind_some, if_pos rfl, if_pos rfl, if_pos (by simp), if_pos rfl, show fold_Check.f 400 a0 a1 a2 a3 a4 a5 a6 a7 a8 a9 = _ from check_eq ha 400 (by omega), Option.bind_some]
    rw [if_pos (by unfold encR; by_cases k : okA ⟨a0, a1, a2, a3, a4, a5, a6, a7, a8, a9⟩ <;> simp [k]), awake_eq _ (by omega), Option.bind_some]
end Go.Proofs.Ytpffggpedogifaa.Pure
