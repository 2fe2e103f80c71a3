/- The sketch's buckets (sketch, headgateref29): what the functions come to. -/
import Derived.Test.YtgijangnoekbjaaPx2
import Derived.Test.YtgijangnoekbjaaPx2
import Derived.Test.YtgijangnoekbjaaPx2
import Derived.Test.YtgijangnoekbjaaPx2
import Derived.Test.YtgijangnoekbjaaSm
import Derived.Test.YtgijangnoekbjaaVm
import Derived.Laws.Bits64
set_option linter.unusedVariables false
set_option linter.unusedSimpArgs false
namespace Go.Proofs.Ytgijangnoekbjaa.Sp
open Go.RowKit Go.Proofs.Ytgijangnoekbjaa.Vm Go.Proofs.Ytgijangnoekbjaa.Sm Go.Proofs.Ytgijangnoekbjaa.P Go.Proofs.YtgijangnoekbjaaW.PrintWords

theorem w64 {x : Int} (h0 : -9223372036854775808 ≤ x) (h1 : x ≤ 9223372036854775807) : wrap64 x = x := by unfold wrap64; omega
theorem i64_of {n : Int} (h : (Lit.int .i64 n).wf = true) : I64 n := by
  simp only [Lit.wf, IntKind.min, IntKind.max, IntKind.signed, IntKind.bits, Bool.and_eq_true, decide_eq_true_eq, if_true] at h
  unfold I64
  omega
def endsR (b : Int) : Int × Int × Int := if -960 ≤ b ∧ b < 960 then (lo b, lo (b + 1) - 1, 0) else (0, 0, 1)
theorem of_eq {v : Int} (h : I64 v) : sketch_Of.f v = some (bk v) := if_pos h
theorem lo_neg (a : Nat) : lo (-1 - (a : Int)) = -(lst (a + 1) : Int) ∧ lo (-1 - (a : Int) + 1) = -(lst a : Int) := by
  constructor
  · unfold lo; rw [if_pos (by omega), show (-(-1 - (a : Int))).toNat = a + 1 by omega]
  · unfold lo
    by_cases h1 : -1 - (a : Int) + 1 < 0
    · rw [if_pos h1, show (-(-1 - (a : Int) + 1)).toNat = a by omega]
    · obtain rfl : a = 0 := by omega
      rw [if_neg h1, show (-1 - ((0 : Nat) : Int) + 1).toNat = 0 by omega]
      decide
theorem lo_pos (a : Nat) : lo (a : Int) = (lst a : Int) ∧ lo ((a : Int) + 1) = (lst (a + 1) : Int) := by
  constructor
  · unfold lo; rw [if_neg (by omega), Int.toNat_natCast]
  · unfold lo; rw [if_neg (by omega), show ((a : Int) + 1).toNat = a + 1 by omega]
theorem lst_959 (a : Nat) (h : a + 1 < 960) : lst (a + 1) < 9223372036854775808 := by
  have h1 := lst_lt (a + 1)
  have h2 : lst (a + 1 + 1) ≤ lst 960 := lst_mono (by omega)
  rw [lst_960] at h2
  omega
theorem ends_eq {b : Int} (h : I64 b) : sketch_Ends.f b = some (endsR b) := by
  have his : sketch_is.f b = some (decide (-960 ≤ b ∧ b < 960)) := if_pos h
  have hx := Len.notx b h
  unfold sketch_Ends.f endsR
  rw [his, Option.bind_some]
  by_cases hr : -960 ≤ b ∧ b < 960
  · rw [if_pos (decide_eq_true hr), if_pos hr]
    by_cases h0 : b < 0
    · obtain ⟨a, rfl⟩ : ∃ a : Nat, b = -1 - (a : Int) := ⟨(-1 - b).toNat, by omega⟩
      have hm : mx (-1 - (a : Int)) (Go.bits .xor .i64 (-1) (-1 - (a : Int))) = (a : Int) := by rw [hx]; unfold mx; split <;> omega
      have hl : sketch_least.f (a : Int) = some (lst a : Int) := if_pos (by omega)
      obtain ⟨e1, e2⟩ := lo_neg a
      have hb := lst_lt a
      rw [hm, hl, Option.bind_some, w64 (by omega) (by omega), e1, e2]
      by_cases h9 : a + 1 < 960
      · have hl2 : sketch_least.f ((a : Int) + 1) = some (lst (a + 1) : Int) := if_pos (by omega)
        have hb9 := lst_959 a h9
        rw [if_pos (by omega), hl2, Option.bind_some, if_pos h0, w64 (by omega) (by omega), Len.notx _ (by unfold I64; omega), Len.notx _ (by unfold I64; omega)]
        simp only [Option.some.injEq, Prod.mk.injEq]
        exact ⟨by omega, by omega, trivial⟩
      · obtain rfl : a = 959 := by omega
        have e9 : lst (959 + 1) = 9223372036854775808 := lst_960
        rw [e9] at hb ⊢
        rw [if_neg (by omega), if_pos h0, Len.notx _ (by unfold I64; omega), Len.notx _ (by unfold I64; omega)]
        simp only [Option.some.injEq, Prod.mk.injEq]
        exact ⟨by omega, by omega, trivial⟩
    · obtain ⟨a, rfl⟩ : ∃ a : Nat, b = (a : Int) := ⟨b.toNat, by omega⟩
      have hm : mx (a : Int) (Go.bits .xor .i64 (-1) (a : Int)) = (a : Int) := by rw [hx]; unfold mx; split <;> omega
      have hl : sketch_least.f (a : Int) = some (lst a : Int) := if_pos (by omega)
      obtain ⟨e1, e2⟩ := lo_pos a
      have hb := lst_lt a
      rw [hm, hl, Option.bind_some, w64 (by omega) (by omega), e1, e2]
      by_cases h9 : a + 1 < 960
      · have hl2 : sketch_least.f ((a : Int) + 1) = some (lst (a + 1) : Int) := if_pos (by omega)
        have hb9 := lst_959 a h9
        rw [if_pos (by omega), hl2, Option.bind_some, if_neg h0, w64 (by omega) (by omega)]
      · obtain rfl : a = 959 := by omega
        have e9 : lst (959 + 1) = 9223372036854775808 := lst_960
        rw [e9] at hb ⊢
        rw [if_neg (by omega), if_neg h0]
        rfl
  · rw [if_neg (by rw [decide_eq_true_eq]; exact hr), if_neg hr]
theorem rof_l0 (v e : Nat) (h1 : 16 * 2 ^ e ≤ v) (h2 : v < 32 * 2 ^ e) (hv : v < 9223372036854775808) (he : e ≤ 60) (d : Nat) : ∀ (i k : Nat), i ≤ e → e - i = d → d < k →
    headgateref29_Of.l0 k ((v / 2 ^ i : Nat) : Int) (i : Int) = some ((16 * e + v / 2 ^ e : Nat) : Int) := by
  induction d with
  | zero =>
    intro i k hi hd hk
    obtain ⟨k, rfl⟩ : ∃ m, k = m + 1 := ⟨k - 1, by omega⟩
    obtain rfl : i = e := by omega
    have hp : 0 < 2 ^ i := Nat.pow_pos (by decide)
    have hq : v / 2 ^ i < 32 := by rw [Nat.div_lt_iff_lt_mul hp]; omega
    generalize v / 2 ^ i = q at hq
    rw [headgateref29_Of.l0, if_neg (by omega), w64 (x := 16 * (i : Int)) (by omega) (by omega), w64 (by omega) (by omega)]
    refine congrArg some ?_
    omega
  | succ d ih =>
    intro i k hi hd hk
    obtain ⟨k, rfl⟩ : ∃ m, k = m + 1 := ⟨k - 1, by omega⟩
    have j1 : i + 1 ≤ e := by omega
    have j2 : e - (i + 1) = d := by omega
    have j3 : d < k := by omega
    have hp : 0 < 2 ^ i := Nat.pow_pos (by decide)
    have hpe : 2 ^ (i + 1) ≤ 2 ^ e := Nat.pow_le_pow_right (by decide) j1
    rw [Nat.pow_succ] at hpe
    have hq : 32 ≤ v / 2 ^ i := by rw [Nat.le_div_iff_mul_le hp]; omega
    have hle : v / 2 ^ i ≤ v := Nat.div_le_self ..
    have hh : v / 2 ^ (i + 1) = v / 2 ^ i / 2 := by rw [Nat.pow_succ, Nat.div_div_eq_div_mul]
    rw [headgateref29_Of.l0, if_pos (by omega), Int.tdiv_eq_ediv_of_nonneg (by omega)]
    have e1 : wrap64 (((v / 2 ^ i : Nat) : Int) / 2) = ((v / 2 ^ (i + 1) : Nat) : Int) := by
      rw [hh]
      generalize v / 2 ^ i = q at hq hle
      rw [w64 (by omega) (by omega)]
      omega
    clear hq hh hle hpe hp h1 h2
    have e2 : wrap64 ((i : Int) + 1) = ((i + 1 : Nat) : Int) := by rw [w64 (by omega) (by omega)]; omega
    rw [e1, e2]
    exact ih (i + 1) k j1 j2 j3
theorem rof_nat (v : Nat) (hv : v < 9223372036854775808) (k : Nat) (hk : 80 ≤ k) : headgateref29_Of.f k (v : Int) = some (pl v : Int) := by
  obtain ⟨k, rfl⟩ : ∃ m, k = m + 1 := ⟨k - 1, by omega⟩
  rw [headgateref29_Of.f, if_neg (by omega)]
  rcases Nat.lt_or_ge v 32 with h | h
  · rw [if_pos (by omega)]; unfold pl; rw [if_pos h]
  · obtain ⟨e, h1, h2, h3, h4⟩ := bits_of v h (by omega)
    have h63 := Lib.bitLen_le v 63 (by decide) (by omega)
    rw [if_neg (by omega), pl_eq v e h1 h3 h4 (by omega)]
    have := rof_l0 v e h3 h4 hv (by omega) e 0 k (by omega) (by omega) (by omega)
    rw [Nat.pow_zero, Nat.div_one] at this
    exact this
theorem rof_eq {v : Int} (h : I64 v) (k : Nat) (hk : 90 ≤ k) : headgateref29_Of.f k v = some (bk v) := by
  unfold I64 at h
  unfold bk
  rcases Int.lt_or_le v 0 with h0 | h0
  · obtain ⟨a, rfl⟩ : ∃ a : Nat, v = -1 - (a : Int) := ⟨(-1 - v).toNat, by omega⟩
    have hp := pl_lt a (by omega)
    obtain ⟨k, rfl⟩ : ∃ m, k = m + 1 := ⟨k - 1, by omega⟩
    rw [headgateref29_Of.f, if_pos h0, if_pos h0, w64 (by omega) (by omega), show -1 - (-1 - (a : Int)) = (a : Int) by omega, rof_nat a (by omega) k (by omega), Option.bind_some, w64 (by omega) (by omega), Int.toNat_natCast]
  · obtain ⟨a, rfl⟩ : ∃ a : Nat, v = (a : Int) := ⟨v.toNat, by omega⟩
    rw [rof_nat a (by omega) k (by omega), if_neg (by omega), Int.toNat_natCast]
theorem rends_l0 (e m : Nat) (hm : m < 16) (he : e ≤ 58) (d : Nat) : ∀ (i k : Nat), i ≤ e → e - i = d → d < k →
    headgateref29_Ends.l0 k (e : Int) (((16 + m) * 2 ^ i : Nat) : Int) ((2 ^ i : Nat) : Int) (i : Int) = some ((((16 + m) * 2 ^ e : Nat) : Int), (((16 + m) * 2 ^ e + 2 ^ e - 1 : Nat) : Int), 0) := by
  induction d with
  | zero =>
    intro i k hi hd hk
    obtain ⟨k, rfl⟩ : ∃ m, k = m + 1 := ⟨k - 1, by omega⟩
    obtain rfl : i = e := by omega
    have hp : 2 ^ i ≤ 2 ^ 58 := Nat.pow_le_pow_right (by decide) he
    have hp0 : 0 < 2 ^ i := Nat.pow_pos (by decide)
    have hx : (16 + m) * 2 ^ i ≤ 31 * 2 ^ 58 := Nat.mul_le_mul (by omega) hp
    generalize (16 + m) * 2 ^ i = X at hx
    generalize 2 ^ i = Y at hp hp0
    rw [headgateref29_Ends.l0, if_neg (by omega), w64 (x := (Y : Int) - 1) (by omega) (by omega), w64 (by omega) (by omega)]
    refine congrArg some (Prod.ext rfl (Prod.ext ?_ rfl))
    show (X : Int) + ((Y : Int) - 1) = ((X + Y - 1 : Nat) : Int)
    omega
  | succ d ih =>
    intro i k hi hd hk
    obtain ⟨k, rfl⟩ : ∃ m, k = m + 1 := ⟨k - 1, by omega⟩
    have hp : 2 ^ (i + 1) ≤ 2 ^ 58 := Nat.pow_le_pow_right (by decide) (by omega)
    have hx : (16 + m) * 2 ^ (i + 1) ≤ 31 * 2 ^ 58 := Nat.mul_le_mul (by omega) hp
    have := ih (i + 1) k (by omega) (by omega) (by omega)
    rw [headgateref29_Ends.l0, if_pos (by omega)]
    have e0 : (16 + m) * 2 ^ (i + 1) = (16 + m) * 2 ^ i * 2 := by rw [Nat.pow_succ, Nat.mul_assoc]
    have e0' : 2 ^ (i + 1) = 2 ^ i * 2 := Nat.pow_succ ..
    rw [e0] at hx this
    rw [e0'] at hp this
    generalize (16 + m) * 2 ^ i = X at hx this
    generalize 2 ^ i = Y at hp this
    have e1 : wrap64 ((X : Int) * 2) = ((X * 2 : Nat) : Int) := by rw [w64 (by omega) (by omega)]; omega
    have e2 : wrap64 ((Y : Int) * 2) = ((Y * 2 : Nat) : Int) := by rw [w64 (by omega) (by omega)]; omega
    have e3 : wrap64 ((i : Int) + 1) = ((i + 1 : Nat) : Int) := by rw [w64 (by omega) (by omega)]; omega
    rw [e1, e2, e3]
    exact this
theorem rends_nat (a : Nat) (ha : a < 960) (k : Nat) (hk : 70 ≤ k) : headgateref29_Ends.f k (a : Int) = some ((lst a : Int), (lst (a + 1) : Int) - 1, 0) := by
  obtain ⟨k, rfl⟩ : ∃ m, k = m + 1 := ⟨k - 1, by omega⟩
  rw [headgateref29_Ends.f, if_neg (by omega)]
  obtain ⟨k, rfl⟩ : ∃ m, k = m + 1 := ⟨k - 1, by omega⟩
  rw [headgateref29_Ends.j0, if_neg (by rw [decide_eq_true_eq]; omega), if_neg (by omega)]
  rcases Nat.lt_or_ge a 32 with h | h
  · rw [if_pos (by omega), lst_small a (by omega), lst_small (a + 1) (by omega)]
    refine congrArg some (Prod.ext rfl (Prod.ext ?_ rfl))
    show (a : Int) = ((a + 1 : Nat) : Int) - 1
    omega
  · rw [if_neg (by omega)]
    obtain ⟨e, m, rfl, he, hm⟩ : ∃ e m, a = 16 * e + (16 + m) ∧ 1 ≤ e ∧ m < 16 := ⟨a / 16 - 1, a % 16, by omega, by omega, by omega⟩
    have e1 : wrap64 (wrap64 (Int.tdiv ((16 * e + (16 + m) : Nat) : Int) 16) - 1) = (e : Int) := by
      rw [Int.tdiv_eq_ediv_of_nonneg (by omega), w64 (x := ((16 * e + (16 + m) : Nat) : Int) / 16) (by omega) (by omega), w64 (by omega) (by omega)]
      omega
    have e2 : wrap64 (((16 * e + (16 + m) : Nat) : Int) - wrap64 (16 * (e : Int))) = (((16 + m) * 2 ^ 0 : Nat) : Int) := by
      rw [w64 (x := 16 * (e : Int)) (by omega) (by omega), w64 (by omega) (by omega)]
      omega
    have hl := rends_l0 e m hm (by omega) e 0 k (by omega) (by omega) (by omega)
    rw [e1, e2]
    have e3 : (1 : Int) = ((2 ^ 0 : Nat) : Int) := rfl
    have e4 : (0 : Int) = ((0 : Nat) : Int) := rfl
    refine (show _ = headgateref29_Ends.l0 k (e : Int) (((16 + m) * 2 ^ 0 : Nat) : Int) ((2 ^ 0 : Nat) : Int) ((0 : Nat) : Int) from rfl).trans (hl.trans ?_)
    rw [lst_eq e m he hm, lst_succ e m he hm, Nat.succ_mul]
    have hp0 : 0 < 2 ^ e := Nat.pow_pos (by decide)
    generalize (16 + m) * 2 ^ e = X
    generalize 2 ^ e = Y at hp0
    refine congrArg some (Prod.ext rfl (Prod.ext ?_ rfl))
    show ((X + Y - 1 : Nat) : Int) = ((X + Y : Nat) : Int) - 1
    omega
theorem rends_eq {b : Int} (h : I64 b) (k : Nat) (hk : 90 ≤ k) : headgateref29_Ends.f k b = some (endsR b) := by
  unfold endsR
  by_cases hr : -960 ≤ b ∧ b < 960
  · rw [if_pos hr]
    by_cases h0 : b < 0
    · obtain ⟨a, rfl⟩ : ∃ a : Nat, b = -1 - (a : Int) := ⟨(-1 - b).toNat, by omega⟩
      obtain ⟨e1, e2⟩ := lo_neg a
      obtain ⟨k, rfl⟩ : ∃ m, k = m + 1 := ⟨k - 1, by omega⟩
      rw [headgateref29_Ends.f, if_neg (by omega)]
      obtain ⟨k, rfl⟩ : ∃ m, k = m + 1 := ⟨k - 1, by omega⟩
      have hb := lst_lt a
      have hb2 : lst (a + 1) ≤ lst 960 := lst_mono (by omega)
      rw [lst_960] at hb2
      rw [headgateref29_Ends.j0, if_neg (by rw [decide_eq_true_eq]; omega), if_pos h0, w64 (by omega) (by omega), show -1 - (-1 - (a : Int)) = (a : Int) by omega, rends_nat a (by omega) k (by omega), Option.bind_some]
      simp only
      rw [w64 (by omega) (by omega), w64 (by omega) (by omega), e1, e2]
      refine congrArg some (Prod.ext ?_ (Prod.ext ?_ rfl))
      · show -1 - ((lst (a + 1) : Int) - 1) = -(lst (a + 1) : Int); omega
      · show -1 - (lst a : Int) = -(lst a : Int) - 1; omega
    · obtain ⟨a, rfl⟩ : ∃ a : Nat, b = (a : Int) := ⟨b.toNat, by omega⟩
      obtain ⟨e1, e2⟩ := lo_pos a
      rw [rends_nat a (by omega) k (by omega), e1, e2]
  · rw [if_neg hr]
    obtain ⟨k, rfl⟩ : ∃ m, k = m + 1 := ⟨k - 1, by omega⟩
    obtain ⟨k, rfl⟩ : ∃ m, k = m + 1 := ⟨k - 1, by omega⟩
    rw [headgateref29_Ends.f]
    by_cases h1 : b < -960
    · rw [if_pos h1, headgateref29_Ends.j0, if_pos rfl]
    · rw [if_neg h1, headgateref29_Ends.j0, if_pos (decide_eq_true (by omega))]
theorem awake_eq : headgatelaw29_awake.f = some true := by
  have o1 : bk 31 = 31 := by decide
  have o2 : bk 32 = 32 := by decide
  have o3 : bk 33 = 32 := by decide
  have o4 : bk 1000 = 111 := by decide
  have o5 : bk (-1) = -1 := by decide
  have e1 : endsR 111 = (992, 1023, 0) := by decide
  unfold headgatelaw29_awake.f
  rw [ends_eq (by decide), e1, Option.bind_some, of_eq (by decide), o1, Option.bind_some, if_pos rfl, of_eq (by decide), o2, Option.bind_some, if_pos rfl, of_eq (by decide), o3, Option.bind_some, if_pos rfl, of_eq (by decide), o4, Option.bind_some, if_pos rfl, of_eq (by decide), o5, Option.bind_some, if_pos rfl, if_pos rfl, if_pos rfl]
  rfl
end Go.Proofs.Ytgijangnoekbjaa.Sp
