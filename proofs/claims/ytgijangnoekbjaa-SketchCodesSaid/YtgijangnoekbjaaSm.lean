/- Plain law of the sketch's buckets: no program in sight. -/
import Derived.Lib.BitFns
import Derived.Lib.ItoaNum
set_option linter.unusedVariables false
namespace Go.Proofs.Ytgijangnoekbjaa.Sm
/-- The bucket of a number from 0 on. -/
def pl (v : Nat) : Nat := if v < 32 then v else 16 * (Lib.bitLen v - 5) + v / 2 ^ (Lib.bitLen v - 5)
/-- The least number of a bucket from 0 on. -/
def lst (b : Nat) : Nat := if b < 32 then b else (16 + b % 16) * 2 ^ (b / 16 - 1)
theorem bits_of (v : Nat) (h : 32 ≤ v) (hv : v < 18446744073709551616) : ∃ e, 1 ≤ e ∧ Lib.bitLen v = e + 5 ∧ 16 * 2 ^ e ≤ v ∧ v < 32 * 2 ^ e := by
  obtain ⟨h1, h2, h3⟩ := Lib.bitLenAux_bounds 64 v hv (by omega)
  have hb : Lib.bitLen v = Lib.bitLenAux 64 v := rfl
  have h6 : 6 ≤ Lib.bitLenAux 64 v := by
    rcases Nat.lt_or_ge (Lib.bitLenAux 64 v) 6 with h | h
    · have : 2 ^ Lib.bitLenAux 64 v ≤ 2 ^ 5 := Nat.pow_le_pow_right (by decide) (by omega)
      omega
    · exact h
  refine ⟨Lib.bitLenAux 64 v - 5, by omega, by omega, ?_, ?_⟩
  · rw [show Lib.bitLenAux 64 v - 1 = 4 + (Lib.bitLenAux 64 v - 5) by omega, Nat.pow_add] at h2
    omega
  · rw [show Lib.bitLenAux 64 v = 5 + (Lib.bitLenAux 64 v - 5) by omega, Nat.pow_add] at h3
    omega
theorem pl_eq (v e : Nat) (he : 1 ≤ e) (h1 : 16 * 2 ^ e ≤ v) (h2 : v < 32 * 2 ^ e) (hv : v < 18446744073709551616) : pl v = 16 * e + v / 2 ^ e := by
  have hp : 2 ^ 1 ≤ 2 ^ e := Nat.pow_le_pow_right (by decide) he
  have h32 : ¬ v < 32 := by omega
  obtain ⟨e', h3, h4, h5, h6⟩ := bits_of v (by omega) hv
  have : e' = e := by
    rcases Nat.lt_trichotomy e' e with h | h | h
    · have : 2 ^ (e' + 1) ≤ 2 ^ e := Nat.pow_le_pow_right (by decide) h
      rw [Nat.pow_succ] at this
      omega
    · exact h
    · have : 2 ^ (e + 1) ≤ 2 ^ e' := Nat.pow_le_pow_right (by decide) h
      rw [Nat.pow_succ] at this
      omega
  subst this
  unfold pl
  rw [if_neg h32, h4, Nat.add_sub_cancel]
theorem lst_eq (e m : Nat) (he : 1 ≤ e) (hm : m < 16) : lst (16 * e + (16 + m)) = (16 + m) * 2 ^ e := by
  unfold lst
  rw [if_neg (by omega), show (16 * e + (16 + m)) % 16 = m by omega, show (16 * e + (16 + m)) / 16 - 1 = e by omega]
theorem lst_eq32 (e : Nat) : lst (16 * e + 32) = 32 * 2 ^ e := by
  unfold lst
  rw [if_neg (by omega), show (16 * e + 32) % 16 = 0 by omega, show (16 * e + 32) / 16 - 1 = e + 1 by omega, Nat.pow_succ]
  omega
theorem lst_small (b : Nat) (h : b ≤ 32) : lst b = b := by
  unfold lst
  split
  · rfl
  · obtain rfl : b = 32 := by omega
    rfl
/-- The next bucket begins behind this one's numbers. -/
theorem lst_succ (e m : Nat) (he : 1 ≤ e) (hm : m < 16) : lst (16 * e + (16 + m) + 1) = (16 + m + 1) * 2 ^ e := by
  rcases Nat.lt_or_ge m 15 with h | h
  · have := lst_eq e (m + 1) he (by omega)
    rw [show 16 * e + (16 + m) + 1 = 16 * e + (16 + (m + 1)) by omega, this]
    rfl
  · obtain rfl : m = 15 := by omega
    exact lst_eq32 e
theorem pl_between (v : Nat) (hv : v < 18446744073709551616) : lst (pl v) ≤ v ∧ v < lst (pl v + 1) := by
  rcases Nat.lt_or_ge v 32 with h | h
  · have : pl v = v := by unfold pl; rw [if_pos h]
    rw [this, lst_small v (by omega), lst_small (v + 1) (by omega)]
    omega
  · obtain ⟨e, h3, h4, h5, h6⟩ := bits_of v h hv
    have hp : 0 < 2 ^ e := Nat.pow_pos (by decide)
    have hq1 : 16 ≤ v / 2 ^ e := by rw [Nat.le_div_iff_mul_le hp]; omega
    have hq2 : v / 2 ^ e < 32 := by rw [Nat.div_lt_iff_lt_mul hp]; omega
    obtain ⟨m, hm⟩ : ∃ m, v / 2 ^ e = 16 + m := ⟨v / 2 ^ e - 16, by omega⟩
    have hdm := Nat.div_add_mod v (2 ^ e)
    have hml := Nat.mod_lt v hp
    rw [pl_eq v e h3 h5 h6 hv, hm, lst_eq e m h3 (by omega), lst_succ e m h3 (by omega)]
    rw [hm] at hdm
    have e1 : (16 + m + 1) * 2 ^ e = 2 ^ e * (16 + m) + 2 ^ e := by rw [Nat.succ_mul, Nat.mul_comm]
    rw [e1, Nat.mul_comm (16 + m)]
    omega
theorem lst_lt (b : Nat) : lst b < lst (b + 1) := by
  rcases Nat.lt_or_ge b 32 with h | h
  · rw [lst_small b (by omega), lst_small (b + 1) (by omega)]; omega
  · obtain ⟨e, m, rfl, he, hm⟩ : ∃ e m, b = 16 * e + (16 + m) ∧ 1 ≤ e ∧ m < 16 := ⟨b / 16 - 1, b % 16, by omega, by omega, by omega⟩
    rw [lst_eq e m he hm, lst_succ e m he hm]
    exact Nat.mul_lt_mul_of_pos_right (by omega) (Nat.pow_pos (by decide))
theorem lst_mono {a b : Nat} (h : a ≤ b) : lst a ≤ lst b := by
  induction b with
  | zero => obtain rfl : a = 0 := by omega
            exact Nat.le_refl _
  | succ b ih =>
    rcases Nat.lt_or_ge a (b + 1) with h1 | h1
    · exact Nat.le_trans (ih (by omega)) (Nat.le_of_lt (lst_lt b))
    · obtain rfl : a = b + 1 := by omega
      exact Nat.le_refl _
theorem lst_960 : lst 960 = 9223372036854775808 := by decide
theorem pl_lt (v : Nat) (hv : v < 9223372036854775808) : pl v < 960 := by
  rcases Nat.lt_or_ge (pl v) 960 with h | h
  · exact h
  · have := lst_mono h
    have := (pl_between v (by omega)).1
    rw [lst_960] at *
    omega
/-- A bucket's numbers. -/
theorem pl_iff (v b : Nat) (hv : v < 18446744073709551616) : pl v = b ↔ lst b ≤ v ∧ v < lst (b + 1) := by
  constructor
  · rintro rfl; exact pl_between v hv
  · rintro ⟨h1, h2⟩
    obtain ⟨h3, h4⟩ := pl_between v hv
    rcases Nat.lt_trichotomy (pl v) b with h | h | h
    · have := lst_mono (show pl v + 1 ≤ b by omega); omega
    · exact h
    · have := lst_mono (show b + 1 ≤ pl v by omega); omega
/-- A bucket is a sixteenth of its least number wide at most. -/
theorem wide (b : Nat) : lst (b + 1) - 1 - lst b ≤ lst b / 16 := by
  rcases Nat.lt_or_ge b 32 with h | h
  · rw [lst_small b (by omega), lst_small (b + 1) (by omega)]; omega
  · obtain ⟨e, m, rfl, he, hm⟩ : ∃ e m, b = 16 * e + (16 + m) ∧ 1 ≤ e ∧ m < 16 := ⟨b / 16 - 1, b % 16, by omega, by omega, by omega⟩
    rw [lst_eq e m he hm, lst_succ e m he hm, Nat.succ_mul]
    have hp : 0 < 2 ^ e := Nat.pow_pos (by decide)
    have : 2 ^ e ≤ (16 + m) * 2 ^ e / 16 := by
      rw [Nat.le_div_iff_mul_le (by decide), Nat.mul_comm]
      exact Nat.mul_le_mul_right _ (by omega)
    omega

/-- The bucket of any number; the least number of any bucket. -/
def bk (v : Int) : Int := if v < 0 then -1 - (pl (-1 - v).toNat : Int) else (pl v.toNat : Int)
def lo (b : Int) : Int := if b < 0 then -(lst (-b).toNat : Int) else (lst b.toNat : Int)
theorem lo_lt (b : Int) : lo b < lo (b + 1) := by
  unfold lo
  rcases Int.lt_or_le b 0 with h | h
  · rw [if_pos h]
    have h1 := lst_lt (-1 - b).toNat
    rw [show (-1 - b).toNat + 1 = (-b).toNat by omega] at h1
    by_cases h2 : b + 1 < 0
    · rw [if_pos h2, show (-(b + 1)).toNat = (-1 - b).toNat by omega]; omega
    · rw [if_neg h2, show (b + 1).toNat = (-1 - b).toNat by omega]; omega
  · rw [if_neg (by omega), if_neg (by omega), show (b + 1).toNat = b.toNat + 1 by omega]
    have := lst_lt b.toNat
    omega
theorem lo_mono {a b : Int} (h : a ≤ b) : lo a ≤ lo b := by
  obtain ⟨n, rfl⟩ : ∃ n : Nat, b = a + n := ⟨(b - a).toNat, by omega⟩
  clear h
  induction n with
  | zero => simp
  | succ n ih =>
    have := lo_lt (a + n)
    rw [show a + ((n + 1 : Nat) : Int) = a + n + 1 by omega]
    omega
theorem bk_between (v : Int) (h0 : -9223372036854775808 ≤ v) (h1 : v ≤ 9223372036854775807) : lo (bk v) ≤ v ∧ v < lo (bk v + 1) := by
  unfold bk
  rcases Int.lt_or_le v 0 with h | h
  · rw [if_pos h]
    obtain ⟨h2, h3⟩ := pl_between (-1 - v).toNat (by omega)
    generalize pl (-1 - v).toNat = p at h2 h3
    unfold lo
    rw [if_pos (by omega), show (-(-1 - (p : Int))).toNat = p + 1 by omega]
    by_cases hp : -1 - (p : Int) + 1 < 0
    · rw [if_pos hp, show (-(-1 - (p : Int) + 1)).toNat = p by omega]; omega
    · obtain rfl : p = 0 := by omega
      rw [if_neg hp, show (-1 - ((0 : Nat) : Int) + 1).toNat = 0 by omega]
      omega
  · rw [if_neg (by omega)]
    obtain ⟨h2, h3⟩ := pl_between v.toNat (by omega)
    generalize pl v.toNat = p at h2 h3
    unfold lo
    rw [if_neg (by omega), if_neg (by omega), show ((p : Int) + 1).toNat = p + 1 by omega, Int.toNat_natCast]
    omega
theorem bk_iff (v b : Int) (h0 : -9223372036854775808 ≤ v) (h1 : v ≤ 9223372036854775807) : bk v = b ↔ lo b ≤ v ∧ v < lo (b + 1) := by
  constructor
  · rintro rfl; exact bk_between v h0 h1
  · rintro ⟨h2, h3⟩
    obtain ⟨h4, h5⟩ := bk_between v h0 h1
    rcases Int.lt_trichotomy (bk v) b with h | h | h
    · have := lo_mono (show bk v + 1 ≤ b by omega); omega
    · exact h
    · have := lo_mono (show b + 1 ≤ bk v by omega); omega
theorem bk_mono {v w : Int} (h : v ≤ w) (h0 : -9223372036854775808 ≤ v) (h1 : w ≤ 9223372036854775807) : bk v ≤ bk w := by
  rcases Int.lt_or_le (bk w) (bk v) with hc | hc
  · have h2 := (bk_between v h0 (by omega)).1
    have h3 := (bk_between w (by omega) h1).2
    have := lo_mono (show bk w + 1 ≤ bk v by omega)
    omega
  · exact hc
theorem bk_range (v : Int) (h0 : -9223372036854775808 ≤ v) (h1 : v ≤ 9223372036854775807) : -960 ≤ bk v ∧ bk v < 960 := by
  unfold bk
  split
  · have := pl_lt (-1 - v).toNat (by omega); omega
  · have := pl_lt v.toNat (by omega); omega
theorem lo_range (b : Int) (h0 : -960 ≤ b) (h1 : b ≤ 960) : -9223372036854775808 ≤ lo b ∧ lo b ≤ 9223372036854775808 := by
  have e1 : lo 960 = 9223372036854775808 := by unfold lo; rw [if_neg (by decide), show (960 : Int).toNat = 960 from rfl, lst_960]; rfl
  have e2 : lo (-960) = -9223372036854775808 := by unfold lo; rw [if_pos (by decide), show (-(-960 : Int)).toNat = 960 from rfl, lst_960]; rfl
  have := lo_mono h0
  have := lo_mono h1
  omega
end Go.Proofs.Ytgijangnoekbjaa.Sm
