/- For any mask: txn.Each tells the bits that it has, rising; chapter 12's example holds. No condition. -/
import Derived.Test.YtleongigmjhegaaPx14
import Derived.Test.YtleongigmjhegaaPx14
import Derived.Test.YtleongigmjhegaaTn
set_option linter.unusedVariables false
namespace Go.Proofs.Ytleongigmjhegaa.Pure
open Go.RowKit Go.Proofs.Ytleongigmjhegaa.Tn Go.Proofs.Ytleongigmjhegaa.P Go.Proofs.YtleongigmjhegaaW.PrintWords Go.Proofs.YtleongigmjhegaaW.PrintLast Go.Proofs.YtleongigmjhegaaW.PrintMore
theorem bits_and_mask (x : Int) (n : Nat) (hn : n ≤ 62) : Go.bits .and .i64 x (((2 ^ n - 1 : Nat) : Int)) = ((x % 18446744073709551616).toNat % 2 ^ n : Nat) := by
  unfold Go.bits
  have h1 : (BitVec.ofInt IntKind.i64.bits x).toNat = (x % 18446744073709551616).toNat := by rw [BitVec.toNat_ofInt]; rfl
  have hp : 2 ^ n ≤ 2 ^ 62 := Nat.pow_le_pow_right (by omega) hn
  have h2 : (BitVec.ofInt IntKind.i64.bits ((2 ^ n - 1 : Nat) : Int)).toNat = 2 ^ n - 1 := by
    rw [BitVec.toNat_ofInt]
    show (((2 ^ n - 1 : Nat) : Int) % 18446744073709551616).toNat = _
    generalize 2 ^ n = m at *
    omega
  have h3 : ((BitVec.ofInt IntKind.i64.bits x) &&& (BitVec.ofInt IntKind.i64.bits ((2 ^ n - 1 : Nat) : Int))).toNat = (x % 18446744073709551616).toNat % 2 ^ n := by
    rw [BitVec.toNat_and, h1, h2, Nat.and_two_pow_sub_one_eq_mod]
  show IntKind.i64.wrap ((((BitVec.ofInt IntKind.i64.bits x) &&& (BitVec.ofInt IntKind.i64.bits ((2 ^ n - 1 : Nat) : Int))).toNat : Nat) : Int) = _
  rw [h3, IntKind.wrap_i64]
  have hpos : 0 < 2 ^ n := Nat.pos_of_ne_zero (by simp)
  have := Nat.mod_lt (x % 18446744073709551616).toNat hpos
  generalize 2 ^ n = m at *
  omega
theorem bits_and_one (x : Int) : Go.bits .and .i64 x 1 = x % 2 := by
  have := bits_and_mask x 1 (by omega)
  rw [show (((2 ^ 1 - 1 : Nat)) : Int) = 1 from rfl] at this
  rw [this]
  omega
theorem bits_and_8191 (x : Int) : Go.bits .and .i64 x 8191 = x % 8192 := by
  have := bits_and_mask x 13 (by omega)
  rw [show (((2 ^ 13 - 1 : Nat)) : Int) = 8191 from rfl] at this
  rw [this]
  omega
/-- Has m the bit p? -/
def bit (m p : Nat) : Bool := m / 2 ^ p % 2 == 1
def bitsL (m : Nat) : Nat → List Int
  | 0 => []
  | n + 1 => bitsL m n ++ (if bit m n then [(n : Int)] else [])
def sumP (l : List Int) : Int := (l.map fun x => (2 : Int) ^ x.toNat).sum
theorem sumP_append (a b : List Int) : sumP (a ++ b) = sumP a + sumP b := by simp [sumP]
theorem sumP_bits (m : Nat) : ∀ n, sumP (bitsL m n) = ((m % 2 ^ n : Nat) : Int)
  | 0 => by simp [bitsL, sumP, Nat.mod_one]
  | n + 1 => by
    rw [bitsL, sumP_append, sumP_bits m n, Nat.pow_succ, Nat.mod_mul]
    unfold bit
    have h2 : m / 2 ^ n % 2 < 2 := Nat.mod_lt _ (by omega)
    by_cases h : m / 2 ^ n % 2 = 1
    · rw [if_pos (by simp [h]), h]
      simp [sumP]
    · rw [if_neg (by simp [h])]
      have h0 : m / 2 ^ n % 2 = 0 := by omega
      rw [h0]
      simp [sumP]
theorem bits_at (m : Nat) : ∀ n, (∀ x ∈ bitsL m n, 0 ≤ x ∧ x < n) ∧ (bitsL m n).Pairwise (· < ·) ∧ (bitsL m n).length ≤ n
  | 0 => by simp [bitsL]
  | n + 1 => by
    obtain ⟨h1, h2, h3⟩ := bits_at m n
    rw [bitsL]
    split
    · refine ⟨fun x hx => ?_, List.pairwise_append.2 ⟨h2, List.pairwise_singleton _ _, fun a ha b hb => ?_⟩, by rw [List.length_append, List.length_singleton]; omega⟩
      · rcases List.mem_append.1 hx with h | h
        · have := h1 x h; omega
        · rw [List.mem_singleton.1 h]; omega
      · rw [List.mem_singleton.1 hb]; exact (h1 a ha).2
    · rw [List.append_nil]
      exact ⟨fun x hx => by have := h1 x hx; omega, h2, by omega⟩
theorem bit_is (a : Int) (p : Nat) (hp : p < 13) : (Go.bits .and .i64 (shr .i64 a (p : Int)) 1 = 1) ↔ bit (a % 8192).toNat p = true := by
  rw [bits_and_one]
  unfold shr bit
  rw [beq_iff_eq, Int.toNat_natCast, Nat.min_eq_left (show p ≤ IntKind.i64.bits by show p ≤ 64; omega)]
  have : p = 0 ∨ p = 1 ∨ p = 2 ∨ p = 3 ∨ p = 4 ∨ p = 5 ∨ p = 6 ∨ p = 7 ∨ p = 8 ∨ p = 9 ∨ p = 10 ∨ p = 11 ∨ p = 12 := by omega
  rcases this with rfl | rfl | rfl | rfl | rfl | rfl | rfl | rfl | rfl | rfl | rfl | rfl | rfl <;> simp only [Nat.reducePow, Int.reducePow] <;> omega
theorem each_l0 (a : Int) (d : Nat) : ∀ (p k : Nat), 13 - p = d → p ≤ 13 → d < k → txn_Each.l0 k a (bitsL (a % 8192).toNat p) (p : Int) = some (bitsL (a % 8192).toNat 13) := by
  induction d with
  | zero =>
    intro p k hd hp hk
    obtain rfl : p = 13 := by omega
    obtain ⟨k, rfl⟩ : ∃ m, k = m + 1 := ⟨k - 1, by omega⟩
    rw [txn_Each.l0, if_neg (by omega)]
  | succ d ih =>
    intro p k hd hp hk
    obtain ⟨k, rfl⟩ : ∃ m, k = m + 1 := ⟨k - 1, by omega⟩
    have hb := bit_is a p (by omega)
    have e1 : wrap64 ((p : Int) + 1) = ((p + 1 : Nat) : Int) := by rw [w64 (by omega) (by omega)]; omega
    rw [txn_Each.l0, if_pos (by omega), if_pos (by omega), e1]
    have hl := (bits_at (a % 8192).toNat p).2.2
    have ih2 := ih (p + 1) k (by omega) (by omega) (by omega)
    rw [bitsL] at ih2
    by_cases c : bit (a % 8192).toNat p = true
    · rw [if_pos c] at ih2
      rw [if_pos (hb.2 c), if_pos (by omega)]
      exact ih2
    · rw [if_neg c, List.append_nil] at ih2
      rw [if_neg (fun h => c (hb.1 h))]
      exact ih2
theorem rd_at (l : List Int) (i : Nat) (h : i < l.length) : rd l (i : Int) = l[i] := by
  rw [rd, Int.toNat_natCast, List.getD_eq_getElem?_getD, List.getElem?_eq_getElem h]; rfl
theorem shl_is (x : Int) (h0 : 0 ≤ x) (h1 : x < 13) : shl .i64 1 x = 2 ^ x.toNat ∧ 0 < (2 : Int) ^ x.toNat := by
  obtain ⟨n, rfl⟩ : ∃ n : Nat, x = n := ⟨x.toNat, by omega⟩
  unfold shl
  rw [Int.toNat_natCast, Nat.min_eq_left (show n ≤ IntKind.i64.bits by show n ≤ 64; omega), IntKind.wrap_i64, Int.one_mul]
  have : n = 0 ∨ n = 1 ∨ n = 2 ∨ n = 3 ∨ n = 4 ∨ n = 5 ∨ n = 6 ∨ n = 7 ∨ n = 8 ∨ n = 9 ∨ n = 10 ∨ n = 11 ∨ n = 12 := by omega
  rcases this with rfl | rfl | rfl | rfl | rfl | rfl | rfl | rfl | rfl | rfl | rfl | rfl | rfl <;> decide
theorem sumP_nonneg (l : List Int) : 0 ≤ sumP l := by
  induction l with
  | nil => simp [sumP]
  | cons x l ih =>
    have e : sumP (x :: l) = 2 ^ x.toNat + sumP l := by simp [sumP]
    have : (0 : Int) ≤ 2 ^ x.toNat := Int.pow_nonneg (by omega)
    omega
theorem law_l0 (a : Int) (l : List Int) (hx : ∀ x ∈ l, 0 ≤ x ∧ x < 13) (hp : l.Pairwise (· < ·)) (hs : sumP l = a % 8192) (hl : l.length ≤ 13) (d : Nat) : ∀ (i k : Nat), l.length - i = d → i ≤ l.length → d + 30 < k → headgatelaw12_TxnEach.l0 k a l (sumP (l.take i)) (i : Int) = some true := by
  induction d with
  | zero =>
    intro i k hd hi hk
    obtain rfl : i = l.length := by omega
    obtain ⟨k, rfl⟩ : ∃ m, k = m + 1 := ⟨k - 1, by omega⟩
    rw [headgatelaw12_TxnEach.l0, if_neg (by omega), List.take_length, bits_and_8191, if_pos hs, awake_eq _ (by omega), Option.bind_some]
  | succ d ih =>
    intro i k hd hi hk
    obtain ⟨k, rfl⟩ : ∃ m, k = m + 1 := ⟨k - 1, by omega⟩
    have hlt : i < l.length := by omega
    have e1 : wrap64 ((i : Int) + 1) = ((i + 1 : Nat) : Int) := by rw [w64 (by omega) (by omega)]; omega
    obtain ⟨x0, x1⟩ := hx _ (List.getElem_mem hlt)
    obtain ⟨s1, s2⟩ := shl_is _ x0 x1
    have hsum : sumP (l.take (i + 1)) = sumP (l.take i) + 2 ^ (l[i]).toNat := by
      rw [List.take_succ_eq_append_getElem hlt, sumP_append]; simp [sumP]
    have htot : sumP l = sumP (l.take (i + 1)) + sumP (l.drop (i + 1)) := by rw [← sumP_append, List.take_append_drop]
    have hn1 := sumP_nonneg (l.take i)
    have hn2 := sumP_nonneg (l.drop (i + 1))
    have e2 : wrap64 (sumP (l.take i) + shl .i64 1 l[i]) = sumP (l.take (i + 1)) := by rw [s1, hsum, w64 (by omega) (by omega)]
    have hfin := ih (i + 1) k (by omega) (by omega) (by omega)
    rw [headgatelaw12_TxnEach.l0, if_pos (by omega), if_pos (by omega), rd_at l i hlt, if_neg (by omega), if_neg (by omega), e1, e2, if_pos x0]
    by_cases h0 : i = 0
    · rw [if_neg (by omega)]; exact hfin
    · have e3 : wrap64 ((i : Int) - 1) = ((i - 1 : Nat) : Int) := by rw [w64 (by omega) (by omega)]; omega
      have hlt2 := List.pairwise_iff_getElem.1 hp (i - 1) i (by omega) hlt (by omega)
      rw [if_pos (by omega), e3, if_pos (by omega), if_pos (by omega), rd_at l (i - 1) (by omega), if_neg (by omega)]
      exact hfin
theorem TxnEach : headgatelaw12_TxnEach.Pure := by
  intro a ha
  refine ⟨200, ?_⟩
  unfold headgatelaw12_TxnEach.f txn_Each.f
  obtain ⟨h1, h2, h3⟩ := bits_at (a % 8192).toNat 13
  have he := each_l0 a 13 0 200 (by omega) (by omega) (by omega)
  have hs : sumP (bitsL (a % 8192).toNat 13) = a % 8192 := by
    rw [sumP_bits]
    simp only [Nat.reducePow]
    omega
  have hl := law_l0 a (bitsL (a % 8192).toNat 13) h1 h2 hs h3 _ 0 200 rfl (by omega) (by omega)
  rw [show bitsL (a % 8192).toNat 0 = [] from rfl] at he
  rw [show sumP ((bitsL (a % 8192).toNat 13).take 0) = 0 by simp [sumP]] at hl
  rw [show (0 : Int) = ((0 : Nat) : Int) from rfl, he, Option.bind_some]
  exact hl
end Go.Proofs.Ytleongigmjhegaa.Pure
