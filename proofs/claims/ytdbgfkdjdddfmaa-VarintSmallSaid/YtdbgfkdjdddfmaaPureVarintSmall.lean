/- For every number: varint.Put lays no more bytes than the number needs, each byte more being for seven bits more. No condition. -/
import Derived.Test.YtdbgfkdjdddfmaaPx
import Derived.Test.YtdbgfkdjdddfmaaVa
set_option linter.unusedVariables false
namespace Go.Proofs.Ytdbgfkdjdddfmaa.Pure
open Go.RowKit Go.Proofs.Ytdbgfkdjdddfmaa.Vm Go.Proofs.Ytdbgfkdjdddfmaa.Vref Go.Proofs.Ytdbgfkdjdddfmaa.Vp Go.Proofs.Ytdbgfkdjdddfmaa.P Go.Proofs.YtdbgfkdjdddfmaaW.PrintWords Go.Proofs.YtdbgfkdjdddfmaaW.PrintLast

theorem shl1 (y : Int) (m : Nat) (hy : y = m) (hm : m ≤ 62) : shl .i64 1 y = ((2 ^ m : Nat) : Int) := by
  subst hy
  have hp : 2 ^ m ≤ 2 ^ 62 := Nat.pow_le_pow_right (by decide) hm
  unfold shl
  have hb : IntKind.i64.bits = 64 := rfl
  rw [Int.toNat_natCast, hb, Nat.min_eq_left (by omega), Int.one_mul, IntKind.wrap_i64]
  have hc : ((2 : Int) ^ m) = ((2 ^ m : Nat) : Int) := by simp
  rw [hc]
  generalize (2 ^ m : Nat) = X at hp
  have hp' : X ≤ 4611686018427387904 := hp
  omega
theorem zz_bound (n : Int) (X : Nat) : zz n < 2 * X ↔ (-(X : Int) ≤ n ∧ n < X) := by unfold zz; split <;> omega
theorem p128 (m : Nat) (h : 1 ≤ m) : 128 ^ m = 2 * 2 ^ (7 * m - 1) := by
  rw [show (128 : Nat) = 2 ^ 7 by decide, ← Nat.pow_mul, Nat.mul_comm 2, ← Nat.pow_succ]
  congr 1
  omega
theorem j1_ok (n : Int) (L : Nat) (h1 : 1 ≤ L) (h10 : L ≤ 10) (hn : I64 n) (hL : 1 < L → ¬ zz n < 128 ^ (L - 1)) (k : Nat) : headgatelaw01_VarintSmall.j1 (k + 1) n (L : Int) = some true := by
  rw [headgatelaw01_VarintSmall.j1]
  by_cases hg : 1 < L
  · have e1 : wrap64 (7 * (L : Int)) = ((7 * L : Nat) : Int) := by rw [w64 (by omega) (by omega)]; omega
    have e2 : wrap64 (((7 * L : Nat) : Int) - 8) = ((7 * L - 8 : Nat) : Int) := by rw [w64 (by omega) (by omega)]; omega
    have hp : 2 ^ (7 * L - 8) ≤ 2 ^ 62 := Nat.pow_le_pow_right (by decide) (by omega)
    have hx := hL hg
    rw [p128 (L - 1) (by omega), show 7 * (L - 1) - 1 = 7 * L - 8 by omega, zz_bound] at hx
    rw [if_pos (by omega), e1, e2, if_pos (by omega), shl1 _ (7 * L - 8) rfl (by omega)]
    generalize (2 ^ (7 * L - 8) : Nat) = X at hp hx
    have hp' : X ≤ 4611686018427387904 := hp
    rw [w64 (by omega) (by omega), Va.awake_eq, Option.bind_some]
    by_cases hc : n ≥ -(X : Int)
    · rw [if_pos hc, if_neg (by omega)]
    · rw [if_neg hc]
  · rw [if_neg (by omega), Va.awake_eq, Option.bind_some]
theorem VarintSmall : headgatelaw01_VarintSmall.Pure := by
  intro n hn0
  have hn := i64_of hn0
  refine ⟨5, ?_⟩
  have hl := enc_len n
  unfold headgatelaw01_VarintSmall.f
  rw [put_eq hn, Option.bind_some, size_bs]
  generalize hL : (enc n).length = L at hl
  have hz : zz n < 2 * 128 ^ 9 := zz_lt.2 hn
  rw [if_neg (by omega), show decide ((L : Int) > 10) = false from decide_eq_false (by omega), headgatelaw01_VarintSmall.j0, if_neg (by decide)]
  have hj : headgatelaw01_VarintSmall.j1 4 n (L : Int) = some true := j1_ok n L hl.1 hl.2 hn (fun h1 => by
    have h := sev_le 9 (L - 2) (zz n) hz (by omega)
    rw [show L - 2 + 1 = L - 1 by omega] at h
    intro hlt
    have := h.2 hlt
    unfold enc at hL
    omega) 3
  by_cases h10 : L < 10
  · have e1 : wrap64 (7 * (L : Int)) = ((7 * L : Nat) : Int) := by rw [w64 (by omega) (by omega)]; omega
    have e2 : wrap64 (((7 * L : Nat) : Int) - 1) = ((7 * L - 1 : Nat) : Int) := by rw [w64 (by omega) (by omega)]; omega
    have hp : 2 ^ (7 * L - 1) ≤ 2 ^ 62 := Nat.pow_le_pow_right (by decide) (by omega)
    have h := (sev_le 9 (L - 1) (zz n) hz (by omega)).1 (by unfold enc at hL; omega)
    rw [show L - 1 + 1 = L by omega, p128 L hl.1, zz_bound] at h
    rw [if_pos (by omega), e1, e2, if_pos (by omega), shl1 _ (7 * L - 1) rfl (by omega)]
    generalize (2 ^ (7 * L - 1) : Nat) = X at hp h
    have hp' : X ≤ 4611686018427387904 := hp
    rw [w64 (by omega) (by omega), if_neg (by omega), if_neg (by omega)]
    exact hj
  · rw [if_neg (by omega)]
    exact hj

end Go.Proofs.Ytdbgfkdjdddfmaa.Pure
