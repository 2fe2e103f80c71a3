/- For any notes and any producer: its transaction has just the partitions that were added since it began; chapter 12's example holds. No condition. -/
import Derived.Test.YtleongigmjhegaaPx16
import Derived.Test.YtleongigmjhegaaPx15
import Derived.Test.YtleongigmjhegaaPx15
import Derived.Test.YtleongigmjhegaaTn
set_option linter.unusedVariables false
namespace Go.Proofs.Ytleongigmjhegaa.Pure
open Go.RowKit Go.Proofs.Ytleongigmjhegaa.Tn Go.Proofs.Ytleongigmjhegaa.P Go.Proofs.YtleongigmjhegaaW.PrintWords Go.Proofs.YtleongigmjhegaaW.PrintLast Go.Proofs.YtleongigmjhegaaW.PrintMore
theorem rsame_l0 (l : List Int) (hl : l.length ≤ 1000) (d : Nat) : ∀ (j k : Nat), l.length - j = d → j ≤ l.length → d < k → headgateref01_Same.l0 k l l (j : Int) = some true := by
  induction d with
  | zero =>
    intro j k hd hj hk
    obtain ⟨k, rfl⟩ : ∃ m, k = m + 1 := ⟨k - 1, by omega⟩
    rw [headgateref01_Same.l0, if_neg (by omega)]
  | succ d ih =>
    intro j k hd hj hk
    obtain ⟨k, rfl⟩ : ∃ m, k = m + 1 := ⟨k - 1, by omega⟩
    rw [headgateref01_Same.l0, if_pos (by omega), if_pos (by omega), if_pos (by omega), if_pos rfl, w64 (by omega) (by omega), show (j : Int) + 1 = ((j + 1 : Nat) : Int) by omega]
    exact ih (j + 1) k (by omega) (by omega) (by omega)
theorem rsame_self (l : List Int) (hl : l.length ≤ 1000) (k : Nat) (hk : l.length < k) : headgateref01_Same.f k l l = some true := by
  unfold headgateref01_Same.f
  rw [if_pos rfl]
  exact rsame_l0 l hl l.length 0 k (by omega) (by omega) hk
theorem and_pow (m p : Nat) (hm : m < 8192) (hp : p < 13) : (Go.bits .and .i64 (m : Int) ((2 ^ p : Nat) : Int) = 0) ↔ bit m p = false := by
  have h2 : 2 ^ p ≤ 4096 := by
    have : 2 ^ p ≤ 2 ^ 12 := Nat.pow_le_pow_right (by omega) (by omega)
    omega
  have e : ∀ n : Nat, n < 8192 → (BitVec.ofInt IntKind.i64.bits (n : Int)).toNat = n := fun n hn => by
    rw [BitVec.toNat_ofInt]
    show (((n : Int)) % 18446744073709551616).toNat = n
    omega
  have h3 : ((BitVec.ofInt IntKind.i64.bits (m : Int)) &&& (BitVec.ofInt IntKind.i64.bits ((2 ^ p : Nat) : Int))).toNat = m / 2 ^ p % 2 * 2 ^ p := by
    rw [BitVec.toNat_and, e m hm, e _ (by omega), Go.nat_bit]
  unfold Go.bits
  show IntKind.i64.wrap ((((BitVec.ofInt IntKind.i64.bits (m : Int)) &&& (BitVec.ofInt IntKind.i64.bits ((2 ^ p : Nat) : Int))).toNat : Nat) : Int) = 0 ↔ _
  have hpos : 0 < 2 ^ p := Nat.pos_of_ne_zero (by simp)
  have hlt : m / 2 ^ p % 2 < 2 := Nat.mod_lt _ (by omega)
  rw [h3, IntKind.wrap_i64]
  unfold bit
  rw [beq_eq_false_iff_ne]
  by_cases c : m / 2 ^ p % 2 = 1
  · rw [c, Nat.one_mul]; constructor <;> intro h <;> omega
  · have c0 : m / 2 ^ p % 2 = 0 := by omega
    rw [c0, Nat.zero_mul]; simp
theorem reach_l0 (m : Nat) (hm : m < 8192) (d : Nat) : ∀ (p k : Nat), 13 - p = d → p ≤ 13 → d < k → headgateref12_Each.l0 k (m : Int) (bitsL m p) ((2 ^ p : Nat) : Int) (p : Int) = some (bitsL m 13) := by
  induction d with
  | zero =>
    intro p k hd hp hk
    obtain rfl : p = 13 := by omega
    obtain ⟨k, rfl⟩ : ∃ m, k = m + 1 := ⟨k - 1, by omega⟩
    rw [headgateref12_Each.l0, if_neg (by omega)]
  | succ d ih =>
    intro p k hd hp hk
    obtain ⟨k, rfl⟩ : ∃ m, k = m + 1 := ⟨k - 1, by omega⟩
    have hb := and_pow m p hm (by omega)
    have h2 : 2 ^ p ≤ 4096 := by
      have : 2 ^ p ≤ 2 ^ 12 := Nat.pow_le_pow_right (by omega) (by omega)
      omega
    have e1 : wrap64 ((p : Int) + 1) = ((p + 1 : Nat) : Int) := by rw [w64 (by omega) (by omega)]; omega
    have e2 : wrap64 (((2 ^ p : Nat) : Int) * 2) = ((2 ^ (p + 1) : Nat) : Int) := by
      rw [Nat.pow_succ]
      clear ih hb
      generalize 2 ^ p = b at *
      rw [w64 (by omega) (by omega)]; omega
    have hl := (bits_at m p).2.2
    have ih2 := ih (p + 1) k (by omega) (by omega) (by omega)
    rw [bitsL] at ih2
    rw [headgateref12_Each.l0, if_pos (by omega), e1, e2]
    by_cases c : bit m p = true
    · rw [if_pos c] at ih2
      rw [if_neg (fun h => by rw [hb.1 h] at c; cases c), if_pos (by omega)]
      exact ih2
    · rw [if_neg c, List.append_nil] at ih2
      rw [if_pos (hb.2 (by simpa using c))]
      exact ih2
theorem reach_eq (m : Int) (h0 : 0 ≤ m) (h1 : m < 8192) (k : Nat) (hk : 20 ≤ k) : headgateref12_Each.f k m = some (bitsL (m % 8192).toNat 13) := by
  obtain ⟨n, rfl⟩ : ∃ n : Nat, m = n := ⟨m.toNat, by omega⟩
  rw [show ((n : Int) % 8192).toNat = n by omega]
  exact reach_l0 n (by omega) 13 0 k (by omega) (by omega) (by omega)
def maskOf (rows : List S27) (pid : Int) : Int := ((Tn.look rows pid).map (·.f3)).getD 0
theorem tail_eq {rows : List S27} (hI : Inv rows) (pid : Int) (l : List S24) (x7 : List S27) (x8 : Int) (k : Nat) (hk : 40 ≤ k) : headgatelaw12_TxnParts.j1 (k + 1) l pid rows (maskOf rows pid) x7 x8 false = some true := by
  have hsame : ∀ m : Int, (bitsL (m % 8192).toNat 13).length ≤ 13 := fun m => (bits_at _ 13).2.2
  rw [headgatelaw12_TxnParts.j1, if_neg (by decide), row_eq hI pid k (by omega), Option.bind_some]
  unfold maskOf
  cases hL : Tn.look rows pid with
  | none =>
    dsimp only [Option.map, Option.getD]
    rw [if_pos rfl, if_neg (by decide), if_pos (by decide), each_eq _ k (by omega), Option.bind_some, reach_eq 0 (by omega) (by omega) k (by omega), Option.bind_some, rsame_self _ (by have := hsame 0; omega) k (by have := hsame 0; omega), Option.bind_some, if_pos rfl, awake_eq k (by omega), Option.bind_some]
  | some x =>
    obtain ⟨o1, o2, o3⟩ := hI.2.2 x (look_some hL).1
    dsimp only [Option.map, Option.getD]
    rw [if_pos rfl, if_pos rfl, if_pos (by
      by_cases c : x.f2 = 1
      · rw [beq_iff_eq.2 c, beq_iff_eq.2 (o3.1 c)]; rfl
      · rw [beq_eq_false_iff_ne.2 c, beq_eq_false_iff_ne.2 (fun h => c (o3.2 h))]; rfl), each_eq _ k (by omega), Option.bind_some, reach_eq x.f3 o2.1 o2.2 k (by omega), Option.bind_some, rsame_self _ (by have := hsame x.f3; omega) k (by have := hsame x.f3; omega), Option.bind_some, if_pos rfl, awake_eq k (by omega), Option.bind_some]
theorem parts_l0 (l : List S24) (pid : Int) (fin : List S27) (d : Nat) : ∀ (j : Nat) (rows : List S27) (k : Nat), Inv rows → (l.take 100).length - j = d → j ≤ (l.take 100).length → 2 * d + 50 ≤ k → ((l.take 100).drop j).foldl Tn.step rows = fin → headgatelaw12_TxnParts.l0 k l pid fin (maskOf rows pid) rows (j : Int) = some true := by
  have hl : (l.take 100).length = min 100 l.length := List.length_take
  induction d with
  | zero =>
    intro j rows k hI hd hj hk hf
    obtain ⟨k, rfl⟩ : ∃ m, k = m + 2 := ⟨k - 2, by omega⟩
    rw [List.drop_eq_nil_of_le (by omega)] at hf
    subst hf
    rw [headgatelaw12_TxnParts.l0]
    split
    · rw [decide_eq_false (by omega)]; exact tail_eq hI pid l _ _ k (by omega)
    · exact tail_eq hI pid l _ _ k (by omega)
  | succ d ih =>
    intro j rows k hI hd hj hk hf
    obtain ⟨k, rfl⟩ : ∃ m, k = m + 2 := ⟨k - 2, by omega⟩
    have hlt : j < (l.take 100).length := by omega
    have hj2 : j < l.length := by omega
    have e1 : wrap64 ((j : Int) + 1) = ((j + 1 : Nat) : Int) := by rw [w64 (by omega) (by omega)]; omega
    have go0 : ∀ rows', Tn.Inv rows' → ((l.take 100).drop (j + 1)).foldl Tn.step rows' = fin → headgatelaw12_TxnParts.l0 k l pid fin (maskOf rows' pid) rows' ((j + 1 : Nat) : Int) = some true := fun rows' hI' hf' => ih (j + 1) rows' k hI' (by omega) (by omega) (by omega) hf'
    clear ih
    have b1 : (j : Int) < (l.length : Int) := by omega
    have b2 : (j : Int) < 100 := by omega
    have b3 : 0 ≤ (j : Int) := by omega
    obtain ⟨r, hr, _, h0⟩ := fold_is hI l[j].f0 l[j].f1 l[j].f2
    rw [List.drop_eq_getElem_cons hlt, List.foldl_cons, List.getElem_take] at hf
    have hst := step_of hr
    rw [headgatelaw12_TxnParts.l0, if_pos b1, decide_eq_true b2, headgatelaw12_TxnParts.j1, if_pos rfl, if_pos b3, if_pos b1, rd24_at l j hj2, hr, Option.bind_some, e1]
    by_cases c : r.2 = 0
    · rw [if_pos c] at hst
      rw [hst] at hf
      obtain ⟨hI', k1, k5, hcase⟩ := h0 c
      clear h0
      have go := go0 r.1 hI' hf
      rw [if_pos c]
      by_cases hp : l[j].f1 = pid
      · rw [if_pos hp]
        have hm : ∀ v : Int, v = maskOf r.1 pid → headgatelaw12_TxnParts.l0 k l pid fin v r.1 ((j + 1 : Nat) : Int) = some true := fun v hv => by rw [hv]; exact go
        have hlook : ∃ y, Tn.look r.1 pid = some y ∧ (l[j].f0 = 1 → y.f3 = 0) ∧ (l[j].f0 = 5 → y.f3 = 0) ∧ (l[j].f0 = 2 → y.f3 = Go.bits .or .i64 (maskOf rows pid) l[j].f2) ∧ (l[j].f0 ≠ 1 → l[j].f0 ≠ 2 → l[j].f0 ≠ 5 → y.f3 = maskOf rows pid) := by
          rcases hcase with ⟨_, q1, q2⟩ | ⟨x, y, q0, q1, _, q2⟩
          · refine ⟨_, by rw [q2, if_pos hp.symm], fun _ => rfl, fun _ => rfl, fun h => by omega, fun h => (h q1).elim⟩
          · have hmx : maskOf rows pid = x.f3 := by unfold maskOf; rw [← hp, q0]; rfl
            refine ⟨y, by rw [q2, if_pos hp.symm], ?_⟩
            unfold txn_Fold.turn at q1
            split at q1
            · rename_i e
              split at q1
              · injection q1 with q1; subst q1; exact ⟨fun _ => rfl, fun _ => rfl, fun h => by omega, fun h => (h e).elim⟩
              · cases q1
            · rename_i e1
              split at q1
              · rename_i e2
                split at q1
                · injection q1 with q1; subst q1; exact ⟨fun h => (e1 h).elim, fun h => by omega, fun _ => by rw [hmx], fun _ h => (h e2).elim⟩
                · cases q1
              · rename_i e2
                split at q1
                · rename_i e5
                  split at q1
                  · injection q1 with q1; subst q1; exact ⟨fun h => (e1 h).elim, fun _ => rfl, fun h => (e2 h).elim, fun _ _ h => (h e5).elim⟩
                  · cases q1
                · rename_i e5
                  split at q1
                  · injection q1 with q1; subst q1; exact ⟨fun h => (e1 h).elim, fun h => (e5 h).elim, fun h => (e2 h).elim, fun _ _ _ => hmx.symm⟩
                  · cases q1
        obtain ⟨y, y0, y1, y5, y2, y3⟩ := hlook
        clear hcase
        have hmy : maskOf r.1 pid = y.f3 := by unfold maskOf; rw [y0]; rfl
        by_cases a2 : l[j].f0 = 2
        · rw [if_pos a2, if_neg (by omega), if_neg (by omega)]
          exact hm _ (by rw [hmy, y2 a2])
        · rw [if_neg a2]
          by_cases a1 : l[j].f0 = 1
          · rw [if_pos a1]; exact hm _ (by rw [hmy, y1 a1])
          · rw [if_neg a1]
            by_cases a5 : l[j].f0 = 5
            · rw [if_pos a5]; exact hm _ (by rw [hmy, y5 a5])
            · rw [if_neg a5]; exact hm _ (by rw [hmy, y3 a1 a2 a5])
      · rw [if_neg hp]
        have hsame : Tn.look r.1 pid = Tn.look rows pid := by
          rcases hcase with ⟨_, _, q2⟩ | ⟨x, y, _, _, _, q2⟩
          · rw [q2, if_neg (fun h => hp h.symm)]
          · rw [q2, if_neg (fun h => hp h.symm)]
        have hm : maskOf rows pid = maskOf r.1 pid := by unfold maskOf; rw [hsame]
        rw [hm]; exact go
    · rw [if_neg c] at hst
      rw [hst] at hf
      rw [if_neg c]
      exact go0 rows hI hf
theorem TxnParts : headgatelaw12_TxnParts.Pure := by
  intro l pid hl hp
  refine ⟨400, ?_⟩
  unfold headgatelaw12_TxnParts.f
  rw [behind_eq l 400 (by omega), Option.bind_some]
  have hl2 : (l.take 100).length = min 100 l.length := List.length_take
  exact parts_l0 l pid (after l) _ 0 [] 400 inv_nil rfl (by omega) (by omega) rfl
end Go.Proofs.Ytleongigmjhegaa.Pure
