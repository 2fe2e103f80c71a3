/- Transactions: what txn's functions come to, in plain words. -/
import Derived.Test.YtleongigmjhegaaPx4
import Derived.Test.YtleongigmjhegaaPx5
set_option linter.unusedVariables false
set_option linter.unusedSimpArgs false
namespace Go.Proofs.Ytleongigmjhegaa.Tn
open Go.RowKit Go.Proofs.Ytleongigmjhegaa.P Go.Proofs.YtleongigmjhegaaW.PrintWords Go.Proofs.YtleongigmjhegaaW.PrintLast Go.Proofs.YtleongigmjhegaaW.PrintMore
theorem w64 {x : Int} (h0 : -9223372036854775808 ≤ x) (h1 : x ≤ 9223372036854775807) : wrap64 x = x := by unfold wrap64; omega
theorem i64_of {n : Int} (h : (Lit.int .i64 n).wf = true) : -9223372036854775808 ≤ n ∧ n ≤ 9223372036854775807 := by
  simp [Lit.wf, IntKind.min, IntKind.max, IntKind.signed, IntKind.bits] at h
  omega
theorem rd24_at (s : List S24) (j : Nat) (h : j < s.length) : rd_T24 s (j : Int) = s[j] := by
  simp [rd_T24, List.getD_eq_getElem?_getD, List.getElem?_eq_getElem h]
theorem behind_step (x0 : List S24) (rows : List S27) (j : Nat) (h : j < x0.length) (h2 : j < 100) (k : Nat) (r : List S27 × Int) (hr : txn_Fold.f rows x0[j].f0 x0[j].f1 x0[j].f2 = some r) :
    headgatelaw12_behind.l0 (k + 2) x0 rows (j : Int) = headgatelaw12_behind.l0 k x0 (if r.2 = 0 then r.1 else rows) ((j + 1 : Nat) : Int) := by
  have e1 : wrap64 ((j : Int) + 1) = ((j + 1 : Nat) : Int) := by rw [w64 (by omega) (by omega)]; omega
  rw [headgatelaw12_behind.l0, if_pos (by omega), decide_eq_true (by omega), headgatelaw12_behind.j1, if_pos rfl, if_pos (by omega), if_pos (by omega), rd24_at x0 j h, hr, Option.bind_some, e1]
  split <;> rfl
theorem behind_end (x0 : List S24) (rows : List S27) (j : Nat) (h : x0.length ≤ j ∨ 100 ≤ j) (k : Nat) : headgatelaw12_behind.l0 (k + 2) x0 rows (j : Int) = some rows := by
  rw [headgatelaw12_behind.l0]
  split
  · rw [decide_eq_false (by omega), headgatelaw12_behind.j1, if_neg (by decide)]
  · rw [headgatelaw12_behind.j1, if_neg (by decide)]
theorem awake_20 : headgatelaw12_awake.f 20 = some true := by
  have e1 : txn_Fold.f [] 1 1 0 = some ([⟨1, 1, 1, 0, 0⟩], 0) := by rfl
  have e2 : txn_Fold.f [⟨1, 1, 1, 0, 0⟩] 2 1 5 = some ([⟨1, 1, 2, 5, 0⟩], 0) := by rfl
  have e3 : txn_Fold.f [⟨1, 1, 2, 5, 0⟩] 3 1 0 = some ([⟨1, 1, 3, 5, 0⟩], 0) := by rfl
  have e4 : txn_Fold.f [⟨1, 1, 3, 5, 0⟩] 5 1 0 = some ([⟨1, 2, 1, 0, 3⟩], 0) := by rfl
  unfold headgatelaw12_awake.f headgatelaw12_behind.f
  rw [show (0 : Int) = ((0 : Nat) : Int) from rfl, behind_step _ _ 0 (by decide) (by omega) 18 _ e1, if_pos rfl, behind_step _ _ 1 (by decide) (by omega) 16 _ e2, if_pos rfl, behind_step _ _ 2 (by decide) (by omega) 14 _ e3, if_pos rfl, behind_step _ _ 3 (by decide) (by omega) 12 _ e4, if_pos rfl, behind_end _ _ 4 (.inl (by decide)) 10, Option.bind_some]
  rfl
theorem awake_eq (k : Nat) (hk : 20 ≤ k) : headgatelaw12_awake.f k = some true :=
  at_rounds (g := headgatelaw12_awake.f) headgatelaw12_awake.mono hk awake_20
end Go.Proofs.Ytleongigmjhegaa.Tn
