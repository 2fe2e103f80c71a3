/- For any numbers: each lies between the ends of its bucket, which lie in it and differ by a sixteenth of the nearer one to 0 at most; greater numbers have no lesser buckets. No condition. -/
import Derived.Test.YtgijangnoekbjaaPx3
import Derived.Test.YtgijangnoekbjaaSp
set_option linter.unusedVariables false
namespace Go.Proofs.Ytgijangnoekbjaa.Pure
open Go.RowKit Go.Proofs.Ytgijangnoekbjaa.Vm Go.Proofs.Ytgijangnoekbjaa.Sm Go.Proofs.Ytgijangnoekbjaa.Sp Go.Proofs.Ytgijangnoekbjaa.P Go.Proofs.YtgijangnoekbjaaW.PrintWords Go.Proofs.YtgijangnoekbjaaW.PrintLast
theorem ends_j1 (v w : Int) (hv : I64 v) (hw : I64 w) (k : Nat) : headgatelaw29_SketchEnds.j1 (k + 1) v w false = some true := by
  rw [headgatelaw29_SketchEnds.j1, if_neg (by decide)]
  by_cases h : v > w
  · rw [if_pos h, awake_eq, Option.bind_some]
  · unfold I64 at hv hw
    have hm := bk_mono (show v ≤ w by omega) hv.1 hw.2
    rw [if_neg h, of_eq hv, Option.bind_some, of_eq hw, Option.bind_some, if_pos hm, awake_eq, Option.bind_some]
theorem ends_j0 (v w x y : Int) (hv : I64 v) (hw : I64 w) (hxy : (0 ≤ x ∧ x ≤ y ∧ y ≤ 9223372036854775807 ∧ y - x ≤ x / 16) ∨ (x < 0 ∧ y < 0 ∧ x ≤ y ∧ -9223372036854775808 ≤ x ∧ y - x ≤ (-1 - y) / 16)) (k : Nat) : headgatelaw29_SketchEnds.j0 (k + 2) v w x y false = some true := by
  rw [headgatelaw29_SketchEnds.j0, if_neg (by decide)]
  rcases hxy with ⟨h1, h2, h3, h4⟩ | ⟨h1, h2, h3, h4, h5⟩
  · rw [if_pos h1, Int.tdiv_eq_ediv_of_nonneg h1, w64 (by omega) (by omega), w64 (by omega) (by omega), if_neg (by omega), if_neg (by omega)]
    exact ends_j1 v w hv hw k
  · rw [if_neg (by omega), if_pos h1, if_neg (by omega), w64 (x := y - x) (by omega) (by omega), w64 (x := -1 - y) (by omega) (by omega), Int.tdiv_eq_ediv_of_nonneg (by omega), w64 (x := (-1 - y) / 16) (by omega) (by omega), w64 (by omega) (by omega), show decide (y - x > (-1 - y) / 16 + 0) = false from decide_eq_false (by omega)]
    exact ends_j1 v w hv hw k
theorem SketchEnds : headgatelaw29_SketchEnds.Pure := by
  intro v w hv0 hw0
  have hv := i64_of hv0
  have hw := i64_of hw0
  refine ⟨10, ?_⟩
  have hv' := hv
  unfold I64 at hv'
  have hr := bk_range v hv'.1 hv'.2
  have hb := bk_between v hv'.1 hv'.2
  have hl1 := lo_range (bk v) hr.1 (by omega)
  have hl2 := lo_range (bk v + 1) (by omega) (by omega)
  have hlt := lo_lt (bk v)
  have k1 : bk (lo (bk v)) = bk v := (bk_iff _ _ (by omega) (by omega)).2 ⟨Int.le_refl _, hlt⟩
  have k2 : bk (lo (bk v + 1) - 1) = bk v := (bk_iff _ _ (by omega) (by omega)).2 ⟨by omega, by omega⟩
  have he : endsR (bk v) = (lo (bk v), lo (bk v + 1) - 1, 0) := by unfold endsR; rw [if_pos hr]
  unfold headgatelaw29_SketchEnds.f
  rw [of_eq hv, Option.bind_some, ends_eq (by unfold I64; omega), he, Option.bind_some]
  dsimp only
  rw [if_pos rfl, if_neg (by omega), if_neg (by omega), of_eq (by unfold I64; omega), k1, Option.bind_some, if_pos rfl, of_eq (by unfold I64; omega), k2, Option.bind_some, show (bk v != bk v) = false by simp]
  refine ends_j0 v w _ _ hv hw ?_ 8
  generalize bk v = b at *
  by_cases h0 : b < 0
  · obtain ⟨a, rfl⟩ : ∃ a : Nat, b = -1 - (a : Int) := ⟨(-1 - b).toNat, by omega⟩
    obtain ⟨e1, e2⟩ := lo_neg a
    have hwd := wide a
    have hs := lst_lt a
    rw [e1] at hl1
    rw [e1, e2]
    exact .inr ⟨by omega, by omega, by omega, by omega, by omega⟩
  · obtain ⟨a, rfl⟩ : ∃ a : Nat, b = (a : Int) := ⟨b.toNat, by omega⟩
    obtain ⟨e1, e2⟩ := lo_pos a
    have hwd := wide a
    have hs := lst_lt a
    rw [e2] at hl2
    rw [e1, e2]
    exact .inl ⟨by omega, by omega, by omega, by omega⟩
end Go.Proofs.Ytgijangnoekbjaa.Pure
