/- Pointers to the fields of one variable in memory (a request), as a row. -/
import Derived.Test.YtikbpjdgihheiaaProg
import Derived.Test.YtikbpjdgihheiaaWWords
import Derived.Test.YtikbpjdgihheiaaWLast
set_option linter.unusedVariables false
namespace Go.Proofs.Ytikbpjdgihheiaa.Kp
open Go.RowKit Go.Proofs.YtikbpjdgihheiaaW.PrintWords Go.Proofs.YtikbpjdgihheiaaW.PrintLast
/-- A pointer to a cell of block g: told by the cell's place. -/
def fp (g : Nat) : Kd Int := Kd.scalar (fun o => Value.pointer (some ⟨g, o.toNat, none⟩)) (fun _ => rfl)
theorem at_fp {w : World} {A : Option Addr} {n g : Nat} {xs : List Int} (h : (fp g).C w A n xs) (i : Int) (h0 : 0 ≤ i) (h1 : i < n) : ∃ ad, A = some ad ∧ w.cell? (ad.add i.toNat) = some (.pointer (some ⟨g, (rd xs i).toNat, none⟩)) :=
  ReadsOf.at_ (Kd.reads_of_C (enc := fun o : Int => Value.pointer (some ⟨g, o.toNat, none⟩)) (d := (0 : Int)) (h1 := fun _ => rfl) h) i h0 h1
theorem fp_ne {g : Nat} {e e' : TypeId} (h : e ≠ e') : ∀ q, q ∈ e :: (fp g).E → q ≠ e' := by
  intro q hq
  rcases List.mem_cons.mp hq with rfl | hq
  · exact h
  · cases hq
/-- The field at a place. -/
def fget (o x2 x3 x4 x5 x6 x7 x8 x9 x10 x11 : Int) : Int := if o = 2 then x2 else if o = 3 then x3 else if o = 4 then x4 else if o = 5 then x5 else if o = 6 then x6 else if o = 7 then x7 else if o = 8 then x8 else if o = 9 then x9 else if o = 10 then x10 else x11
/-- What a field holds behind a store at a place. -/
def fset (o j v x : Int) : Int := if o = j then v else x
theorem places {o : Int} (h2 : 2 ≤ o) (h11 : o ≤ 11) : o = 2 ∨ o = 3 ∨ o = 4 ∨ o = 5 ∨ o = 6 ∨ o = 7 ∨ o = 8 ∨ o = 9 ∨ o = 10 ∨ o = 11 := by omega
variable {W : World} {g : Nat} {x0 x1 x2 x3 x4 x5 x6 x7 x8 x9 x10 x11 : Int} {c12 c13 c14 c15 c16 c17 : Value} {T : TypeId} {o : Int}
theorem fget_cell (h : W.heap[g]? = some (.cells #[.int .i64 x0, .int .i64 x1, .int .i64 x2, .int .i64 x3, .int .i64 x4, .int .i64 x5, .int .i64 x6, .int .i64 x7, .int .i64 x8, .int .i64 x9, .int .i64 x10, .int .i64 x11, c12, c13, c14, c15, c16, c17] T (0, 0))) (h2 : 2 ≤ o) (h11 : o ≤ 11) :
    W.cell? ⟨g, o.toNat, none⟩ = some (.int .i64 (fget o x2 x3 x4 x5 x6 x7 x8 x9 x10 x11)) := by
  rcases places h2 h11 with rfl | rfl | rfl | rfl | rfl | rfl | rfl | rfl | rfl | rfl
  · exact (blk_cell h 2).trans rfl
  · exact (blk_cell h 3).trans rfl
  · exact (blk_cell h 4).trans rfl
  · exact (blk_cell h 5).trans rfl
  · exact (blk_cell h 6).trans rfl
  · exact (blk_cell h 7).trans rfl
  · exact (blk_cell h 8).trans rfl
  · exact (blk_cell h 9).trans rfl
  · exact (blk_cell h 10).trans rfl
  · exact (blk_cell h 11).trans rfl
theorem fset_blk (h : W.heap[g]? = some (.cells #[.int .i64 x0, .int .i64 x1, .int .i64 x2, .int .i64 x3, .int .i64 x4, .int .i64 x5, .int .i64 x6, .int .i64 x7, .int .i64 x8, .int .i64 x9, .int .i64 x10, .int .i64 x11, c12, c13, c14, c15, c16, c17] T (0, 0))) (h2 : 2 ≤ o) (h11 : o ≤ 11) (v : Int) :
    (W.setCell ⟨g, o.toNat, none⟩ (.int .i64 v)).heap[g]? = some (.cells #[.int .i64 x0, .int .i64 x1, .int .i64 (fset o 2 v x2), .int .i64 (fset o 3 v x3), .int .i64 (fset o 4 v x4), .int .i64 (fset o 5 v x5), .int .i64 (fset o 6 v x6), .int .i64 (fset o 7 v x7), .int .i64 (fset o 8 v x8), .int .i64 (fset o 9 v x9), .int .i64 (fset o 10 v x10), .int .i64 (fset o 11 v x11), c12, c13, c14, c15, c16, c17] T (0, 0)) := by
  rcases places h2 h11 with rfl | rfl | rfl | rfl | rfl | rfl | rfl | rfl | rfl | rfl
  · exact blk_put h 2 (.int .i64 v) rfl
  · exact blk_put h 3 (.int .i64 v) rfl
  · exact blk_put h 4 (.int .i64 v) rfl
  · exact blk_put h 5 (.int .i64 v) rfl
  · exact blk_put h 6 (.int .i64 v) rfl
  · exact blk_put h 7 (.int .i64 v) rfl
  · exact blk_put h 8 (.int .i64 v) rfl
  · exact blk_put h 9 (.int .i64 v) rfl
  · exact blk_put h 10 (.int .i64 v) rfl
  · exact blk_put h 11 (.int .i64 v) rfl
/-! ### A whole request out of its variable: one step (cell by cell the kernel's work doubles with each cell) -/
def LDAsk (v : Value) : Sem Value := Instr.loadAt 43 v
theorem LDAsk_in (v : Value) : Instr.loadAt 43 v = LDAsk v := rfl
theorem loadVar_off {P : Program} {ty : TypeId} {d : TypeDesc} {n : Nat} (hu : P.underlying ty = some d) (hd : (match d with | .struct _ | .array _ _ => true | _ => false) = true) (hi : (P.info? ty).map (·.size) = some n) (w : World) (a : Addr) (cs : Array Value) (hn : cs.size = n) (h : ∀ j (v : Value), cs.toList[j]? = some v → w.cell? (a.add j) = some v) : (loadVar ty a).run P w = .ok (.agg cs) w := by
  have hl : (loadCells a cs.toList.length).run P w = .ok cs.toList.toArray w := run_loadCells_list (P := P) w a cs.toList h
  cases hq : P.info? ty with
  | none => simp [hq] at hi
  | some i =>
    have hs : i.size = cs.size := by rw [hn]; simpa [hq] using hi
    have hagg : (isAgg ty).run P w = .ok true w := by
      unfold isAgg
      rw [Sem.run_bind, run_underlying hu w]
      cases d <;> simp_all
    simp only [Array.length_toList, Array.toArray_toList] at hl
    simp [loadVar, Sem.run_bind, hagg, sizeOf, typeInfo, hq, hs, hl]
theorem getD_some' {o : Option Value} (h : o.isSome = true) {v : Value} (hv : o.getD undef = v) : o = some v := by
  subst hv
  cases o with
  | none => cases h
  | some v => rfl
theorem LDAsk_run {w : World} {g : Nat} (h0 : (w.cell? ⟨g, 0, none⟩).isSome = true) (h1 : (w.cell? ⟨g, 1, none⟩).isSome = true) (h2 : (w.cell? ⟨g, 2, none⟩).isSome = true) (h3 : (w.cell? ⟨g, 3, none⟩).isSome = true) (h4 : (w.cell? ⟨g, 4, none⟩).isSome = true) (h5 : (w.cell? ⟨g, 5, none⟩).isSome = true) (h6 : (w.cell? ⟨g, 6, none⟩).isSome = true) (h7 : (w.cell? ⟨g, 7, none⟩).isSome = true) (h8 : (w.cell? ⟨g, 8, none⟩).isSome = true) (h9 : (w.cell? ⟨g, 9, none⟩).isSome = true) (h10 : (w.cell? ⟨g, 10, none⟩).isSome = true) (h11 : (w.cell? ⟨g, 11, none⟩).isSome = true) (h12 : (w.cell? ⟨g, 12, none⟩).isSome = true) (h13 : (w.cell? ⟨g, 13, none⟩).isSome = true) (h14 : (w.cell? ⟨g, 14, none⟩).isSome = true) (h15 : (w.cell? ⟨g, 15, none⟩).isSome = true) (h16 : (w.cell? ⟨g, 16, none⟩).isSome = true) (h17 : (w.cell? ⟨g, 17, none⟩).isSome = true) : (LDAsk (.pointer (some ⟨g, 0, none⟩))).run Try.prog w = .ok (.agg #[(w.cell? ⟨g, 0, none⟩).getD undef, (w.cell? ⟨g, 1, none⟩).getD undef, (w.cell? ⟨g, 2, none⟩).getD undef, (w.cell? ⟨g, 3, none⟩).getD undef, (w.cell? ⟨g, 4, none⟩).getD undef, (w.cell? ⟨g, 5, none⟩).getD undef, (w.cell? ⟨g, 6, none⟩).getD undef, (w.cell? ⟨g, 7, none⟩).getD undef, (w.cell? ⟨g, 8, none⟩).getD undef, (w.cell? ⟨g, 9, none⟩).getD undef, (w.cell? ⟨g, 10, none⟩).getD undef, (w.cell? ⟨g, 11, none⟩).getD undef, (w.cell? ⟨g, 12, none⟩).getD undef, (w.cell? ⟨g, 13, none⟩).getD undef, (w.cell? ⟨g, 14, none⟩).getD undef, (w.cell? ⟨g, 15, none⟩).getD undef, (w.cell? ⟨g, 16, none⟩).getD undef, (w.cell? ⟨g, 17, none⟩).getD undef]) w := by
  unfold LDAsk
  simp only [Instr.loadAt, Instr.sureAddr, Sem.run_bind, Sem.run_pure, Result.andThen_ok]
  refine loadVar_off Try.underlying43 rfl (by kernel_rfl : _ = some 18) w _ _ rfl fun j v hj => ?_
  have hadd : (⟨g, 0, none⟩ : Addr).add j = ⟨g, j, none⟩ := by unfold Addr.add; split <;> simp_all
  rw [hadd]
  match j, hj with
  | 0, hj => exact getD_some' h0 (Option.some.inj hj)
  | 1, hj => exact getD_some' h1 (Option.some.inj hj)
  | 2, hj => exact getD_some' h2 (Option.some.inj hj)
  | 3, hj => exact getD_some' h3 (Option.some.inj hj)
  | 4, hj => exact getD_some' h4 (Option.some.inj hj)
  | 5, hj => exact getD_some' h5 (Option.some.inj hj)
  | 6, hj => exact getD_some' h6 (Option.some.inj hj)
  | 7, hj => exact getD_some' h7 (Option.some.inj hj)
  | 8, hj => exact getD_some' h8 (Option.some.inj hj)
  | 9, hj => exact getD_some' h9 (Option.some.inj hj)
  | 10, hj => exact getD_some' h10 (Option.some.inj hj)
  | 11, hj => exact getD_some' h11 (Option.some.inj hj)
  | 12, hj => exact getD_some' h12 (Option.some.inj hj)
  | 13, hj => exact getD_some' h13 (Option.some.inj hj)
  | 14, hj => exact getD_some' h14 (Option.some.inj hj)
  | 15, hj => exact getD_some' h15 (Option.some.inj hj)
  | 16, hj => exact getD_some' h16 (Option.some.inj hj)
  | 17, hj => exact getD_some' h17 (Option.some.inj hj)
  | k + 18, hj => exact absurd hj (by simp)
theorem LDAsk_blk {w : World} {g : Nat} {c0 c1 c2 c3 c4 c5 c6 c7 c8 c9 c10 c11 c12 c13 c14 c15 c16 c17 : Value} {t : TypeId} (h : w.heap[g]? = some (.cells #[c0, c1, c2, c3, c4, c5, c6, c7, c8, c9, c10, c11, c12, c13, c14, c15, c16, c17] t (0, 0))) : (LDAsk (.pointer (some ⟨g, 0, none⟩))).run Try.prog w = .ok (.agg #[c0, c1, c2, c3, c4, c5, c6, c7, c8, c9, c10, c11, c12, c13, c14, c15, c16, c17]) w := by
  have hc : ∀ i, w.cell? ⟨g, i, none⟩ = #[c0, c1, c2, c3, c4, c5, c6, c7, c8, c9, c10, c11, c12, c13, c14, c15, c16, c17][i]? := fun i => blk_cell h i
  rw [LDAsk_run (by rw [hc]; rfl) (by rw [hc]; rfl) (by rw [hc]; rfl) (by rw [hc]; rfl) (by rw [hc]; rfl) (by rw [hc]; rfl) (by rw [hc]; rfl) (by rw [hc]; rfl) (by rw [hc]; rfl) (by rw [hc]; rfl) (by rw [hc]; rfl) (by rw [hc]; rfl) (by rw [hc]; rfl) (by rw [hc]; rfl) (by rw [hc]; rfl) (by rw [hc]; rfl) (by rw [hc]; rfl) (by rw [hc]; rfl)]
  simp only [hc]
  rfl
theorem put5 {w : World} {g : Nat} {c0 c1 c2 c3 c4 c5 c6 c7 c8 c9 c10 c11 c12 c13 c14 c15 c16 c17 : Value} {t : TypeId} (h : w.heap[g]? = some (.cells #[c0, c1, c2, c3, c4, c5, c6, c7, c8, c9, c10, c11, c12, c13, c14, c15, c16, c17] t (0, 0))) (v13 v14 v15 v16 v17 : Value) : (((((w.setCell ⟨g, 13, none⟩ v13).setCell ⟨g, 14, none⟩ v14).setCell ⟨g, 15, none⟩ v15).setCell ⟨g, 16, none⟩ v16).setCell ⟨g, 17, none⟩ v17).heap[g]? = some (.cells #[c0, c1, c2, c3, c4, c5, c6, c7, c8, c9, c10, c11, c12, v13, v14, v15, v16, v17] t (0, 0)) :=
  blk_put (blk_put (blk_put (blk_put (blk_put h 13 v13 rfl) 14 v14 rfl) 15 v15 rfl) 16 v16 rfl) 17 v17 rfl
end Go.Proofs.Ytikbpjdgihheiaa.Kp
