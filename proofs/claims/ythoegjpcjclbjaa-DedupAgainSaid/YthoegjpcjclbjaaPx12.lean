-- Written by wip/mk.py of this repo: the kit's print program, with contracts of our own among its functions.
import Derived.Test.YthoegjpcjclbjaaPx0
import Derived.Test.YthoegjpcjclbjaaPx5
import Derived.Test.YthoegjpcjclbjaaPx9
import Derived.Test.YthoegjpcjclbjaaPx11
namespace Go.Proofs.Ythoegjpcjclbjaa.P
open Go.RowKit Go.Proofs.YthoegjpcjclbjaaW.PrintWords Go.Proofs.YthoegjpcjclbjaaW.PrintLast Go.Proofs.YthoegjpcjclbjaaW.PrintMore
attribute [local go_sem] max2_int min2_int max_two min_two max_three min_three max_four min_four   -- for this text's walks alone
set_option linter.unusedVariables false
set_option linter.unusedSimpArgs false

/-! ### headgatelaw07_DedupAgain: function 6 -/
theorem headgatelaw07_DedupAgain.h49 : Kd.Heap k49 := Kd.heap_iso _ (Kd.heap_pair (Kd.heap_int .i64) (Kd.heap_pair (Kd.heap_int .i64) Kd.heap_string))
theorem headgatelaw07_DedupAgain.h25 : Kd.Heap k25 := Kd.heap_iso _ (Kd.heap_pair (Kd.heap_int .i64) (Kd.heap_pair (Kd.heap_int .i64) (Kd.heap_pair (Kd.heap_int .i64) (Kd.heap_pair (Kd.heap_int .i64) (Kd.heap_slice 49 headgatelaw07_DedupAgain.h49)))))
/-- The last batch of a producer among the first j. -/
def headgatelaw07_DedupAgain.lastT (q : Int) (ins : List S25) : Nat → Int
  | 0 => -1
  | j + 1 => if (rd_T25 ins (j : Int)).f1 = q then (j : Int) else headgatelaw07_DedupAgain.lastT q ins j
/-- What is told of the last batch L of a producer: it is known, and the next one is let in. -/
def headgatelaw07_DedupAgain.good (k : Nat) (ins : List S25) (ats : List Int) (p : List S44) (L : Int) : Prop :=
  L < 0 ∨ (0 ≤ L ∧ L < ins.length ∧ dedup_Look.f k p (rd_T25 ins L).f0 (rd_T25 ins L).f1 (rd_T25 ins L).f2 (rd_T25 ins L).f3 (rd_T25 ins L).f4 = some (rd ats L, true, 0)
    ∧ (1099511627776 < wrap64 ((rd_T25 ins L).f3 + ((rd_T25 ins L).f4.length : Int)) ∨ ∃ n, dedup_Look.f k p (rd_T25 ins L).f0 (rd_T25 ins L).f1 (rd_T25 ins L).f2 (wrap64 ((rd_T25 ins L).f3 + ((rd_T25 ins L).f4.length : Int))) (rd_T25 ins L).f4 = some (n, false, 0)))
/-- THE ONE PURE STATEMENT of headgatelaw07_DedupAgain: yours. -/
def headgatelaw07_DedupAgain.Pure : Prop := ∀ (l0 : List S25), (l0.length ≤ 9223372036854775807 ∧ ∀ y_ ∈ l0, wf25 y_) → ∃ (k : Nat) (ins : List S25) (ats : List Int) (p : List S44),
  headgatelaw07_let.f k l0 = some (ins, ats, p, true) ∧ ins.length ≤ 60 ∧ ats.length = ins.length ∧ (∀ q : Nat, 1 ≤ q → q ≤ 8 → headgatelaw07_DedupAgain.good k ins ats p (headgatelaw07_DedupAgain.lastT (q : Int) ins ins.length)) ∧ headgatelaw07_awake.f k = some true
theorem headgatelaw07_DedupAgain.w64 {x : Int} (h1 : -9223372036854775808 ≤ x) (h2 : x ≤ 9223372036854775807) : wrap64 x = x := by unfold wrap64; omega
set_option maxHeartbeats 16000000 in
set_option maxRecDepth 100000 in
theorem headgatelaw07_DedupAgain.walk (P : headgatelaw07_DedupAgain.Pure) (A0 : Option Addr) (c0 : Nat) (l0 : List S25) (w : World) (hr0 : Kd.C k25 w A0 l0.length l0) (hc0 : l0.length ≤ c0) (w0_ : l0.length ≤ 9223372036854775807 ∧ ∀ y_ ∈ l0, wf25 y_) :
    Calls Try.prog 6 #[.slice A0 l0.length c0] w fun e w' => e = .returned (.bool true) ∧ Below w.heap.size w w' := by
  have hu25 := Try.underlying25
  obtain ⟨k, ins, ats, p, h1, h2, h3, h4, h5⟩ := P l0 w0_
  have HR0 := Aside0.mk hr0
  have HC0 := Aside0.mk hc0
  have HL := Aside0.mk h1
  have H60 := Aside0.mk h2
  have HN := Aside0.mk h3
  have HG := Aside0.mk h4
  have HW := Aside0.mk h5
  clear hr0 hc0 w0_ h1 h2 h3 h4 h5 P
  go_enter Try.func6, Try.ntmps6
  go_wp2_with (fail)
  refine (headgatelaw07_let.calls k (fun k_ => k_ < w.heap.size) _ _ l0 ins ats p true _ (Kd.V_mk HC0.out (Kd.C_F headgatelaw07_DedupAgain.h25 HR0.out)) HL.out).mono ?_
  rintro e w4 ⟨v3, v4, v5, rfl, ho0, ho1, ho2, hb⟩
  obtain ⟨Ai, ci, e3⟩ := Kd.N_slice ho0
  subst e3
  obtain ⟨Aa, ca, e4⟩ := Kd.R_slice ho1
  subst e4
  obtain ⟨Ap, cp, e5⟩ := Kd.R_slice ho2
  subst e5
  have HI := Aside0.mk (Kd.N_reads' ho0).2
  have HA := Aside0.mk (Kd.R_reads' ho1).2
  have HP := Aside0.mk (Kd.R_reads' ho2).2
  have HB := Aside0.mk hb
  clear ho0 ho1 ho2 hb
  go_wp2
  go_loopg [7] 9 (fun kq v7 w' => ∃ q : Nat, v7 = .int .i64 (q : Int) ∧ Aside0 (1 ≤ q ∧ q ≤ 9 ∧ q + kq = 10) ∧ Aside0 (Below w4.heap.size w4 w'))
  case atStart => exact ⟨1, rfl, ⟨by omega⟩, ⟨Below.refl _ _⟩⟩
  case round =>
    obtain ⟨q, rfl, HQ, HB4⟩ := hrel
    cases gk with
    | zero => exact absurd HQ.out (by omega)
    | succ k1 =>
    by_cases c5 : (q : Int) ≤ 8
    · have c5b0 : decide ((q : Int) ≤ 8) = true := decide_eq_true c5
      have HQ8 := Aside0.mk c5
      clear c5
      go_wp2
      go_loopg [8, 9] (ins.length + 1) (fun kq v8 v9 w' => ∃ (j : Nat) (y x : Int), v8 = .int .i64 y ∧ v9 = .int .i64 x ∧ Aside0 (x = (j : Int) ∧ y = headgatelaw07_DedupAgain.lastT (q : Int) ins j) ∧ Aside0 (j ≤ ins.length ∧ j + kq = ins.length + 1) ∧ Aside0 (Below w4.heap.size w4 w'))
      case atStart => exact ⟨0, -1, 0, rfl, rfl, ⟨rfl, rfl⟩, ⟨by omega⟩, HB4⟩
      case round =>
        clear HB4
        obtain ⟨j, y, x, rfl, rfl, HX, HJ, HB4⟩ := hrel
        cases gk with
        | zero => exact absurd HJ.out (by omega)
        | succ k2 =>
        by_cases c6 : x < (ins.length : Int)
        · have c6b0 : decide (x < (ins.length : Int)) = true := decide_eq_true c6
          have p1 : 0 ≤ x := by have := HX.out.1; omega
          obtain ⟨ad, A4, c4, ea, hx0, hx1, hx2, hx3, hx4, hl4, hi4⟩ := at_T25 (Kd.C_below HI.out.2 HB4.out) x p1 c6
          cases ea
          clear hl4 hi4
          replace p1 := eq_true p1
          have CJ : Aside0 (j < ins.length) := ⟨by have := HX.out.1; omega⟩
          replace c6 := eq_true c6
          have HWJ : Aside0 (wrap64 (x + 1) = ((j + 1 : Nat) : Int)) := ⟨by have h1 := CJ.out; have h2 := H60.out; rw [HX.out.1, headgatelaw07_DedupAgain.w64 (by omega) (by omega)]; omega⟩
          by_cases c8 : (rd_T25 ins x).f1 = (q : Int)
          · have c8b0 : ((rd_T25 ins x).f1 == (q : Int)) = true := beq_iff_eq.mpr c8
            have HT : Aside0 (x = headgatelaw07_DedupAgain.lastT (q : Int) ins (j + 1)) := ⟨by rw [headgatelaw07_DedupAgain.lastT, ← HX.out.1, if_pos c8]⟩
            clear c8
            go_wp2
            go_roundg k2
            case measure => have := HJ.out; omega
            case rel => exact ⟨j + 1, x, wrap64 (x + 1), rfl, rfl, ⟨HWJ.out, HT.out⟩, ⟨by have := HJ.out; have := CJ.out; omega⟩, HB4⟩
          · have c8b0 : ((rd_T25 ins x).f1 == (q : Int)) = false := beq_eq_false_iff_ne.mpr c8
            have HT : Aside0 (y = headgatelaw07_DedupAgain.lastT (q : Int) ins (j + 1)) := ⟨by rw [headgatelaw07_DedupAgain.lastT, ← HX.out.1, if_neg c8]; exact HX.out.2⟩
            clear c8
            go_wp2
            go_roundg k2
            case measure => have := HJ.out; omega
            case rel => exact ⟨j + 1, y, wrap64 (x + 1), rfl, rfl, ⟨HWJ.out, HT.out⟩, ⟨by have := HJ.out; have := CJ.out; omega⟩, HB4⟩
        · have c6b0 : decide (x < (ins.length : Int)) = false := decide_eq_false c6
          have HGQ : Aside0 (headgatelaw07_DedupAgain.good k ins ats p y) := ⟨by
            have h1 := HX.out
            have h2 := HJ.out
            have h3 := HG.out q HQ.out.1 (by have := HQ8.out; omega)
            rw [show ins.length = j by omega, ← h1.2] at h3
            exact h3⟩
          have HWQ : Aside0 (wrap64 ((q : Int) + 1) = ((q + 1 : Nat) : Int)) := ⟨by have h1 := HQ8.out; rw [headgatelaw07_DedupAgain.w64 (by omega) (by omega)]; omega⟩
          clear c6
          rcases HGQ.out with c7 | ⟨c7, c8, hlk, hnx⟩
          · have c7b0 : decide (y < 0) = true := decide_eq_true c7
            clear c7
            go_wp2
            go_roundg k1
            case measure => have := HQ.out; omega
            case rel => exact ⟨q + 1, by rw [HWQ.out], ⟨by have := HQ.out; have := HQ8.out; omega⟩, HB4⟩
          · have c7b0 : decide (y < 0) = false := decide_eq_false (by omega)
            have HLK := Aside0.mk hlk
            have HNX := Aside0.mk hnx
            obtain ⟨ad, A4, c4, ea, hx0, hx1, hx2, hx3, hx4, hl4, hi4⟩ := at_T25 (Kd.C_below HI.out.2 HB4.out) y c7 c8
            cases ea
            have HL4 := Aside0.mk hl4
            have HI4 := Aside0.mk hi4
            have C7 := Aside0.mk c7
            have C8 := Aside0.mk c8
            clear hl4 hi4 hlk hnx
            replace c7 := eq_true c7
            replace c8 := eq_true c8
            generalize hW0 : wr = W0 at *
            clear hW0
            go_wp2_with (fail)
            have BK1 : Aside0 ((W0.alloc (.cells #[.int .i64 (rd_T25 ins y).f0, .int .i64 (rd_T25 ins y).f1, .int .i64 (rd_T25 ins y).f2, .int .i64 (rd_T25 ins y).f3, .slice A4 (rd_T25 ins y).f4.length c4] 25)).heap[W0.heap.size]? = some (.cells #[.int .i64 (rd_T25 ins y).f0, .int .i64 (rd_T25 ins y).f1, .int .i64 (rd_T25 ins y).f2, .int .i64 (rd_T25 ins y).f3, .slice A4 (rd_T25 ins y).f4.length c4] 25 (0, 0))) := ⟨blk_new _ _⟩
            have HB1 : Aside0 (Below w4.heap.size w4 (W0.alloc (.cells #[.int .i64 (rd_T25 ins y).f0, .int .i64 (rd_T25 ins y).f1, .int .i64 (rd_T25 ins y).f2, .int .i64 (rd_T25 ins y).f3, .slice A4 (rd_T25 ins y).f4.length c4] 25))) := ⟨below_alloc HB4.out _⟩
            have HE1 : Aside0 (Below W0.heap.size W0 (W0.alloc (.cells #[.int .i64 (rd_T25 ins y).f0, .int .i64 (rd_T25 ins y).f1, .int .i64 (rd_T25 ins y).f2, .int .i64 (rd_T25 ins y).f3, .slice A4 (rd_T25 ins y).f4.length c4] 25))) := ⟨below_alloc (Below.refl _ _) _⟩
            have HI5 : Aside0 (Kd.C k49 (W0.alloc (.cells #[.int .i64 (rd_T25 ins y).f0, .int .i64 (rd_T25 ins y).f1, .int .i64 (rd_T25 ins y).f2, .int .i64 (rd_T25 ins y).f3, .slice A4 (rd_T25 ins y).f4.length c4] 25)) A4 (rd_T25 ins y).f4.length (rd_T25 ins y).f4) := ⟨Kd.C_below HI4.out HE1.out⟩
            refine (dedup_Look.calls k _ _ p (rd_T25 ins y).f0 (rd_T25 ins y).f1 (rd_T25 ins y).f2 (rd_T25 ins y).f3 _ _ (rd_T25 ins y).f4 (rd ats y) true 0 _ (Kd.C_below HP.out.2 HB1.out) HP.out.1 HI5.out HL4.out HLK.out).mono ?_
            rintro e W2 ⟨rfl, hb⟩
            have BK2 := Aside0.mk (blk_below BK1.out hb)
            have HB2 := Aside0.mk (below_step HB1.out hb)
            have HE2 := Aside0.mk (below_step HE1.out hb)
            have HG2 : Aside0 (w4.heap.size ≤ W0.heap.size) := ⟨HB4.out.size⟩
            clear hb BK1 HB1 HE1 HI5
            clear hx0 hx1 hx2 hx3 hx4
            have q1 : y < (ats.length : Int) := by have := C8.out; have := HN.out; omega
            obtain ⟨ae, ee, hy0⟩ := Kd.at_int (Kd.C_below HA.out.2 HB2.out) y C7.out q1
            cases ee
            replace q1 := eq_true q1
            have hz0 : W2.cell? ⟨W0.heap.size, 0, none⟩ = some (.int .i64 (rd_T25 ins y).f0) := (blk_cell BK2.out 0).trans rfl
            have hz1 : W2.cell? ⟨W0.heap.size, 1, none⟩ = some (.int .i64 (rd_T25 ins y).f1) := (blk_cell BK2.out 1).trans rfl
            have hz2 : W2.cell? ⟨W0.heap.size, 2, none⟩ = some (.int .i64 (rd_T25 ins y).f2) := (blk_cell BK2.out 2).trans rfl
            have hz3 : W2.cell? ⟨W0.heap.size, 3, none⟩ = some (.int .i64 (rd_T25 ins y).f3) := (blk_cell BK2.out 3).trans rfl
            have hz4 : W2.cell? ⟨W0.heap.size, 4, none⟩ = some (.slice A4 (rd_T25 ins y).f4.length c4) := (blk_cell BK2.out 4).trans rfl
            have hf3 := blk_frozen BK2.out 3
            by_cases c9 : 1099511627776 < wrap64 ((rd_T25 ins y).f3 + ((rd_T25 ins y).f4.length : Int))
            · have c9b0 : decide (1099511627776 < wrap64 ((rd_T25 ins y).f3 + ((rd_T25 ins y).f4.length : Int))) = true := decide_eq_true c9
              clear c9
              go_wp2
              go_roundg k1
              case measure => have := HQ.out; omega
              case rel => exact ⟨q + 1, by rw [HWQ.out], ⟨by have := HQ.out; have := HQ8.out; omega⟩, HB2⟩
            · have c9b0 : decide (1099511627776 < wrap64 ((rd_T25 ins y).f3 + ((rd_T25 ins y).f4.length : Int))) = false := decide_eq_false c9
              obtain ⟨n, hn⟩ := HNX.out.resolve_left c9
              have HNN := Aside0.mk hn
              clear c9 hn
              have BK3 : Aside0 ((W2.setCell ⟨W0.heap.size, 3, none⟩ (.int .i64 (wrap64 ((rd_T25 ins y).f3 + ((rd_T25 ins y).f4.length : Int))))).heap[W0.heap.size]? = some (.cells #[.int .i64 (rd_T25 ins y).f0, .int .i64 (rd_T25 ins y).f1, .int .i64 (rd_T25 ins y).f2, .int .i64 (wrap64 ((rd_T25 ins y).f3 + ((rd_T25 ins y).f4.length : Int))), .slice A4 (rd_T25 ins y).f4.length c4] 25 (0, 0))) := ⟨blk_put BK2.out 3 _ rfl⟩
              have HB3 : Aside0 (Below w4.heap.size w4 (W2.setCell ⟨W0.heap.size, 3, none⟩ (.int .i64 (wrap64 ((rd_T25 ins y).f3 + ((rd_T25 ins y).f4.length : Int)))))) := ⟨below_set HB2.out HG2.out⟩
              have HI6 : Aside0 (Kd.C k49 (W2.setCell ⟨W0.heap.size, 3, none⟩ (.int .i64 (wrap64 ((rd_T25 ins y).f3 + ((rd_T25 ins y).f4.length : Int))))) A4 (rd_T25 ins y).f4.length (rd_T25 ins y).f4) := ⟨Kd.C_below HI4.out (below_set HE2.out (Nat.le_refl _))⟩
              go_wp2_with (fail)
              refine (dedup_Look.calls k _ _ p (rd_T25 ins y).f0 (rd_T25 ins y).f1 (rd_T25 ins y).f2 (wrap64 ((rd_T25 ins y).f3 + ((rd_T25 ins y).f4.length : Int))) _ _ (rd_T25 ins y).f4 n false 0 _ (Kd.C_below HP.out.2 HB3.out) HP.out.1 HI6.out HL4.out HNN.out).mono ?_
              rintro e W4 ⟨rfl, hb⟩
              have HB4' := Aside0.mk (below_step HB3.out hb)
              clear hb
              go_wp2
              go_roundg k1
              case measure => have := HQ.out; omega
              case rel => exact ⟨q + 1, by rw [HWQ.out], ⟨by have := HQ.out; have := HQ8.out; omega⟩, HB4'⟩
    · have c5b0 : decide ((q : Int) ≤ 8) = false := decide_eq_false c5
      clear c5
      go_wp2_with (fail)
      refine (headgatelaw07_awake.calls k true _ HW.out).mono ?_
      rintro e w5 ⟨rfl, hb⟩
      have HB5 := Aside0.mk (below_step (below_step HB.out HB4.out) hb)
      clear hb
      go_wp2
      go_ret
      exact ⟨rfl, HB5.out⟩

end Go.Proofs.Ythoegjpcjclbjaa.P
