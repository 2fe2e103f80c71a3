-- Written by wip/mk.py of this repo: the kit's print program, with contracts of our own among its functions.
import Derived.Test.YthoegjpcjclbjaaPx0
import Derived.Test.YthoegjpcjclbjaaPx3
import Derived.Test.YthoegjpcjclbjaaPx4
namespace Go.Proofs.Ythoegjpcjclbjaa.P
open Go.RowKit Go.Proofs.YthoegjpcjclbjaaW.PrintWords Go.Proofs.YthoegjpcjclbjaaW.PrintLast Go.Proofs.YthoegjpcjclbjaaW.PrintMore
attribute [local go_sem] max2_int min2_int max_two min_two max_three min_three max_four min_four   -- for this text's walks alone
set_option linter.unusedVariables false
set_option linter.unusedSimpArgs false

/-! ### dedup_Look: function 11 -/
mutual
def dedup_Look.j0 : Nat → List (S44) → Bool → Int → Int → Int → Int → List (S49) → Option (Int × Bool × Int)
  | 0, _, _, _, _, _, _, _ => none
  | k + 1, x0, x17, x115000, x115001, x115002, x115003, x115004 => if x17 = true then (some (0, false, 1)) else (if x115001 = 0 then (some (0, false, 0)) else ((dedup_find.f x0 x115001).bind fun bt117 => (if bt117.2 = true then (if 0 ≤ bt117.1 then (if bt117.1 < (x0.length : Int) then (dedup_Look.j1 k x115000 x115001 x115002 x115003 x115004 ((rd_T44 x0 bt117.1).f0) ((rd_T44 x0 bt117.1).f1) ((rd_T44 x0 bt117.1).f2) ((rd_T44 x0 bt117.1).f3) ((rd_T44 x0 bt117.1).f4)) else (none)) else (none)) else (dedup_Look.j1 k x115000 x115001 x115002 x115003 x115004 x115001 0 0 0 0))))
def dedup_Look.j1 : Nat → Int → Int → Int → Int → List (S49) → Int → Int → Int → Int → Int → Option (Int × Bool × Int)
  | 0, _, _, _, _, _, _, _, _, _, _ => none
  | k + 1, x115000, x115001, x115002, x115003, x115004, x117000, x117001, x117002, x117003, x117004 => if x115002 < x117001 then (some (0, false, 8)) else (if x115002 > x117001 then (dedup_Look.j2 k x115000 x115001 x115002 x115003 x115004 x115001 x115002 0 0 0) else (dedup_Look.j2 k x115000 x115001 x115002 x115003 x115004 x117000 x117001 x117002 x117003 x117004))
def dedup_Look.j2 : Nat → Int → Int → Int → Int → List (S49) → Int → Int → Int → Int → Int → Option (Int × Bool × Int)
  | 0, _, _, _, _, _, _, _, _, _, _ => none
  | k + 1, x115000, x115001, x115002, x115003, x115004, x117000, x117001, x117002, x117003, x117004 => if x117003 > 0 then (if x115003 = x117002 then (dedup_Look.j3 k ((x115004.length : Int) == x117003) x115000 x115001 x115002 x115003 x115004 x117000 x117001 x117002 x117003 x117004) else (dedup_Look.j3 k false x115000 x115001 x115002 x115003 x115004 x117000 x117001 x117002 x117003 x117004)) else (dedup_Look.j3 k false x115000 x115001 x115002 x115003 x115004 x117000 x117001 x117002 x117003 x117004)
def dedup_Look.j3 : Nat → Bool → Int → Int → Int → Int → List (S49) → Int → Int → Int → Int → Int → Option (Int × Bool × Int)
  | 0, _, _, _, _, _, _, _, _, _, _, _ => none
  | k + 1, x51, x115000, x115001, x115002, x115003, x115004, x117000, x117001, x117002, x117003, x117004 => if x51 = true then (some (x117004, true, 0)) else (if x117003 > 0 then (dedup_Look.j4 k ((wrap64 (x115003 - x117003)) == x117002) x115000 x115001 x115002 x115003 x115004 x117000 x117001 x117002 x117003 x117004) else (dedup_Look.j4 k false x115000 x115001 x115002 x115003 x115004 x117000 x117001 x117002 x117003 x117004))
def dedup_Look.j4 : Nat → Bool → Int → Int → Int → Int → List (S49) → Int → Int → Int → Int → Int → Option (Int × Bool × Int)
  | 0, _, _, _, _, _, _, _, _, _, _, _ => none
  | k + 1, x72, x115000, x115001, x115002, x115003, x115004, x117000, x117001, x117002, x117003, x117004 => if x72 = true then (some (0, false, 0)) else (if x117003 ≤ 0 then (if x115003 = 0 then (some (0, false, 0)) else (some (0, false, 7))) else (some (0, false, 7)))
end
def dedup_Look.f (k : Nat) (l0 : List (S44)) (a1_0 : Int) (a1_1 : Int) (a1_2 : Int) (a1_3 : Int) (l1_4 : List (S49)) : Option (Int × Bool × Int) := (batch_Check.f k a1_0 a1_1 a1_2 a1_3 l1_4).bind fun t115 => (if t115 = 0 then (dedup_Look.j0 k l0 (decide (a1_0 > 2)) a1_0 a1_1 a1_2 a1_3 l1_4) else (dedup_Look.j0 k l0 true a1_0 a1_1 a1_2 a1_3 l1_4))
theorem dedup_Look.mono_l : ∀ k, (∀ y0 y1 y2 y3 y4 y5 y6, LeO (dedup_Look.j0 k y0 y1 y2 y3 y4 y5 y6) (dedup_Look.j0 (k + 1) y0 y1 y2 y3 y4 y5 y6)) ∧ (∀ y0 y1 y2 y3 y4 y5 y6 y7 y8 y9, LeO (dedup_Look.j1 k y0 y1 y2 y3 y4 y5 y6 y7 y8 y9) (dedup_Look.j1 (k + 1) y0 y1 y2 y3 y4 y5 y6 y7 y8 y9)) ∧ (∀ y0 y1 y2 y3 y4 y5 y6 y7 y8 y9, LeO (dedup_Look.j2 k y0 y1 y2 y3 y4 y5 y6 y7 y8 y9) (dedup_Look.j2 (k + 1) y0 y1 y2 y3 y4 y5 y6 y7 y8 y9)) ∧ (∀ y0 y1 y2 y3 y4 y5 y6 y7 y8 y9 y10, LeO (dedup_Look.j3 k y0 y1 y2 y3 y4 y5 y6 y7 y8 y9 y10) (dedup_Look.j3 (k + 1) y0 y1 y2 y3 y4 y5 y6 y7 y8 y9 y10)) ∧ (∀ y0 y1 y2 y3 y4 y5 y6 y7 y8 y9 y10, LeO (dedup_Look.j4 k y0 y1 y2 y3 y4 y5 y6 y7 y8 y9 y10) (dedup_Look.j4 (k + 1) y0 y1 y2 y3 y4 y5 y6 y7 y8 y9 y10))
  | 0 => ⟨fun _ _ _ _ _ _ _ r h => by simp [dedup_Look.j0] at h, fun _ _ _ _ _ _ _ _ _ _ r h => by simp [dedup_Look.j1] at h, fun _ _ _ _ _ _ _ _ _ _ r h => by simp [dedup_Look.j2] at h, fun _ _ _ _ _ _ _ _ _ _ _ r h => by simp [dedup_Look.j3] at h, fun _ _ _ _ _ _ _ _ _ _ _ r h => by simp [dedup_Look.j4] at h⟩
  | k + 1 => by
    obtain ⟨ih0, ih1, ih2, ih3, ih4⟩ := dedup_Look.mono_l k
    refine ⟨?_, ?_, ?_, ?_, ?_⟩
    · intro y0 y1 y2 y3 y4 y5 y6
      unfold dedup_Look.j0
      repeat' first
      | (with_reducible exact ih0 _ _ _ _ _ _ _)
      | (with_reducible exact ih1 _ _ _ _ _ _ _ _ _ _)
      | (with_reducible exact ih2 _ _ _ _ _ _ _ _ _ _)
      | (with_reducible exact ih3 _ _ _ _ _ _ _ _ _ _ _)
      | (with_reducible exact ih4 _ _ _ _ _ _ _ _ _ _ _)
      | (with_reducible exact batch_Check.mono _ _ _ _ _ _)
      | (with_reducible exact LeO.refl _)
      | (with_reducible exact LeO.none _)
      | (with_reducible refine LeO.ite ?_ ?_)
      | (with_reducible refine LeO.bind ?_ (fun _ => ?_))
      | exact ih0 _ _ _ _ _ _ _
      | exact ih1 _ _ _ _ _ _ _ _ _ _
      | exact ih2 _ _ _ _ _ _ _ _ _ _
      | exact ih3 _ _ _ _ _ _ _ _ _ _ _
      | exact ih4 _ _ _ _ _ _ _ _ _ _ _
      | exact batch_Check.mono _ _ _ _ _ _
      | exact LeO.none _
      | refine LeO.ite ?_ ?_
      | refine LeO.bind ?_ (fun _ => ?_)
    · intro y0 y1 y2 y3 y4 y5 y6 y7 y8 y9
      unfold dedup_Look.j1
      repeat' first
      | (with_reducible exact ih0 _ _ _ _ _ _ _)
      | (with_reducible exact ih1 _ _ _ _ _ _ _ _ _ _)
      | (with_reducible exact ih2 _ _ _ _ _ _ _ _ _ _)
      | (with_reducible exact ih3 _ _ _ _ _ _ _ _ _ _ _)
      | (with_reducible exact ih4 _ _ _ _ _ _ _ _ _ _ _)
      | (with_reducible exact batch_Check.mono _ _ _ _ _ _)
      | (with_reducible exact LeO.refl _)
      | (with_reducible exact LeO.none _)
      | (with_reducible refine LeO.ite ?_ ?_)
      | (with_reducible refine LeO.bind ?_ (fun _ => ?_))
      | exact ih0 _ _ _ _ _ _ _
      | exact ih1 _ _ _ _ _ _ _ _ _ _
      | exact ih2 _ _ _ _ _ _ _ _ _ _
      | exact ih3 _ _ _ _ _ _ _ _ _ _ _
      | exact ih4 _ _ _ _ _ _ _ _ _ _ _
      | exact batch_Check.mono _ _ _ _ _ _
      | exact LeO.none _
      | refine LeO.ite ?_ ?_
      | refine LeO.bind ?_ (fun _ => ?_)
    · intro y0 y1 y2 y3 y4 y5 y6 y7 y8 y9
      unfold dedup_Look.j2
      repeat' first
      | (with_reducible exact ih0 _ _ _ _ _ _ _)
      | (with_reducible exact ih1 _ _ _ _ _ _ _ _ _ _)
      | (with_reducible exact ih2 _ _ _ _ _ _ _ _ _ _)
      | (with_reducible exact ih3 _ _ _ _ _ _ _ _ _ _ _)
      | (with_reducible exact ih4 _ _ _ _ _ _ _ _ _ _ _)
      | (with_reducible exact batch_Check.mono _ _ _ _ _ _)
      | (with_reducible exact LeO.refl _)
      | (with_reducible exact LeO.none _)
      | (with_reducible refine LeO.ite ?_ ?_)
      | (with_reducible refine LeO.bind ?_ (fun _ => ?_))
      | exact ih0 _ _ _ _ _ _ _
      | exact ih1 _ _ _ _ _ _ _ _ _ _
      | exact ih2 _ _ _ _ _ _ _ _ _ _
      | exact ih3 _ _ _ _ _ _ _ _ _ _ _
      | exact ih4 _ _ _ _ _ _ _ _ _ _ _
      | exact batch_Check.mono _ _ _ _ _ _
      | exact LeO.none _
      | refine LeO.ite ?_ ?_
      | refine LeO.bind ?_ (fun _ => ?_)
    · intro y0 y1 y2 y3 y4 y5 y6 y7 y8 y9 y10
      unfold dedup_Look.j3
      repeat' first
      | (with_reducible exact ih0 _ _ _ _ _ _ _)
      | (with_reducible exact ih1 _ _ _ _ _ _ _ _ _ _)
      | (with_reducible exact ih2 _ _ _ _ _ _ _ _ _ _)
      | (with_reducible exact ih3 _ _ _ _ _ _ _ _ _ _ _)
      | (with_reducible exact ih4 _ _ _ _ _ _ _ _ _ _ _)
      | (with_reducible exact batch_Check.mono _ _ _ _ _ _)
      | (with_reducible exact LeO.refl _)
      | (with_reducible exact LeO.none _)
      | (with_reducible refine LeO.ite ?_ ?_)
      | (with_reducible refine LeO.bind ?_ (fun _ => ?_))
      | exact ih0 _ _ _ _ _ _ _
      | exact ih1 _ _ _ _ _ _ _ _ _ _
      | exact ih2 _ _ _ _ _ _ _ _ _ _
      | exact ih3 _ _ _ _ _ _ _ _ _ _ _
      | exact ih4 _ _ _ _ _ _ _ _ _ _ _
      | exact batch_Check.mono _ _ _ _ _ _
      | exact LeO.none _
      | refine LeO.ite ?_ ?_
      | refine LeO.bind ?_ (fun _ => ?_)
    · intro y0 y1 y2 y3 y4 y5 y6 y7 y8 y9 y10
      unfold dedup_Look.j4
      repeat' first
      | (with_reducible exact ih0 _ _ _ _ _ _ _)
      | (with_reducible exact ih1 _ _ _ _ _ _ _ _ _ _)
      | (with_reducible exact ih2 _ _ _ _ _ _ _ _ _ _)
      | (with_reducible exact ih3 _ _ _ _ _ _ _ _ _ _ _)
      | (with_reducible exact ih4 _ _ _ _ _ _ _ _ _ _ _)
      | (with_reducible exact batch_Check.mono _ _ _ _ _ _)
      | (with_reducible exact LeO.refl _)
      | (with_reducible exact LeO.none _)
      | (with_reducible refine LeO.ite ?_ ?_)
      | (with_reducible refine LeO.bind ?_ (fun _ => ?_))
      | exact ih0 _ _ _ _ _ _ _
      | exact ih1 _ _ _ _ _ _ _ _ _ _
      | exact ih2 _ _ _ _ _ _ _ _ _ _
      | exact ih3 _ _ _ _ _ _ _ _ _ _ _
      | exact ih4 _ _ _ _ _ _ _ _ _ _ _
      | exact batch_Check.mono _ _ _ _ _ _
      | exact LeO.none _
      | refine LeO.ite ?_ ?_
      | refine LeO.bind ?_ (fun _ => ?_)
theorem dedup_Look.mono : ∀ a0 a1 a2 a3 a4 a5 k, LeO (dedup_Look.f k a0 a1 a2 a3 a4 a5) (dedup_Look.f (k + 1) a0 a1 a2 a3 a4 a5) := by
  intro a0 a1 a2 a3 a4 a5 k
  obtain ⟨ih0, ih1, ih2, ih3, ih4⟩ := dedup_Look.mono_l k
  unfold dedup_Look.f
  repeat' first
      | (with_reducible exact ih0 _ _ _ _ _ _ _)
      | (with_reducible exact ih1 _ _ _ _ _ _ _ _ _ _)
      | (with_reducible exact ih2 _ _ _ _ _ _ _ _ _ _)
      | (with_reducible exact ih3 _ _ _ _ _ _ _ _ _ _ _)
      | (with_reducible exact ih4 _ _ _ _ _ _ _ _ _ _ _)
      | (with_reducible exact batch_Check.mono _ _ _ _ _ _)
      | (with_reducible exact LeO.refl _)
      | (with_reducible exact LeO.none _)
      | (with_reducible refine LeO.ite ?_ ?_)
      | (with_reducible refine LeO.bind ?_ (fun _ => ?_))
      | exact ih0 _ _ _ _ _ _ _
      | exact ih1 _ _ _ _ _ _ _ _ _ _
      | exact ih2 _ _ _ _ _ _ _ _ _ _
      | exact ih3 _ _ _ _ _ _ _ _ _ _ _
      | exact ih4 _ _ _ _ _ _ _ _ _ _ _
      | exact batch_Check.mono _ _ _ _ _ _
      | exact LeO.none _
      | refine LeO.ite ?_ ?_
      | refine LeO.bind ?_ (fun _ => ?_)
set_option maxHeartbeats 8000000 in
set_option maxRecDepth 100000 in
theorem dedup_Look.calls (k : Nat) (A0 : Option Addr) (c0 : Nat) (l0 : List (S44)) (a1_0 : Int) (a1_1 : Int) (a1_2 : Int) (a1_3 : Int) (A1_4 : Option Addr) (c1_4 : Nat) (l1_4 : List (S49)) (r1 : Int) (r2 : Bool) (r3 : Int) (w : World) (hr0 : Kd.C k44 w A0 l0.length l0) (hc0 : l0.length ≤ c0) (hr1_4 : Kd.C k49 w A1_4 l1_4.length l1_4) (hc1_4 : l1_4.length ≤ c1_4) (h : dedup_Look.f k l0 a1_0 a1_1 a1_2 a1_3 l1_4 = some (r1, r2, r3)) :
    Calls Try.prog 11 #[.slice A0 l0.length c0, .agg #[.int .i64 a1_0, .int .i64 a1_1, .int .i64 a1_2, .int .i64 a1_3, .slice A1_4 l1_4.length c1_4]] w fun e w' => e = .returned (.tuple #[.int .i64 r1, .bool r2, .int .i64 r3]) ∧ Below w.heap.size w w' := by
  have hu25 := Try.underlying25
  have hu44 := Try.underlying44
  have HR0 := Aside0.mk hr0
  have HC0 := Aside0.mk hc0
  clear hr0 hc0
  have HR1_4 := Aside0.mk hr1_4
  have HC1_4 := Aside0.mk hc1_4
  clear hr1_4 hc1_4
  have HB := Aside0.mk (Below.refl w.heap.size w)
  have H : ((batch_Check.f k a1_0 a1_1 a1_2 a1_3 l1_4).bind fun t115 => (if t115 = 0 then (dedup_Look.j0 k l0 (decide (a1_0 > 2)) a1_0 a1_1 a1_2 a1_3 l1_4) else (dedup_Look.j0 k l0 true a1_0 a1_1 a1_2 a1_3 l1_4))) = some (r1, r2, r3) := h
  clear h
  have HC3 := Aside0.mk H
  clear H
  go_enter Try.func11, Try.ntmps11
  go_upto_region 1 with (first | ((with_reducible refine gate_dst (N := 3) rfl ?_); (try (refine gate_guard (by rfl) ?_; dsimp only)); refine box_event ?hg (N := 3) ?hd (cs := #[.int .i64 a1_0, .int .i64 a1_1, .int .i64 a1_2, .int .i64 a1_3, .slice A1_4 l1_4.length c1_4]) (t := 25) ?hr ?_; (case hd => rfl); (case hg => rfl); (case hr => first | (go_simp; done) | (go_simp; rfl)); intro gb114 hg w4 hbox hb; have n0_ := Aside0.mk (below_step (by repeat (first | (with_reducible first | exact HB.out | apply below_alloc | apply pw_below_drewN | apply below_drew1) | exact HB.out)) hb); have n1_ := Aside0.mk (hbox); have n2_ := Aside0.mk ((by rw [hg]; exact (below_size (by repeat (first | (with_reducible first | exact HB.out | apply below_alloc | apply pw_below_drewN | apply below_drew1) | exact HB.out))) : w.heap.size ≤ gb114)); have n3_ := Aside0.mk ((by rw [hg]; exact (below_size (by repeat (first | (with_reducible first | exact HB.out | apply below_alloc | apply pw_below_drewN | apply below_drew1) | exact HB.out))) : w.heap.size ≤ gb114)); clear HB; have HB := n0_; have BK114 := n1_; have GW114 := n2_; have GE114 := n3_; clear n0_ n1_ n2_ n3_; clear hb hbox hg))
  (try simp only [Act.put, List.setIfInBounds_toArray, List.set_cons_zero, List.set_cons_succ])
  go_cut [17] (fun v17 wc => ∃ (kq : Nat) (x17_2 : Bool), v17 = .bool x17_2 ∧ Aside0 (dedup_Look.j0 kq l0 x17_2 a1_0 a1_1 a1_2 a1_3 l1_4 = some (r1, r2, r3)) ∧ Aside0 (kq ≤ k) ∧ Aside0 (wc.heap[gb114]? = some (.cells #[.int .i64 a1_0, .int .i64 a1_1, .int .i64 a1_2, .int .i64 a1_3, (.slice A1_4 l1_4.length c1_4)] 25 (0, 0))) ∧ Aside0 (Below w.heap.size w wc))
  case first =>
    have H := HC3.out
    clear HC3
    replace H := Option.bind_eq_some_iff.mp H
    obtain ⟨t115, A50, H⟩ := H
    replace H : (if t115 = 0 then (dedup_Look.j0 k l0 (decide (a1_0 > 2)) a1_0 a1_1 a1_2 a1_3 l1_4) else (dedup_Look.j0 k l0 true a1_0 a1_1 a1_2 a1_3 l1_4)) = some (r1, r2, r3) := H
    have A5 := Aside0.mk A50
    clear A50
    by_cases c6 : t115 = 0
    · rw [if_pos c6] at H
      have c6b0 : (t115 == 0) = true := beq_iff_eq.mpr c6
      have c6b1 : (t115 != 0) = false := bne_eq_false_iff_eq.mpr c6
      clear c6
      (first | rw [c6b0] | rw [c6b9] | (simp only [i64_w, i32_w]; rw [c6b0]) | skip)
      have H' := Aside0.mk H
      clear H
      have hcz7_0 : w4.cell? ⟨gb114, 0, none⟩ = some (.int .i64 a1_0) := (blk_cell BK114.out 0).trans rfl
      have hcz7_1 : w4.cell? ⟨gb114, 1, none⟩ = some (.int .i64 a1_1) := (blk_cell BK114.out 1).trans rfl
      have hcz7_2 : w4.cell? ⟨gb114, 2, none⟩ = some (.int .i64 a1_2) := (blk_cell BK114.out 2).trans rfl
      have hcz7_3 : w4.cell? ⟨gb114, 3, none⟩ = some (.int .i64 a1_3) := (blk_cell BK114.out 3).trans rfl
      have hcz7_4 : w4.cell? ⟨gb114, 4, none⟩ = some (.slice A1_4 l1_4.length c1_4) := (blk_cell BK114.out 4).trans rfl
      have hfz7_0 := blk_frozen BK114.out 0
      have hfz7_1 := blk_frozen BK114.out 1
      have hfz7_2 := blk_frozen BK114.out 2
      have hfz7_3 := blk_frozen BK114.out 3
      have hfz7_4 := blk_frozen BK114.out 4
      go_wp2_with (first | ((with_reducible refine gate_callee (f := 20) rfl ?_); refine goesL_ (some 11) rfl rfl Try.func20 (by kernel_rfl) rfl #[.agg #[.int .i64 a1_0, .int .i64 a1_1, .int .i64 a1_2, .int .i64 a1_3, .slice A1_4 l1_4.length c1_4]] rfl (by (try simp only [List.map_toArray, List.map_cons, List.map_nil]); first | done | rfl | (simp only [List.length_drop, List.length_take]; rfl)) ?_; (with_reducible refine (batch_Check.calls k a1_0 a1_1 a1_2 a1_3 _ _ l1_4 t115 _ ?side1 ?side2 A5.out).mono ?_); (case side1 => repeat (first | exact (Kd.C_below HR1_4.out HB.out) | (with_reducible refine Kd.C_alloc ?_ _) | (with_reducible refine Kd.C_drewN ?_ _) | (with_reducible refine Kd.C_drew ?_))); (case side2 => exact HC1_4.out); rintro e w8 ⟨rfl, hb⟩; refine ⟨_, rfl, ?_⟩; have n0_ := Aside0.mk (blk_below (g := gb114) (o := .cells #[.int .i64 a1_0, .int .i64 a1_1, .int .i64 a1_2, .int .i64 a1_3, .slice A1_4 l1_4.length c1_4] 25 (0, 0)) (by (with_reducible repeat (first | refine blk_drewN ?_ _ | refine blk_drew ?_ | refine blk_alloc ?_ _)); exact BK114.out) hb); have n1_ := Aside0.mk (below_step (by repeat (first | (with_reducible first | exact HB.out | apply below_alloc | apply pw_below_drewN | apply below_drew1 | refine below_set ?_ GE114.out) | exact HB.out)) hb); clear BK114; clear HB; have BK114 := n0_; have HB := n1_; clear n0_ n1_; (try clear hb); (try clear hb2); (try clear hk); (try clear hi); have hcz9_0 : w8.cell? ⟨gb114, 0, none⟩ = some (.int .i64 a1_0) := (blk_cell BK114.out 0).trans rfl; have hcz9_1 : w8.cell? ⟨gb114, 1, none⟩ = some (.int .i64 a1_1) := (blk_cell BK114.out 1).trans rfl; have hcz9_2 : w8.cell? ⟨gb114, 2, none⟩ = some (.int .i64 a1_2) := (blk_cell BK114.out 2).trans rfl; have hcz9_3 : w8.cell? ⟨gb114, 3, none⟩ = some (.int .i64 a1_3) := (blk_cell BK114.out 3).trans rfl; have hcz9_4 : w8.cell? ⟨gb114, 4, none⟩ = some (.slice A1_4 l1_4.length c1_4) := (blk_cell BK114.out 4).trans rfl; have hfz9_0 := blk_frozen BK114.out 0; have hfz9_1 := blk_frozen BK114.out 1; have hfz9_2 := blk_frozen BK114.out 2; have hfz9_3 := blk_frozen BK114.out 3; have hfz9_4 := blk_frozen BK114.out 4))
      go_meet
      case rel => exact ⟨_, (decide (a1_0 > 2)), (by first | rfl | (simp; done) | (simp [*]; done)), H', ⟨by first | omega | exact Nat.le_refl _⟩, ⟨by (with_reducible repeat (first | refine blk_drewN ?_ _ | refine blk_drew ?_ | refine blk_alloc ?_ _)); exact BK114.out⟩, ⟨by repeat (first | (with_reducible first | exact HB.out | apply below_alloc | apply pw_below_drewN | apply below_drew1 | refine below_set ?_ GE114.out) | exact HB.out)⟩⟩
    · rw [if_neg c6] at H
      have c6b0 : (t115 == 0) = false := beq_eq_false_iff_ne.mpr c6
      have c6b1 : (t115 != 0) = true := bne_iff_ne.mpr c6
      (first | rw [c6b0] | rw [c6b9] | (simp only [i64_w, i32_w]; rw [c6b0]) | skip)
      have H' := Aside0.mk H
      clear H
      have hcz10_0 : w4.cell? ⟨gb114, 0, none⟩ = some (.int .i64 a1_0) := (blk_cell BK114.out 0).trans rfl
      have hcz10_1 : w4.cell? ⟨gb114, 1, none⟩ = some (.int .i64 a1_1) := (blk_cell BK114.out 1).trans rfl
      have hcz10_2 : w4.cell? ⟨gb114, 2, none⟩ = some (.int .i64 a1_2) := (blk_cell BK114.out 2).trans rfl
      have hcz10_3 : w4.cell? ⟨gb114, 3, none⟩ = some (.int .i64 a1_3) := (blk_cell BK114.out 3).trans rfl
      have hcz10_4 : w4.cell? ⟨gb114, 4, none⟩ = some (.slice A1_4 l1_4.length c1_4) := (blk_cell BK114.out 4).trans rfl
      have hfz10_0 := blk_frozen BK114.out 0
      have hfz10_1 := blk_frozen BK114.out 1
      have hfz10_2 := blk_frozen BK114.out 2
      have hfz10_3 := blk_frozen BK114.out 3
      have hfz10_4 := blk_frozen BK114.out 4
      go_wp2_with (first | ((with_reducible refine gate_callee (f := 20) rfl ?_); refine goesL_ (some 11) rfl rfl Try.func20 (by kernel_rfl) rfl #[.agg #[.int .i64 a1_0, .int .i64 a1_1, .int .i64 a1_2, .int .i64 a1_3, .slice A1_4 l1_4.length c1_4]] rfl (by (try simp only [List.map_toArray, List.map_cons, List.map_nil]); first | done | rfl | (simp only [List.length_drop, List.length_take]; rfl)) ?_; (with_reducible refine (batch_Check.calls k a1_0 a1_1 a1_2 a1_3 _ _ l1_4 t115 _ ?side1 ?side2 A5.out).mono ?_); (case side1 => repeat (first | exact (Kd.C_below HR1_4.out HB.out) | (with_reducible refine Kd.C_alloc ?_ _) | (with_reducible refine Kd.C_drewN ?_ _) | (with_reducible refine Kd.C_drew ?_))); (case side2 => exact HC1_4.out); rintro e w11 ⟨rfl, hb⟩; refine ⟨_, rfl, ?_⟩; have n0_ := Aside0.mk (blk_below (g := gb114) (o := .cells #[.int .i64 a1_0, .int .i64 a1_1, .int .i64 a1_2, .int .i64 a1_3, .slice A1_4 l1_4.length c1_4] 25 (0, 0)) (by (with_reducible repeat (first | refine blk_drewN ?_ _ | refine blk_drew ?_ | refine blk_alloc ?_ _)); exact BK114.out) hb); have n1_ := Aside0.mk (below_step (by repeat (first | (with_reducible first | exact HB.out | apply below_alloc | apply pw_below_drewN | apply below_drew1 | refine below_set ?_ GE114.out) | exact HB.out)) hb); clear BK114; clear HB; have BK114 := n0_; have HB := n1_; clear n0_ n1_; (try clear hb); (try clear hb2); (try clear hk); (try clear hi)))
      go_meet
      case rel => exact ⟨_, (true), (by first | rfl | (simp; done) | (simp [*]; done)), H', ⟨by first | omega | exact Nat.le_refl _⟩, ⟨by (with_reducible repeat (first | refine blk_drewN ?_ _ | refine blk_drew ?_ | refine blk_alloc ?_ _)); exact BK114.out⟩, ⟨by repeat (first | (with_reducible first | exact HB.out | apply below_alloc | apply pw_below_drewN | apply below_drew1 | refine below_set ?_ GE114.out) | exact HB.out)⟩⟩
  case rest =>
    clear HC3
    try clear c1
    try clear c2
    try clear p2
    try clear c6
    try clear c6b0
    try clear c6b1
    try clear c11
    try clear hcz10_0
    try clear hcz10_1
    try clear hcz10_2
    try clear hcz10_3
    try clear hcz10_4
    try clear hcz7_0
    try clear hcz7_1
    try clear hcz7_2
    try clear hcz7_3
    try clear hcz7_4
    try clear hcz9_0
    try clear hcz9_1
    try clear hcz9_2
    try clear hcz9_3
    try clear hcz9_4
    try clear hfz10_0
    try clear hfz10_1
    try clear hfz10_2
    try clear hfz10_3
    try clear hfz10_4
    try clear hfz7_0
    try clear hfz7_1
    try clear hfz7_2
    try clear hfz7_3
    try clear hfz7_4
    try clear hfz9_0
    try clear hfz9_1
    try clear hfz9_2
    try clear hfz9_3
    try clear hfz9_4
    obtain ⟨kq, x17_2, rfl, HA, HJ2, BK114, HB⟩ := hcut
    cases kq with
    | zero => exact absurd HA.out (by simp [dedup_Look.j0])
    | succ kj2 =>
      have H := HA.out
      clear HA
      simp only [dedup_Look.j0] at H
      by_cases c12 : x17_2 = true
      · subst c12
        have H1 : (some (0, false, 1)) = some (r1, r2, r3) := by rw [if_pos rfl] at H; exact H
        clear H
        have H := H1
        clear H1
        simp only [Option.some.injEq, Prod.mk.injEq] at H
        obtain ⟨rfl, rfl, rfl⟩ := H
        go_wp2
        go_ret3
        exact ⟨by first | rfl | (simp [errW_none, errW_some] <;> rfl) | (simp [*, errW_none, errW_some] <;> rfl), by repeat (first | (with_reducible first | exact HB.out | apply below_alloc | apply pw_below_drewN | apply below_drew1 | refine below_set ?_ GE114.out) | exact HB.out)⟩
      · replace c12 := Bool.eq_false_iff.mpr c12
        subst c12
        have H1 : (if a1_1 = 0 then (some (0, false, 0)) else ((dedup_find.f l0 a1_1).bind fun bt117 => (if bt117.2 = true then (if 0 ≤ bt117.1 then (if bt117.1 < (l0.length : Int) then (dedup_Look.j1 kj2 a1_0 a1_1 a1_2 a1_3 l1_4 ((rd_T44 l0 bt117.1).f0) ((rd_T44 l0 bt117.1).f1) ((rd_T44 l0 bt117.1).f2) ((rd_T44 l0 bt117.1).f3) ((rd_T44 l0 bt117.1).f4)) else (none)) else (none)) else (dedup_Look.j1 kj2 a1_0 a1_1 a1_2 a1_3 l1_4 a1_1 0 0 0 0)))) = some (r1, r2, r3) := by rw [if_neg (show ¬ (false = true) by decide)] at H; exact H
        clear H
        have H := H1
        clear H1
        by_cases c13 : a1_1 = 0
        · rw [if_pos c13] at H
          have c13b0 : (a1_1 == 0) = true := beq_iff_eq.mpr c13
          have c13b1 : (a1_1 != 0) = false := bne_eq_false_iff_eq.mpr c13
          clear c13
          simp only [Option.some.injEq, Prod.mk.injEq] at H
          obtain ⟨rfl, rfl, rfl⟩ := H
          have hcz14_0 : wc.cell? ⟨gb114, 0, none⟩ = some (.int .i64 a1_0) := (blk_cell BK114.out 0).trans rfl
          have hcz14_1 : wc.cell? ⟨gb114, 1, none⟩ = some (.int .i64 a1_1) := (blk_cell BK114.out 1).trans rfl
          have hcz14_2 : wc.cell? ⟨gb114, 2, none⟩ = some (.int .i64 a1_2) := (blk_cell BK114.out 2).trans rfl
          have hcz14_3 : wc.cell? ⟨gb114, 3, none⟩ = some (.int .i64 a1_3) := (blk_cell BK114.out 3).trans rfl
          have hcz14_4 : wc.cell? ⟨gb114, 4, none⟩ = some (.slice A1_4 l1_4.length c1_4) := (blk_cell BK114.out 4).trans rfl
          have hfz14_0 := blk_frozen BK114.out 0
          have hfz14_1 := blk_frozen BK114.out 1
          have hfz14_2 := blk_frozen BK114.out 2
          have hfz14_3 := blk_frozen BK114.out 3
          have hfz14_4 := blk_frozen BK114.out 4
          go_wp2
          go_ret3
          exact ⟨by first | rfl | (simp [errW_none, errW_some] <;> rfl) | (simp [*, errW_none, errW_some] <;> rfl), by repeat (first | (with_reducible first | exact HB.out | apply below_alloc | apply pw_below_drewN | apply below_drew1 | refine below_set ?_ GE114.out) | exact HB.out)⟩
        · rw [if_neg c13] at H
          have c13b0 : (a1_1 == 0) = false := beq_eq_false_iff_ne.mpr c13
          have c13b1 : (a1_1 != 0) = true := bne_iff_ne.mpr c13
          replace H := Option.bind_eq_some_iff.mp H
          obtain ⟨⟨t117, t118⟩, A150, H⟩ := H
          replace H : (if t118 = true then (if 0 ≤ t117 then (if t117 < (l0.length : Int) then (dedup_Look.j1 kj2 a1_0 a1_1 a1_2 a1_3 l1_4 ((rd_T44 l0 t117).f0) ((rd_T44 l0 t117).f1) ((rd_T44 l0 t117).f2) ((rd_T44 l0 t117).f3) ((rd_T44 l0 t117).f4)) else (none)) else (none)) else (dedup_Look.j1 kj2 a1_0 a1_1 a1_2 a1_3 l1_4 a1_1 0 0 0 0)) = some (r1, r2, r3) := H
          have A15 := Aside0.mk A150
          clear A150
          have HC16 := Aside0.mk H
          clear H
          have hcz17_0 : wc.cell? ⟨gb114, 0, none⟩ = some (.int .i64 a1_0) := (blk_cell BK114.out 0).trans rfl
          have hcz17_1 : wc.cell? ⟨gb114, 1, none⟩ = some (.int .i64 a1_1) := (blk_cell BK114.out 1).trans rfl
          have hcz17_2 : wc.cell? ⟨gb114, 2, none⟩ = some (.int .i64 a1_2) := (blk_cell BK114.out 2).trans rfl
          have hcz17_3 : wc.cell? ⟨gb114, 3, none⟩ = some (.int .i64 a1_3) := (blk_cell BK114.out 3).trans rfl
          have hcz17_4 : wc.cell? ⟨gb114, 4, none⟩ = some (.slice A1_4 l1_4.length c1_4) := (blk_cell BK114.out 4).trans rfl
          have hfz17_0 := blk_frozen BK114.out 0
          have hfz17_1 := blk_frozen BK114.out 1
          have hfz17_2 := blk_frozen BK114.out 2
          have hfz17_3 := blk_frozen BK114.out 3
          have hfz17_4 := blk_frozen BK114.out 4
          go_upto_if 31 with (first | ((with_reducible refine gate_dst (N := 7) rfl ?_); (try (refine gate_guard (by rfl) ?_; dsimp only)); refine box_event ?hg (N := 7) ?hd (cs := #[.int .i64 0, .int .i64 0, .int .i64 0, .int .i64 0, .int .i64 0]) (t := 44) ?hr ?_; (case hd => rfl); (case hg => rfl); (case hr => first | (go_simp; done) | (go_simp; rfl)); intro gb116 hg w18 hbox hb; have n0_ := Aside0.mk (blk_below (g := gb114) (o := .cells #[.int .i64 a1_0, .int .i64 a1_1, .int .i64 a1_2, .int .i64 a1_3, .slice A1_4 l1_4.length c1_4] 25 (0, 0)) (by (with_reducible repeat (first | refine blk_drewN ?_ _ | refine blk_drew ?_ | refine blk_alloc ?_ _)); exact BK114.out) hb); have n1_ := Aside0.mk (below_step (by repeat (first | (with_reducible first | exact HB.out | apply below_alloc | apply pw_below_drewN | apply below_drew1 | refine below_set ?_ GE114.out) | exact HB.out)) hb); have n2_ := Aside0.mk (hbox); have n3_ := Aside0.mk ((by rw [hg]; exact (below_size (by repeat (first | (with_reducible first | exact HB.out | apply below_alloc | apply pw_below_drewN | apply below_drew1 | refine below_set ?_ GE114.out) | exact HB.out))) : w.heap.size ≤ gb116)); have n4_ := Aside0.mk ((by rw [hg]; exact (below_size (by repeat (first | (with_reducible first | exact HB.out | apply below_alloc | apply pw_below_drewN | apply below_drew1 | refine below_set ?_ GE114.out) | exact HB.out))) : w.heap.size ≤ gb116)); have n5_ := Aside0.mk ((by rw [hg]; exact Nat.ne_of_lt (blk_lt (g := gb114) (o := .cells #[.int .i64 a1_0, .int .i64 a1_1, .int .i64 a1_2, .int .i64 a1_3, .slice A1_4 l1_4.length c1_4] 25 (0, 0)) (by (with_reducible repeat (first | refine blk_drewN ?_ _ | refine blk_drew ?_ | refine blk_alloc ?_ _)); exact BK114.out)) : gb114 ≠ gb116)); have n6_ := Aside0.mk ((by rw [hg]; exact Nat.ne_of_gt (blk_lt (g := gb114) (o := .cells #[.int .i64 a1_0, .int .i64 a1_1, .int .i64 a1_2, .int .i64 a1_3, .slice A1_4 l1_4.length c1_4] 25 (0, 0)) (by (with_reducible repeat (first | refine blk_drewN ?_ _ | refine blk_drew ?_ | refine blk_alloc ?_ _)); exact BK114.out)) : gb116 ≠ gb114)); clear BK114; clear HB; have BK114 := n0_; have HB := n1_; have BK116 := n2_; have GW116 := n3_; have GE116 := n4_; have NB114_116 := n5_; have NB116_114 := n6_; clear n0_ n1_ n2_ n3_ n4_ n5_ n6_; clear hb hbox hg; have hnb19 := NB116_114.out; have hnc19 := NB114_116.out; have hcz20_0 : w18.cell? ⟨gb116, 0, none⟩ = some (.int .i64 0) := (blk_cell BK116.out 0).trans rfl; have hcz20_1 : w18.cell? ⟨gb116, 1, none⟩ = some (.int .i64 0) := (blk_cell BK116.out 1).trans rfl; have hcz20_2 : w18.cell? ⟨gb116, 2, none⟩ = some (.int .i64 0) := (blk_cell BK116.out 2).trans rfl; have hcz20_3 : w18.cell? ⟨gb116, 3, none⟩ = some (.int .i64 0) := (blk_cell BK116.out 3).trans rfl; have hcz20_4 : w18.cell? ⟨gb116, 4, none⟩ = some (.int .i64 0) := (blk_cell BK116.out 4).trans rfl; have hfz20_0 := blk_frozen BK116.out 0; have hfz20_1 := blk_frozen BK116.out 1; have hfz20_2 := blk_frozen BK116.out 2; have hfz20_3 := blk_frozen BK116.out 3; have hfz20_4 := blk_frozen BK116.out 4; have hcz21_0 : w18.cell? ⟨gb114, 0, none⟩ = some (.int .i64 a1_0) := (blk_cell BK114.out 0).trans rfl; have hcz21_1 : w18.cell? ⟨gb114, 1, none⟩ = some (.int .i64 a1_1) := (blk_cell BK114.out 1).trans rfl; have hcz21_2 : w18.cell? ⟨gb114, 2, none⟩ = some (.int .i64 a1_2) := (blk_cell BK114.out 2).trans rfl; have hcz21_3 : w18.cell? ⟨gb114, 3, none⟩ = some (.int .i64 a1_3) := (blk_cell BK114.out 3).trans rfl; have hcz21_4 : w18.cell? ⟨gb114, 4, none⟩ = some (.slice A1_4 l1_4.length c1_4) := (blk_cell BK114.out 4).trans rfl; have hfz21_0 := blk_frozen BK114.out 0; have hfz21_1 := blk_frozen BK114.out 1; have hfz21_2 := blk_frozen BK114.out 2; have hfz21_3 := blk_frozen BK114.out 3; have hfz21_4 := blk_frozen BK114.out 4) | ((with_reducible refine gate_callee (f := 21) rfl ?_); refine goesL_ (some 28) rfl rfl Try.func21 (by kernel_rfl) rfl #[.slice A0 l0.length c0, .int .i64 a1_1] rfl (by (try simp only [List.map_toArray, List.map_cons, List.map_nil]); first | done | rfl | (simp only [List.length_drop, List.length_take]; rfl)) ?_; (with_reducible refine (dedup_find.calls _ _ l0 a1_1 t117 t118 _ ?side1 ?side2 A15.out).mono ?_); (case side1 => exact Kd.C_below HR0.out (by repeat (first | (with_reducible first | exact HB.out | apply below_alloc | apply pw_below_drewN | apply below_drew1 | refine below_set ?_ GE114.out | refine below_set ?_ GE116.out) | exact HB.out))); (case side2 => exact HC0.out); rintro e w22 ⟨rfl, hb⟩; refine ⟨_, rfl, ?_⟩; have n0_ := Aside0.mk (blk_below (g := gb114) (o := .cells #[.int .i64 a1_0, .int .i64 a1_1, .int .i64 a1_2, .int .i64 a1_3, .slice A1_4 l1_4.length c1_4] 25 (0, 0)) (by (with_reducible repeat (first | refine blk_drewN ?_ _ | refine blk_drew ?_ | refine blk_alloc ?_ _)); refine blk_far ?_ NB114_116.out _; (with_reducible repeat (first | refine blk_drewN ?_ _ | refine blk_drew ?_ | refine blk_alloc ?_ _)); refine blk_far ?_ NB114_116.out _; (with_reducible repeat (first | refine blk_drewN ?_ _ | refine blk_drew ?_ | refine blk_alloc ?_ _)); refine blk_far ?_ NB114_116.out _; (with_reducible repeat (first | refine blk_drewN ?_ _ | refine blk_drew ?_ | refine blk_alloc ?_ _)); refine blk_far ?_ NB114_116.out _; (with_reducible repeat (first | refine blk_drewN ?_ _ | refine blk_drew ?_ | refine blk_alloc ?_ _)); refine blk_far ?_ NB114_116.out _; (with_reducible repeat (first | refine blk_drewN ?_ _ | refine blk_drew ?_ | refine blk_alloc ?_ _)); exact BK114.out) hb); have n1_ := Aside0.mk (blk_below (g := gb116) (o := .cells #[.int .i64 a1_1, .int .i64 0, .int .i64 0, .int .i64 0, .int .i64 0] 44 (0, 0)) (by (with_reducible repeat (first | refine blk_drewN ?_ _ | refine blk_drew ?_ | refine blk_alloc ?_ _)); refine blk_put (cs := #[.int .i64 a1_1, .int .i64 0, .int .i64 0, .int .i64 0, .int .i64 0]) ?_ 4 _ rfl; (with_reducible repeat (first | refine blk_drewN ?_ _ | refine blk_drew ?_ | refine blk_alloc ?_ _)); refine blk_put (cs := #[.int .i64 a1_1, .int .i64 0, .int .i64 0, .int .i64 0, .int .i64 0]) ?_ 3 _ rfl; (with_reducible repeat (first | refine blk_drewN ?_ _ | refine blk_drew ?_ | refine blk_alloc ?_ _)); refine blk_put (cs := #[.int .i64 a1_1, .int .i64 0, .int .i64 0, .int .i64 0, .int .i64 0]) ?_ 2 _ rfl; (with_reducible repeat (first | refine blk_drewN ?_ _ | refine blk_drew ?_ | refine blk_alloc ?_ _)); refine blk_put (cs := #[.int .i64 a1_1, .int .i64 0, .int .i64 0, .int .i64 0, .int .i64 0]) ?_ 1 _ rfl; (with_reducible repeat (first | refine blk_drewN ?_ _ | refine blk_drew ?_ | refine blk_alloc ?_ _)); refine blk_put (cs := #[.int .i64 0, .int .i64 0, .int .i64 0, .int .i64 0, .int .i64 0]) ?_ 0 _ rfl; (with_reducible repeat (first | refine blk_drewN ?_ _ | refine blk_drew ?_ | refine blk_alloc ?_ _)); exact BK116.out) hb); have n2_ := Aside0.mk (below_step (by repeat (first | (with_reducible first | exact HB.out | apply below_alloc | apply pw_below_drewN | apply below_drew1 | refine below_set ?_ GE114.out | refine below_set ?_ GE116.out) | exact HB.out)) hb); clear BK114; clear BK116; clear HB; have BK114 := n0_; have BK116 := n1_; have HB := n2_; clear n0_ n1_ n2_; (try clear hb); (try clear hb2); (try clear hk); (try clear hi)))
          (try simp only [Act.put, List.setIfInBounds_toArray, List.set_cons_zero, List.set_cons_succ])
          go_cut [] (fun wc => ∃ (kq : Nat) (x117000_15 : Int) (x117001_15 : Int) (x117002_15 : Int) (x117003_15 : Int) (x117004_15 : Int), Aside0 (dedup_Look.j1 kq a1_0 a1_1 a1_2 a1_3 l1_4 x117000_15 x117001_15 x117002_15 x117003_15 x117004_15 = some (r1, r2, r3)) ∧ Aside0 (kq ≤ kj2) ∧ Aside0 (wc.heap[gb114]? = some (.cells #[.int .i64 a1_0, .int .i64 a1_1, .int .i64 a1_2, .int .i64 a1_3, (.slice A1_4 l1_4.length c1_4)] 25 (0, 0))) ∧ Aside0 (wc.heap[gb116]? = some (.cells #[.int .i64 x117000_15, .int .i64 x117001_15, .int .i64 x117002_15, .int .i64 x117003_15, .int .i64 x117004_15] 44 (0, 0))) ∧ Aside0 (Below w.heap.size w wc))
          case first =>
            have H := HC16.out
            clear HC16
            by_cases c23 : t118 = true
            · subst c23
              have H1 : (if 0 ≤ t117 then (if t117 < (l0.length : Int) then (dedup_Look.j1 kj2 a1_0 a1_1 a1_2 a1_3 l1_4 ((rd_T44 l0 t117).f0) ((rd_T44 l0 t117).f1) ((rd_T44 l0 t117).f2) ((rd_T44 l0 t117).f3) ((rd_T44 l0 t117).f4)) else (none)) else (none)) = some (r1, r2, r3) := by rw [if_pos rfl] at H; exact H
              clear H
              have H := H1
              clear H1
              by_cases c24 : 0 ≤ t117
              · rw [if_pos c24] at H
                have c24b0 : decide (0 ≤ t117) = true := decide_eq_true c24
                clear c24
                (first | rw [c24b0] | rw [c24b9] | (simp only [i64_w, i32_w]; rw [c24b0]) | skip)
                by_cases c25 : t117 < (l0.length : Int)
                · rw [if_pos c25] at H
                  have c25b0 : decide (t117 < (l0.length : Int)) = true := decide_eq_true c25
                  clear c25
                  have H' := Aside0.mk H
                  clear H
                  have p119 : 0 ≤ (t117 : Int) := of_decide_eq_true (by first | (with_reducible assumption) | assumption)
                  have q119 : t117 < (l0.length : Int) := of_decide_eq_true (by first | (with_reducible assumption) | assumption)
                  obtain ⟨ad119, e119, hx119_0, hx119_1, hx119_2, hx119_3, hx119_4⟩ := at_T44 HR0.out t117 p119 q119
                  cases e119
                  replace hx119_0 := (HB.out.cell (World.block_lt_of_cell? w _ hx119_0)).trans hx119_0
                  replace hx119_1 := (HB.out.cell (World.block_lt_of_cell? w _ hx119_1)).trans hx119_1
                  replace hx119_2 := (HB.out.cell (World.block_lt_of_cell? w _ hx119_2)).trans hx119_2
                  replace hx119_3 := (HB.out.cell (World.block_lt_of_cell? w _ hx119_3)).trans hx119_3
                  replace hx119_4 := (HB.out.cell (World.block_lt_of_cell? w _ hx119_4)).trans hx119_4
                  replace p119 := eq_true p119
                  replace q119 := eq_true q119
                  have hnb26 := NB116_114.out
                  have hnc26 := NB114_116.out
                  have hcz27_0 : w22.cell? ⟨gb116, 0, none⟩ = some (.int .i64 a1_1) := (blk_cell BK116.out 0).trans rfl
                  have hcz27_1 : w22.cell? ⟨gb116, 1, none⟩ = some (.int .i64 0) := (blk_cell BK116.out 1).trans rfl
                  have hcz27_2 : w22.cell? ⟨gb116, 2, none⟩ = some (.int .i64 0) := (blk_cell BK116.out 2).trans rfl
                  have hcz27_3 : w22.cell? ⟨gb116, 3, none⟩ = some (.int .i64 0) := (blk_cell BK116.out 3).trans rfl
                  have hcz27_4 : w22.cell? ⟨gb116, 4, none⟩ = some (.int .i64 0) := (blk_cell BK116.out 4).trans rfl
                  have hfz27_0 := blk_frozen BK116.out 0
                  have hfz27_1 := blk_frozen BK116.out 1
                  have hfz27_2 := blk_frozen BK116.out 2
                  have hfz27_3 := blk_frozen BK116.out 3
                  have hfz27_4 := blk_frozen BK116.out 4
                  go_wp2
                  go_meet
                  case rel => exact ⟨_, ((rd_T44 l0 t117).f0), ((rd_T44 l0 t117).f1), ((rd_T44 l0 t117).f2), ((rd_T44 l0 t117).f3), ((rd_T44 l0 t117).f4), H', ⟨by have := HJ2.out; first | omega | exact Nat.le_refl _⟩, ⟨by (with_reducible repeat (first | refine blk_drewN ?_ _ | refine blk_drew ?_ | refine blk_alloc ?_ _)); refine blk_far ?_ NB114_116.out _; (with_reducible repeat (first | refine blk_drewN ?_ _ | refine blk_drew ?_ | refine blk_alloc ?_ _)); refine blk_far ?_ NB114_116.out _; (with_reducible repeat (first | refine blk_drewN ?_ _ | refine blk_drew ?_ | refine blk_alloc ?_ _)); refine blk_far ?_ NB114_116.out _; (with_reducible repeat (first | refine blk_drewN ?_ _ | refine blk_drew ?_ | refine blk_alloc ?_ _)); refine blk_far ?_ NB114_116.out _; (with_reducible repeat (first | refine blk_drewN ?_ _ | refine blk_drew ?_ | refine blk_alloc ?_ _)); refine blk_far ?_ NB114_116.out _; (with_reducible repeat (first | refine blk_drewN ?_ _ | refine blk_drew ?_ | refine blk_alloc ?_ _)); exact BK114.out⟩, ⟨by (with_reducible repeat (first | refine blk_drewN ?_ _ | refine blk_drew ?_ | refine blk_alloc ?_ _)); refine blk_put (cs := #[.int .i64 ((rd_T44 l0 t117).f0), .int .i64 ((rd_T44 l0 t117).f1), .int .i64 ((rd_T44 l0 t117).f2), .int .i64 ((rd_T44 l0 t117).f3), .int .i64 0]) ?_ 4 _ rfl; (with_reducible repeat (first | refine blk_drewN ?_ _ | refine blk_drew ?_ | refine blk_alloc ?_ _)); refine blk_put (cs := #[.int .i64 ((rd_T44 l0 t117).f0), .int .i64 ((rd_T44 l0 t117).f1), .int .i64 ((rd_T44 l0 t117).f2), .int .i64 0, .int .i64 0]) ?_ 3 _ rfl; (with_reducible repeat (first | refine blk_drewN ?_ _ | refine blk_drew ?_ | refine blk_alloc ?_ _)); refine blk_put (cs := #[.int .i64 ((rd_T44 l0 t117).f0), .int .i64 ((rd_T44 l0 t117).f1), .int .i64 0, .int .i64 0, .int .i64 0]) ?_ 2 _ rfl; (with_reducible repeat (first | refine blk_drewN ?_ _ | refine blk_drew ?_ | refine blk_alloc ?_ _)); refine blk_put (cs := #[.int .i64 ((rd_T44 l0 t117).f0), .int .i64 0, .int .i64 0, .int .i64 0, .int .i64 0]) ?_ 1 _ rfl; (with_reducible repeat (first | refine blk_drewN ?_ _ | refine blk_drew ?_ | refine blk_alloc ?_ _)); refine blk_put (cs := #[.int .i64 a1_1, .int .i64 0, .int .i64 0, .int .i64 0, .int .i64 0]) ?_ 0 _ rfl; (with_reducible repeat (first | refine blk_drewN ?_ _ | refine blk_drew ?_ | refine blk_alloc ?_ _)); exact BK116.out⟩, ⟨by repeat (first | (with_reducible first | exact HB.out | apply below_alloc | apply pw_below_drewN | apply below_drew1 | refine below_set ?_ GE114.out | refine below_set ?_ GE116.out) | exact HB.out)⟩⟩
                · rw [if_neg c25] at H
                  exact absurd H (by simp)
              · rw [if_neg c24] at H
                exact absurd H (by simp)
            · replace c23 := Bool.eq_false_iff.mpr c23
              subst c23
              have H1 : (dedup_Look.j1 kj2 a1_0 a1_1 a1_2 a1_3 l1_4 a1_1 0 0 0 0) = some (r1, r2, r3) := by rw [if_neg (show ¬ (false = true) by decide)] at H; exact H
              clear H
              have H := H1
              clear H1
              have H' := Aside0.mk H
              clear H
              go_wp2
              go_meet
              case rel => exact ⟨_, (a1_1), (0), (0), (0), (0), H', ⟨by have := HJ2.out; first | omega | exact Nat.le_refl _⟩, ⟨by (with_reducible repeat (first | refine blk_drewN ?_ _ | refine blk_drew ?_ | refine blk_alloc ?_ _)); exact BK114.out⟩, ⟨by (with_reducible repeat (first | refine blk_drewN ?_ _ | refine blk_drew ?_ | refine blk_alloc ?_ _)); exact BK116.out⟩, ⟨by repeat (first | (with_reducible first | exact HB.out | apply below_alloc | apply pw_below_drewN | apply below_drew1 | refine below_set ?_ GE114.out | refine below_set ?_ GE116.out) | exact HB.out)⟩⟩
          case rest =>
            clear HC16
            try clear c1
            try clear p1
            try clear q1
            try clear hx1
            try clear c2
            try clear p2
            try clear c6
            try clear c6b0
            try clear c6b1
            try clear c11
            try clear p11
            try clear q11
            try clear hx11
            try clear c12
            try clear c13
            try clear c13b0
            try clear c13b1
            try clear c19
            try clear c20
            try clear c21
            try clear c23
            try clear c24
            try clear c24b0
            try clear c25
            try clear c25b0
            try clear c26
            try clear hcz10_0
            try clear hcz10_1
            try clear hcz10_2
            try clear hcz10_3
            try clear hcz10_4
            try clear hcz14_0
            try clear hcz14_1
            try clear hcz14_2
            try clear hcz14_3
            try clear hcz14_4
            try clear hcz17_0
            try clear hcz17_1
            try clear hcz17_2
            try clear hcz17_3
            try clear hcz17_4
            try clear hcz20_0
            try clear hcz20_1
            try clear hcz20_2
            try clear hcz20_3
            try clear hcz20_4
            try clear hcz21_0
            try clear hcz21_1
            try clear hcz21_2
            try clear hcz21_3
            try clear hcz21_4
            try clear hcz27_0
            try clear hcz27_1
            try clear hcz27_2
            try clear hcz27_3
            try clear hcz27_4
            try clear hcz7_0
            try clear hcz7_1
            try clear hcz7_2
            try clear hcz7_3
            try clear hcz7_4
            try clear hcz9_0
            try clear hcz9_1
            try clear hcz9_2
            try clear hcz9_3
            try clear hcz9_4
            try clear hfz10_0
            try clear hfz10_1
            try clear hfz10_2
            try clear hfz10_3
            try clear hfz10_4
            try clear hfz14_0
            try clear hfz14_1
            try clear hfz14_2
            try clear hfz14_3
            try clear hfz14_4
            try clear hfz17_0
            try clear hfz17_1
            try clear hfz17_2
            try clear hfz17_3
            try clear hfz17_4
            try clear hfz20_0
            try clear hfz20_1
            try clear hfz20_2
            try clear hfz20_3
            try clear hfz20_4
            try clear hfz21_0
            try clear hfz21_1
            try clear hfz21_2
            try clear hfz21_3
            try clear hfz21_4
            try clear hfz27_0
            try clear hfz27_1
            try clear hfz27_2
            try clear hfz27_3
            try clear hfz27_4
            try clear hfz7_0
            try clear hfz7_1
            try clear hfz7_2
            try clear hfz7_3
            try clear hfz7_4
            try clear hfz9_0
            try clear hfz9_1
            try clear hfz9_2
            try clear hfz9_3
            try clear hfz9_4
            try clear hx119_0
            try clear hx119_1
            try clear hx119_2
            try clear hx119_3
            try clear hx119_4
            try clear p119
            try clear p2
            try clear q119
            obtain ⟨kq, x117000_15, x117001_15, x117002_15, x117003_15, x117004_15, HA, HJ15, BK114, BK116, HB⟩ := hcut
            cases kq with
            | zero => exact absurd HA.out (by simp [dedup_Look.j1])
            | succ kj15 =>
              have H := HA.out
              clear HA
              simp only [dedup_Look.j1] at H
              by_cases c28 : a1_2 < x117001_15
              · rw [if_pos c28] at H
                have c28b0 : decide (a1_2 < x117001_15) = true := decide_eq_true c28
                clear c28
                simp only [Option.some.injEq, Prod.mk.injEq] at H
                obtain ⟨rfl, rfl, rfl⟩ := H
                have hnb29 := NB114_116.out
                have hnc29 := NB116_114.out
                have hcz30_0 : wc.cell? ⟨gb114, 0, none⟩ = some (.int .i64 a1_0) := (blk_cell BK114.out 0).trans rfl
                have hcz30_1 : wc.cell? ⟨gb114, 1, none⟩ = some (.int .i64 a1_1) := (blk_cell BK114.out 1).trans rfl
                have hcz30_2 : wc.cell? ⟨gb114, 2, none⟩ = some (.int .i64 a1_2) := (blk_cell BK114.out 2).trans rfl
                have hcz30_3 : wc.cell? ⟨gb114, 3, none⟩ = some (.int .i64 a1_3) := (blk_cell BK114.out 3).trans rfl
                have hcz30_4 : wc.cell? ⟨gb114, 4, none⟩ = some (.slice A1_4 l1_4.length c1_4) := (blk_cell BK114.out 4).trans rfl
                have hfz30_0 := blk_frozen BK114.out 0
                have hfz30_1 := blk_frozen BK114.out 1
                have hfz30_2 := blk_frozen BK114.out 2
                have hfz30_3 := blk_frozen BK114.out 3
                have hfz30_4 := blk_frozen BK114.out 4
                have hcz31_0 : wc.cell? ⟨gb116, 0, none⟩ = some (.int .i64 x117000_15) := (blk_cell BK116.out 0).trans rfl
                have hcz31_1 : wc.cell? ⟨gb116, 1, none⟩ = some (.int .i64 x117001_15) := (blk_cell BK116.out 1).trans rfl
                have hcz31_2 : wc.cell? ⟨gb116, 2, none⟩ = some (.int .i64 x117002_15) := (blk_cell BK116.out 2).trans rfl
                have hcz31_3 : wc.cell? ⟨gb116, 3, none⟩ = some (.int .i64 x117003_15) := (blk_cell BK116.out 3).trans rfl
                have hcz31_4 : wc.cell? ⟨gb116, 4, none⟩ = some (.int .i64 x117004_15) := (blk_cell BK116.out 4).trans rfl
                have hfz31_0 := blk_frozen BK116.out 0
                have hfz31_1 := blk_frozen BK116.out 1
                have hfz31_2 := blk_frozen BK116.out 2
                have hfz31_3 := blk_frozen BK116.out 3
                have hfz31_4 := blk_frozen BK116.out 4
                go_wp2
                go_ret3
                exact ⟨by first | rfl | (simp [errW_none, errW_some] <;> rfl) | (simp [*, errW_none, errW_some] <;> rfl), by repeat (first | (with_reducible first | exact HB.out | apply below_alloc | apply pw_below_drewN | apply below_drew1 | refine below_set ?_ GE114.out | refine below_set ?_ GE116.out) | exact HB.out)⟩
              · rw [if_neg c28] at H
                have c28b0 : decide (a1_2 < x117001_15) = false := decide_eq_false c28
                clear c28
                have HC32 := Aside0.mk H
                clear H
                have hnb33 := NB114_116.out
                have hnc33 := NB116_114.out
                have hcz34_0 : wc.cell? ⟨gb114, 0, none⟩ = some (.int .i64 a1_0) := (blk_cell BK114.out 0).trans rfl
                have hcz34_1 : wc.cell? ⟨gb114, 1, none⟩ = some (.int .i64 a1_1) := (blk_cell BK114.out 1).trans rfl
                have hcz34_2 : wc.cell? ⟨gb114, 2, none⟩ = some (.int .i64 a1_2) := (blk_cell BK114.out 2).trans rfl
                have hcz34_3 : wc.cell? ⟨gb114, 3, none⟩ = some (.int .i64 a1_3) := (blk_cell BK114.out 3).trans rfl
                have hcz34_4 : wc.cell? ⟨gb114, 4, none⟩ = some (.slice A1_4 l1_4.length c1_4) := (blk_cell BK114.out 4).trans rfl
                have hfz34_0 := blk_frozen BK114.out 0
                have hfz34_1 := blk_frozen BK114.out 1
                have hfz34_2 := blk_frozen BK114.out 2
                have hfz34_3 := blk_frozen BK114.out 3
                have hfz34_4 := blk_frozen BK114.out 4
                have hcz35_0 : wc.cell? ⟨gb116, 0, none⟩ = some (.int .i64 x117000_15) := (blk_cell BK116.out 0).trans rfl
                have hcz35_1 : wc.cell? ⟨gb116, 1, none⟩ = some (.int .i64 x117001_15) := (blk_cell BK116.out 1).trans rfl
                have hcz35_2 : wc.cell? ⟨gb116, 2, none⟩ = some (.int .i64 x117002_15) := (blk_cell BK116.out 2).trans rfl
                have hcz35_3 : wc.cell? ⟨gb116, 3, none⟩ = some (.int .i64 x117003_15) := (blk_cell BK116.out 3).trans rfl
                have hcz35_4 : wc.cell? ⟨gb116, 4, none⟩ = some (.int .i64 x117004_15) := (blk_cell BK116.out 4).trans rfl
                have hfz35_0 := blk_frozen BK116.out 0
                have hfz35_1 := blk_frozen BK116.out 1
                have hfz35_2 := blk_frozen BK116.out 2
                have hfz35_3 := blk_frozen BK116.out 3
                have hfz35_4 := blk_frozen BK116.out 4
                go_upto_if 45 with (fail)
                go_cut [] (fun wc => ∃ (kq : Nat) (x117000_31 : Int) (x117001_31 : Int) (x117002_31 : Int) (x117003_31 : Int) (x117004_31 : Int), Aside0 (dedup_Look.j2 kq a1_0 a1_1 a1_2 a1_3 l1_4 x117000_31 x117001_31 x117002_31 x117003_31 x117004_31 = some (r1, r2, r3)) ∧ Aside0 (kq ≤ kj15) ∧ Aside0 (wc.heap[gb114]? = some (.cells #[.int .i64 a1_0, .int .i64 a1_1, .int .i64 a1_2, .int .i64 a1_3, (.slice A1_4 l1_4.length c1_4)] 25 (0, 0))) ∧ Aside0 (wc.heap[gb116]? = some (.cells #[.int .i64 x117000_31, .int .i64 x117001_31, .int .i64 x117002_31, .int .i64 x117003_31, .int .i64 x117004_31] 44 (0, 0))) ∧ Aside0 (Below w.heap.size w wc))
                case first =>
                  have H := HC32.out
                  clear HC32
                  by_cases c36 : a1_2 > x117001_15
                  · rw [if_pos c36] at H
                    have c36b0 : decide (x117001_15 < a1_2) = true := decide_eq_true c36
                    clear c36
                    (first | rw [c36b0] | rw [c36b9] | (simp only [i64_w, i32_w]; rw [c36b0]) | skip)
                    have H' := Aside0.mk H
                    clear H
                    have hnb37 := NB114_116.out
                    have hnc37 := NB116_114.out
                    have hcz38_0 : wc.cell? ⟨gb114, 0, none⟩ = some (.int .i64 a1_0) := (blk_cell BK114.out 0).trans rfl
                    have hcz38_1 : wc.cell? ⟨gb114, 1, none⟩ = some (.int .i64 a1_1) := (blk_cell BK114.out 1).trans rfl
                    have hcz38_2 : wc.cell? ⟨gb114, 2, none⟩ = some (.int .i64 a1_2) := (blk_cell BK114.out 2).trans rfl
                    have hcz38_3 : wc.cell? ⟨gb114, 3, none⟩ = some (.int .i64 a1_3) := (blk_cell BK114.out 3).trans rfl
                    have hcz38_4 : wc.cell? ⟨gb114, 4, none⟩ = some (.slice A1_4 l1_4.length c1_4) := (blk_cell BK114.out 4).trans rfl
                    have hfz38_0 := blk_frozen BK114.out 0
                    have hfz38_1 := blk_frozen BK114.out 1
                    have hfz38_2 := blk_frozen BK114.out 2
                    have hfz38_3 := blk_frozen BK114.out 3
                    have hfz38_4 := blk_frozen BK114.out 4
                    have hcz39_0 : wc.cell? ⟨gb116, 0, none⟩ = some (.int .i64 x117000_15) := (blk_cell BK116.out 0).trans rfl
                    have hcz39_1 : wc.cell? ⟨gb116, 1, none⟩ = some (.int .i64 x117001_15) := (blk_cell BK116.out 1).trans rfl
                    have hcz39_2 : wc.cell? ⟨gb116, 2, none⟩ = some (.int .i64 x117002_15) := (blk_cell BK116.out 2).trans rfl
                    have hcz39_3 : wc.cell? ⟨gb116, 3, none⟩ = some (.int .i64 x117003_15) := (blk_cell BK116.out 3).trans rfl
                    have hcz39_4 : wc.cell? ⟨gb116, 4, none⟩ = some (.int .i64 x117004_15) := (blk_cell BK116.out 4).trans rfl
                    have hfz39_0 := blk_frozen BK116.out 0
                    have hfz39_1 := blk_frozen BK116.out 1
                    have hfz39_2 := blk_frozen BK116.out 2
                    have hfz39_3 := blk_frozen BK116.out 3
                    have hfz39_4 := blk_frozen BK116.out 4
                    go_wp2
                    go_meet
                    case rel => exact ⟨_, (a1_1), (a1_2), (0), (0), (0), H', ⟨by have := HJ2.out; have := HJ15.out; first | omega | exact Nat.le_refl _⟩, ⟨by (with_reducible repeat (first | refine blk_drewN ?_ _ | refine blk_drew ?_ | refine blk_alloc ?_ _)); refine blk_far ?_ NB114_116.out _; (with_reducible repeat (first | refine blk_drewN ?_ _ | refine blk_drew ?_ | refine blk_alloc ?_ _)); refine blk_far ?_ NB114_116.out _; (with_reducible repeat (first | refine blk_drewN ?_ _ | refine blk_drew ?_ | refine blk_alloc ?_ _)); refine blk_far ?_ NB114_116.out _; (with_reducible repeat (first | refine blk_drewN ?_ _ | refine blk_drew ?_ | refine blk_alloc ?_ _)); refine blk_far ?_ NB114_116.out _; (with_reducible repeat (first | refine blk_drewN ?_ _ | refine blk_drew ?_ | refine blk_alloc ?_ _)); refine blk_far ?_ NB114_116.out _; (with_reducible repeat (first | refine blk_drewN ?_ _ | refine blk_drew ?_ | refine blk_alloc ?_ _)); exact BK114.out⟩, ⟨by (with_reducible repeat (first | refine blk_drewN ?_ _ | refine blk_drew ?_ | refine blk_alloc ?_ _)); refine blk_put (cs := #[.int .i64 a1_1, .int .i64 a1_2, .int .i64 0, .int .i64 0, .int .i64 x117004_15]) ?_ 4 _ rfl; (with_reducible repeat (first | refine blk_drewN ?_ _ | refine blk_drew ?_ | refine blk_alloc ?_ _)); refine blk_put (cs := #[.int .i64 a1_1, .int .i64 a1_2, .int .i64 0, .int .i64 x117003_15, .int .i64 x117004_15]) ?_ 3 _ rfl; (with_reducible repeat (first | refine blk_drewN ?_ _ | refine blk_drew ?_ | refine blk_alloc ?_ _)); refine blk_put (cs := #[.int .i64 a1_1, .int .i64 a1_2, .int .i64 x117002_15, .int .i64 x117003_15, .int .i64 x117004_15]) ?_ 2 _ rfl; (with_reducible repeat (first | refine blk_drewN ?_ _ | refine blk_drew ?_ | refine blk_alloc ?_ _)); refine blk_put (cs := #[.int .i64 a1_1, .int .i64 x117001_15, .int .i64 x117002_15, .int .i64 x117003_15, .int .i64 x117004_15]) ?_ 1 _ rfl; (with_reducible repeat (first | refine blk_drewN ?_ _ | refine blk_drew ?_ | refine blk_alloc ?_ _)); refine blk_put (cs := #[.int .i64 x117000_15, .int .i64 x117001_15, .int .i64 x117002_15, .int .i64 x117003_15, .int .i64 x117004_15]) ?_ 0 _ rfl; (with_reducible repeat (first | refine blk_drewN ?_ _ | refine blk_drew ?_ | refine blk_alloc ?_ _)); exact BK116.out⟩, ⟨by repeat (first | (with_reducible first | exact HB.out | apply below_alloc | apply pw_below_drewN | apply below_drew1 | refine below_set ?_ GE114.out | refine below_set ?_ GE116.out) | exact HB.out)⟩⟩
                  · rw [if_neg c36] at H
                    have c36b0 : decide (x117001_15 < a1_2) = false := decide_eq_false c36
                    clear c36
                    (first | rw [c36b0] | rw [c36b9] | (simp only [i64_w, i32_w]; rw [c36b0]) | skip)
                    have H' := Aside0.mk H
                    clear H
                    go_wp2
                    go_meet
                    case rel => exact ⟨_, (x117000_15), (x117001_15), (x117002_15), (x117003_15), (x117004_15), H', ⟨by have := HJ2.out; have := HJ15.out; first | omega | exact Nat.le_refl _⟩, ⟨by (with_reducible repeat (first | refine blk_drewN ?_ _ | refine blk_drew ?_ | refine blk_alloc ?_ _)); exact BK114.out⟩, ⟨by (with_reducible repeat (first | refine blk_drewN ?_ _ | refine blk_drew ?_ | refine blk_alloc ?_ _)); exact BK116.out⟩, ⟨by repeat (first | (with_reducible first | exact HB.out | apply below_alloc | apply pw_below_drewN | apply below_drew1 | refine below_set ?_ GE114.out | refine below_set ?_ GE116.out) | exact HB.out)⟩⟩
                case rest =>
                  clear HC32
                  try clear c1
                  try clear p1
                  try clear q1
                  try clear hx1
                  try clear c2
                  try clear p2
                  try clear c3
                  try clear c6
                  try clear c6b0
                  try clear c6b1
                  try clear c11
                  try clear p11
                  try clear q11
                  try clear hx11
                  try clear c12
                  try clear c13
                  try clear c13b0
                  try clear c13b1
                  try clear c19
                  try clear c20
                  try clear c21
                  try clear c23
                  try clear c24
                  try clear c24b0
                  try clear c25
                  try clear c25b0
                  try clear c26
                  try clear c28
                  try clear c28b0
                  try clear c29
                  try clear c33
                  try clear c36
                  try clear c36b0
                  try clear c37
                  try clear hcz10_0
                  try clear hcz10_1
                  try clear hcz10_2
                  try clear hcz10_3
                  try clear hcz10_4
                  try clear hcz14_0
                  try clear hcz14_1
                  try clear hcz14_2
                  try clear hcz14_3
                  try clear hcz14_4
                  try clear hcz17_0
                  try clear hcz17_1
                  try clear hcz17_2
                  try clear hcz17_3
                  try clear hcz17_4
                  try clear hcz20_0
                  try clear hcz20_1
                  try clear hcz20_2
                  try clear hcz20_3
                  try clear hcz20_4
                  try clear hcz21_0
                  try clear hcz21_1
                  try clear hcz21_2
                  try clear hcz21_3
                  try clear hcz21_4
                  try clear hcz27_0
                  try clear hcz27_1
                  try clear hcz27_2
                  try clear hcz27_3
                  try clear hcz27_4
                  try clear hcz30_0
                  try clear hcz30_1
                  try clear hcz30_2
                  try clear hcz30_3
                  try clear hcz30_4
                  try clear hcz31_0
                  try clear hcz31_1
                  try clear hcz31_2
                  try clear hcz31_3
                  try clear hcz31_4
                  try clear hcz34_0
                  try clear hcz34_1
                  try clear hcz34_2
                  try clear hcz34_3
                  try clear hcz34_4
                  try clear hcz35_0
                  try clear hcz35_1
                  try clear hcz35_2
                  try clear hcz35_3
                  try clear hcz35_4
                  try clear hcz38_0
                  try clear hcz38_1
                  try clear hcz38_2
                  try clear hcz38_3
                  try clear hcz38_4
                  try clear hcz39_0
                  try clear hcz39_1
                  try clear hcz39_2
                  try clear hcz39_3
                  try clear hcz39_4
                  try clear hcz7_0
                  try clear hcz7_1
                  try clear hcz7_2
                  try clear hcz7_3
                  try clear hcz7_4
                  try clear hcz9_0
                  try clear hcz9_1
                  try clear hcz9_2
                  try clear hcz9_3
                  try clear hcz9_4
                  try clear hfz10_0
                  try clear hfz10_1
                  try clear hfz10_2
                  try clear hfz10_3
                  try clear hfz10_4
                  try clear hfz14_0
                  try clear hfz14_1
                  try clear hfz14_2
                  try clear hfz14_3
                  try clear hfz14_4
                  try clear hfz17_0
                  try clear hfz17_1
                  try clear hfz17_2
                  try clear hfz17_3
                  try clear hfz17_4
                  try clear hfz20_0
                  try clear hfz20_1
                  try clear hfz20_2
                  try clear hfz20_3
                  try clear hfz20_4
                  try clear hfz21_0
                  try clear hfz21_1
                  try clear hfz21_2
                  try clear hfz21_3
                  try clear hfz21_4
                  try clear hfz27_0
                  try clear hfz27_1
                  try clear hfz27_2
                  try clear hfz27_3
                  try clear hfz27_4
                  try clear hfz30_0
                  try clear hfz30_1
                  try clear hfz30_2
                  try clear hfz30_3
                  try clear hfz30_4
                  try clear hfz31_0
                  try clear hfz31_1
                  try clear hfz31_2
                  try clear hfz31_3
                  try clear hfz31_4
                  try clear hfz34_0
                  try clear hfz34_1
                  try clear hfz34_2
                  try clear hfz34_3
                  try clear hfz34_4
                  try clear hfz35_0
                  try clear hfz35_1
                  try clear hfz35_2
                  try clear hfz35_3
                  try clear hfz35_4
                  try clear hfz38_0
                  try clear hfz38_1
                  try clear hfz38_2
                  try clear hfz38_3
                  try clear hfz38_4
                  try clear hfz39_0
                  try clear hfz39_1
                  try clear hfz39_2
                  try clear hfz39_3
                  try clear hfz39_4
                  try clear hfz7_0
                  try clear hfz7_1
                  try clear hfz7_2
                  try clear hfz7_3
                  try clear hfz7_4
                  try clear hfz9_0
                  try clear hfz9_1
                  try clear hfz9_2
                  try clear hfz9_3
                  try clear hfz9_4
                  try clear hx119_0
                  try clear hx119_1
                  try clear hx119_2
                  try clear hx119_3
                  try clear hx119_4
                  try clear p1
                  try clear p11
                  try clear p119
                  try clear p2
                  try clear q1
                  try clear q11
                  try clear q119
                  obtain ⟨kq, x117000_31, x117001_31, x117002_31, x117003_31, x117004_31, HA, HJ31, BK114, BK116, HB⟩ := hcut
                  cases kq with
                  | zero => exact absurd HA.out (by simp [dedup_Look.j2])
                  | succ kj31 =>
                    have H := HA.out
                    clear HA
                    simp only [dedup_Look.j2] at H
                    have HC40 := Aside0.mk H
                    clear H
                    go_upto_region 13 with (fail)
                    go_cut [51] (fun v51 wc => ∃ (kq : Nat) (x51_39 : Bool), v51 = .bool x51_39 ∧ Aside0 (dedup_Look.j3 kq x51_39 a1_0 a1_1 a1_2 a1_3 l1_4 x117000_31 x117001_31 x117002_31 x117003_31 x117004_31 = some (r1, r2, r3)) ∧ Aside0 (kq ≤ kj31) ∧ Aside0 (wc.heap[gb114]? = some (.cells #[.int .i64 a1_0, .int .i64 a1_1, .int .i64 a1_2, .int .i64 a1_3, (.slice A1_4 l1_4.length c1_4)] 25 (0, 0))) ∧ Aside0 (wc.heap[gb116]? = some (.cells #[.int .i64 x117000_31, .int .i64 x117001_31, .int .i64 x117002_31, .int .i64 x117003_31, .int .i64 x117004_31] 44 (0, 0))) ∧ Aside0 (Below w.heap.size w wc))
                    case first =>
                      have H := HC40.out
                      clear HC40
                      by_cases c41 : x117003_31 > 0
                      · rw [if_pos c41] at H
                        have c41b0 : decide (0 < x117003_31) = true := decide_eq_true c41
                        clear c41
                        (first | rw [c41b0] | rw [c41b9] | (simp only [i64_w, i32_w]; rw [c41b0]) | skip)
                        by_cases c42 : a1_3 = x117002_31
                        · rw [if_pos c42] at H
                          have c42b0 : (a1_3 == x117002_31) = true := beq_iff_eq.mpr c42
                          have c42b1 : (a1_3 != x117002_31) = false := bne_eq_false_iff_eq.mpr c42
                          clear c42
                          have H' := Aside0.mk H
                          clear H
                          have hnb43 := NB116_114.out
                          have hnc43 := NB114_116.out
                          have hcz44_0 : wc.cell? ⟨gb116, 0, none⟩ = some (.int .i64 x117000_31) := (blk_cell BK116.out 0).trans rfl
                          have hcz44_1 : wc.cell? ⟨gb116, 1, none⟩ = some (.int .i64 x117001_31) := (blk_cell BK116.out 1).trans rfl
                          have hcz44_2 : wc.cell? ⟨gb116, 2, none⟩ = some (.int .i64 x117002_31) := (blk_cell BK116.out 2).trans rfl
                          have hcz44_3 : wc.cell? ⟨gb116, 3, none⟩ = some (.int .i64 x117003_31) := (blk_cell BK116.out 3).trans rfl
                          have hcz44_4 : wc.cell? ⟨gb116, 4, none⟩ = some (.int .i64 x117004_31) := (blk_cell BK116.out 4).trans rfl
                          have hfz44_0 := blk_frozen BK116.out 0
                          have hfz44_1 := blk_frozen BK116.out 1
                          have hfz44_2 := blk_frozen BK116.out 2
                          have hfz44_3 := blk_frozen BK116.out 3
                          have hfz44_4 := blk_frozen BK116.out 4
                          have hcz45_0 : wc.cell? ⟨gb114, 0, none⟩ = some (.int .i64 a1_0) := (blk_cell BK114.out 0).trans rfl
                          have hcz45_1 : wc.cell? ⟨gb114, 1, none⟩ = some (.int .i64 a1_1) := (blk_cell BK114.out 1).trans rfl
                          have hcz45_2 : wc.cell? ⟨gb114, 2, none⟩ = some (.int .i64 a1_2) := (blk_cell BK114.out 2).trans rfl
                          have hcz45_3 : wc.cell? ⟨gb114, 3, none⟩ = some (.int .i64 a1_3) := (blk_cell BK114.out 3).trans rfl
                          have hcz45_4 : wc.cell? ⟨gb114, 4, none⟩ = some (.slice A1_4 l1_4.length c1_4) := (blk_cell BK114.out 4).trans rfl
                          have hfz45_0 := blk_frozen BK114.out 0
                          have hfz45_1 := blk_frozen BK114.out 1
                          have hfz45_2 := blk_frozen BK114.out 2
                          have hfz45_3 := blk_frozen BK114.out 3
                          have hfz45_4 := blk_frozen BK114.out 4
                          go_wp2
                          go_meet
                          case rel => exact ⟨_, (((l1_4.length : Int) == x117003_31)), (by first | rfl | (simp; done) | (simp [*]; done)), H', ⟨by have := HJ2.out; have := HJ15.out; have := HJ31.out; first | omega | exact Nat.le_refl _⟩, ⟨by (with_reducible repeat (first | refine blk_drewN ?_ _ | refine blk_drew ?_ | refine blk_alloc ?_ _)); exact BK114.out⟩, ⟨by (with_reducible repeat (first | refine blk_drewN ?_ _ | refine blk_drew ?_ | refine blk_alloc ?_ _)); exact BK116.out⟩, ⟨by repeat (first | (with_reducible first | exact HB.out | apply below_alloc | apply pw_below_drewN | apply below_drew1 | refine below_set ?_ GE114.out | refine below_set ?_ GE116.out) | exact HB.out)⟩⟩
                        · rw [if_neg c42] at H
                          have c42b0 : (a1_3 == x117002_31) = false := beq_eq_false_iff_ne.mpr c42
                          have c42b1 : (a1_3 != x117002_31) = true := bne_iff_ne.mpr c42
                          have H' := Aside0.mk H
                          clear H
                          have hnb46 := NB116_114.out
                          have hnc46 := NB114_116.out
                          have hcz47_0 : wc.cell? ⟨gb116, 0, none⟩ = some (.int .i64 x117000_31) := (blk_cell BK116.out 0).trans rfl
                          have hcz47_1 : wc.cell? ⟨gb116, 1, none⟩ = some (.int .i64 x117001_31) := (blk_cell BK116.out 1).trans rfl
                          have hcz47_2 : wc.cell? ⟨gb116, 2, none⟩ = some (.int .i64 x117002_31) := (blk_cell BK116.out 2).trans rfl
                          have hcz47_3 : wc.cell? ⟨gb116, 3, none⟩ = some (.int .i64 x117003_31) := (blk_cell BK116.out 3).trans rfl
                          have hcz47_4 : wc.cell? ⟨gb116, 4, none⟩ = some (.int .i64 x117004_31) := (blk_cell BK116.out 4).trans rfl
                          have hfz47_0 := blk_frozen BK116.out 0
                          have hfz47_1 := blk_frozen BK116.out 1
                          have hfz47_2 := blk_frozen BK116.out 2
                          have hfz47_3 := blk_frozen BK116.out 3
                          have hfz47_4 := blk_frozen BK116.out 4
                          have hcz48_0 : wc.cell? ⟨gb114, 0, none⟩ = some (.int .i64 a1_0) := (blk_cell BK114.out 0).trans rfl
                          have hcz48_1 : wc.cell? ⟨gb114, 1, none⟩ = some (.int .i64 a1_1) := (blk_cell BK114.out 1).trans rfl
                          have hcz48_2 : wc.cell? ⟨gb114, 2, none⟩ = some (.int .i64 a1_2) := (blk_cell BK114.out 2).trans rfl
                          have hcz48_3 : wc.cell? ⟨gb114, 3, none⟩ = some (.int .i64 a1_3) := (blk_cell BK114.out 3).trans rfl
                          have hcz48_4 : wc.cell? ⟨gb114, 4, none⟩ = some (.slice A1_4 l1_4.length c1_4) := (blk_cell BK114.out 4).trans rfl
                          have hfz48_0 := blk_frozen BK114.out 0
                          have hfz48_1 := blk_frozen BK114.out 1
                          have hfz48_2 := blk_frozen BK114.out 2
                          have hfz48_3 := blk_frozen BK114.out 3
                          have hfz48_4 := blk_frozen BK114.out 4
                          go_wp2
                          go_meet
                          case rel => exact ⟨_, (false), (by first | rfl | (simp; done) | (simp [*]; done)), H', ⟨by have := HJ2.out; have := HJ15.out; have := HJ31.out; first | omega | exact Nat.le_refl _⟩, ⟨by (with_reducible repeat (first | refine blk_drewN ?_ _ | refine blk_drew ?_ | refine blk_alloc ?_ _)); exact BK114.out⟩, ⟨by (with_reducible repeat (first | refine blk_drewN ?_ _ | refine blk_drew ?_ | refine blk_alloc ?_ _)); exact BK116.out⟩, ⟨by repeat (first | (with_reducible first | exact HB.out | apply below_alloc | apply pw_below_drewN | apply below_drew1 | refine below_set ?_ GE114.out | refine below_set ?_ GE116.out) | exact HB.out)⟩⟩
                      · rw [if_neg c41] at H
                        have c41b0 : decide (0 < x117003_31) = false := decide_eq_false c41
                        clear c41
                        (first | rw [c41b0] | rw [c41b9] | (simp only [i64_w, i32_w]; rw [c41b0]) | skip)
                        have H' := Aside0.mk H
                        clear H
                        have hnb49 := NB116_114.out
                        have hnc49 := NB114_116.out
                        have hcz50_0 : wc.cell? ⟨gb116, 0, none⟩ = some (.int .i64 x117000_31) := (blk_cell BK116.out 0).trans rfl
                        have hcz50_1 : wc.cell? ⟨gb116, 1, none⟩ = some (.int .i64 x117001_31) := (blk_cell BK116.out 1).trans rfl
                        have hcz50_2 : wc.cell? ⟨gb116, 2, none⟩ = some (.int .i64 x117002_31) := (blk_cell BK116.out 2).trans rfl
                        have hcz50_3 : wc.cell? ⟨gb116, 3, none⟩ = some (.int .i64 x117003_31) := (blk_cell BK116.out 3).trans rfl
                        have hcz50_4 : wc.cell? ⟨gb116, 4, none⟩ = some (.int .i64 x117004_31) := (blk_cell BK116.out 4).trans rfl
                        have hfz50_0 := blk_frozen BK116.out 0
                        have hfz50_1 := blk_frozen BK116.out 1
                        have hfz50_2 := blk_frozen BK116.out 2
                        have hfz50_3 := blk_frozen BK116.out 3
                        have hfz50_4 := blk_frozen BK116.out 4
                        go_wp2
                        go_meet
                        case rel => exact ⟨_, (false), (by first | rfl | (simp; done) | (simp [*]; done)), H', ⟨by have := HJ2.out; have := HJ15.out; have := HJ31.out; first | omega | exact Nat.le_refl _⟩, ⟨by (with_reducible repeat (first | refine blk_drewN ?_ _ | refine blk_drew ?_ | refine blk_alloc ?_ _)); exact BK114.out⟩, ⟨by (with_reducible repeat (first | refine blk_drewN ?_ _ | refine blk_drew ?_ | refine blk_alloc ?_ _)); exact BK116.out⟩, ⟨by repeat (first | (with_reducible first | exact HB.out | apply below_alloc | apply pw_below_drewN | apply below_drew1 | refine below_set ?_ GE114.out | refine below_set ?_ GE116.out) | exact HB.out)⟩⟩
                    case rest =>
                      clear HC40
                      try clear c1
                      try clear p1
                      try clear q1
                      try clear hx1
                      try clear c2
                      try clear p2
                      try clear c3
                      try clear c4
                      try clear c6
                      try clear c6b0
                      try clear c6b1
                      try clear c11
                      try clear p11
                      try clear q11
                      try clear hx11
                      try clear c12
                      try clear c13
                      try clear c13b0
                      try clear c13b1
                      try clear c19
                      try clear c20
                      try clear c21
                      try clear c23
                      try clear c24
                      try clear c24b0
                      try clear c25
                      try clear c25b0
                      try clear c26
                      try clear c28
                      try clear c28b0
                      try clear c29
                      try clear c33
                      try clear c36
                      try clear c36b0
                      try clear c37
                      try clear c41
                      try clear c41b0
                      try clear c42
                      try clear c42b0
                      try clear c42b1
                      try clear c43
                      try clear c46
                      try clear c49
                      try clear hcz10_0
                      try clear hcz10_1
                      try clear hcz10_2
                      try clear hcz10_3
                      try clear hcz10_4
                      try clear hcz14_0
                      try clear hcz14_1
                      try clear hcz14_2
                      try clear hcz14_3
                      try clear hcz14_4
                      try clear hcz17_0
                      try clear hcz17_1
                      try clear hcz17_2
                      try clear hcz17_3
                      try clear hcz17_4
                      try clear hcz20_0
                      try clear hcz20_1
                      try clear hcz20_2
                      try clear hcz20_3
                      try clear hcz20_4
                      try clear hcz21_0
                      try clear hcz21_1
                      try clear hcz21_2
                      try clear hcz21_3
                      try clear hcz21_4
                      try clear hcz27_0
                      try clear hcz27_1
                      try clear hcz27_2
                      try clear hcz27_3
                      try clear hcz27_4
                      try clear hcz30_0
                      try clear hcz30_1
                      try clear hcz30_2
                      try clear hcz30_3
                      try clear hcz30_4
                      try clear hcz31_0
                      try clear hcz31_1
                      try clear hcz31_2
                      try clear hcz31_3
                      try clear hcz31_4
                      try clear hcz34_0
                      try clear hcz34_1
                      try clear hcz34_2
                      try clear hcz34_3
                      try clear hcz34_4
                      try clear hcz35_0
                      try clear hcz35_1
                      try clear hcz35_2
                      try clear hcz35_3
                      try clear hcz35_4
                      try clear hcz38_0
                      try clear hcz38_1
                      try clear hcz38_2
                      try clear hcz38_3
                      try clear hcz38_4
                      try clear hcz39_0
                      try clear hcz39_1
                      try clear hcz39_2
                      try clear hcz39_3
                      try clear hcz39_4
                      try clear hcz44_0
                      try clear hcz44_1
                      try clear hcz44_2
                      try clear hcz44_3
                      try clear hcz44_4
                      try clear hcz45_0
                      try clear hcz45_1
                      try clear hcz45_2
                      try clear hcz45_3
                      try clear hcz45_4
                      try clear hcz47_0
                      try clear hcz47_1
                      try clear hcz47_2
                      try clear hcz47_3
                      try clear hcz47_4
                      try clear hcz48_0
                      try clear hcz48_1
                      try clear hcz48_2
                      try clear hcz48_3
                      try clear hcz48_4
                      try clear hcz50_0
                      try clear hcz50_1
                      try clear hcz50_2
                      try clear hcz50_3
                      try clear hcz50_4
                      try clear hcz7_0
                      try clear hcz7_1
                      try clear hcz7_2
                      try clear hcz7_3
                      try clear hcz7_4
                      try clear hcz9_0
                      try clear hcz9_1
                      try clear hcz9_2
                      try clear hcz9_3
                      try clear hcz9_4
                      try clear hfz10_0
                      try clear hfz10_1
                      try clear hfz10_2
                      try clear hfz10_3
                      try clear hfz10_4
                      try clear hfz14_0
                      try clear hfz14_1
                      try clear hfz14_2
                      try clear hfz14_3
                      try clear hfz14_4
                      try clear hfz17_0
                      try clear hfz17_1
                      try clear hfz17_2
                      try clear hfz17_3
                      try clear hfz17_4
                      try clear hfz20_0
                      try clear hfz20_1
                      try clear hfz20_2
                      try clear hfz20_3
                      try clear hfz20_4
                      try clear hfz21_0
                      try clear hfz21_1
                      try clear hfz21_2
                      try clear hfz21_3
                      try clear hfz21_4
                      try clear hfz27_0
                      try clear hfz27_1
                      try clear hfz27_2
                      try clear hfz27_3
                      try clear hfz27_4
                      try clear hfz30_0
                      try clear hfz30_1
                      try clear hfz30_2
                      try clear hfz30_3
                      try clear hfz30_4
                      try clear hfz31_0
                      try clear hfz31_1
                      try clear hfz31_2
                      try clear hfz31_3
                      try clear hfz31_4
                      try clear hfz34_0
                      try clear hfz34_1
                      try clear hfz34_2
                      try clear hfz34_3
                      try clear hfz34_4
                      try clear hfz35_0
                      try clear hfz35_1
                      try clear hfz35_2
                      try clear hfz35_3
                      try clear hfz35_4
                      try clear hfz38_0
                      try clear hfz38_1
                      try clear hfz38_2
                      try clear hfz38_3
                      try clear hfz38_4
                      try clear hfz39_0
                      try clear hfz39_1
                      try clear hfz39_2
                      try clear hfz39_3
                      try clear hfz39_4
                      try clear hfz44_0
                      try clear hfz44_1
                      try clear hfz44_2
                      try clear hfz44_3
                      try clear hfz44_4
                      try clear hfz45_0
                      try clear hfz45_1
                      try clear hfz45_2
                      try clear hfz45_3
                      try clear hfz45_4
                      try clear hfz47_0
                      try clear hfz47_1
                      try clear hfz47_2
                      try clear hfz47_3
                      try clear hfz47_4
                      try clear hfz48_0
                      try clear hfz48_1
                      try clear hfz48_2
                      try clear hfz48_3
                      try clear hfz48_4
                      try clear hfz50_0
                      try clear hfz50_1
                      try clear hfz50_2
                      try clear hfz50_3
                      try clear hfz50_4
                      try clear hfz7_0
                      try clear hfz7_1
                      try clear hfz7_2
                      try clear hfz7_3
                      try clear hfz7_4
                      try clear hfz9_0
                      try clear hfz9_1
                      try clear hfz9_2
                      try clear hfz9_3
                      try clear hfz9_4
                      try clear hx119_0
                      try clear hx119_1
                      try clear hx119_2
                      try clear hx119_3
                      try clear hx119_4
                      try clear p1
                      try clear p11
                      try clear p119
                      try clear p2
                      try clear q1
                      try clear q11
                      try clear q119
                      obtain ⟨kq, x51_39, rfl, HA, HJ39, BK114, BK116, HB⟩ := hcut
                      cases kq with
                      | zero => exact absurd HA.out (by simp [dedup_Look.j3])
                      | succ kj39 =>
                        have H := HA.out
                        clear HA
                        simp only [dedup_Look.j3] at H
                        by_cases c51 : x51_39 = true
                        · subst c51
                          have H1 : (some (x117004_31, true, 0)) = some (r1, r2, r3) := by rw [if_pos rfl] at H; exact H
                          clear H
                          have H := H1
                          clear H1
                          simp only [Option.some.injEq, Prod.mk.injEq] at H
                          obtain ⟨rfl, rfl, rfl⟩ := H
                          have hnb52 := NB116_114.out
                          have hnc52 := NB114_116.out
                          have hcz53_0 : wc.cell? ⟨gb116, 0, none⟩ = some (.int .i64 x117000_31) := (blk_cell BK116.out 0).trans rfl
                          have hcz53_1 : wc.cell? ⟨gb116, 1, none⟩ = some (.int .i64 x117001_31) := (blk_cell BK116.out 1).trans rfl
                          have hcz53_2 : wc.cell? ⟨gb116, 2, none⟩ = some (.int .i64 x117002_31) := (blk_cell BK116.out 2).trans rfl
                          have hcz53_3 : wc.cell? ⟨gb116, 3, none⟩ = some (.int .i64 x117003_31) := (blk_cell BK116.out 3).trans rfl
                          have hcz53_4 : wc.cell? ⟨gb116, 4, none⟩ = some (.int .i64 x117004_31) := (blk_cell BK116.out 4).trans rfl
                          have hfz53_0 := blk_frozen BK116.out 0
                          have hfz53_1 := blk_frozen BK116.out 1
                          have hfz53_2 := blk_frozen BK116.out 2
                          have hfz53_3 := blk_frozen BK116.out 3
                          have hfz53_4 := blk_frozen BK116.out 4
                          go_wp2
                          go_ret3
                          exact ⟨by first | rfl | (simp [errW_none, errW_some] <;> rfl) | (simp [*, errW_none, errW_some] <;> rfl), by repeat (first | (with_reducible first | exact HB.out | apply below_alloc | apply pw_below_drewN | apply below_drew1 | refine below_set ?_ GE114.out | refine below_set ?_ GE116.out) | exact HB.out)⟩
                        · replace c51 := Bool.eq_false_iff.mpr c51
                          subst c51
                          have H1 : (if x117003_31 > 0 then (dedup_Look.j4 kj39 ((wrap64 (a1_3 - x117003_31)) == x117002_31) a1_0 a1_1 a1_2 a1_3 l1_4 x117000_31 x117001_31 x117002_31 x117003_31 x117004_31) else (dedup_Look.j4 kj39 false a1_0 a1_1 a1_2 a1_3 l1_4 x117000_31 x117001_31 x117002_31 x117003_31 x117004_31)) = some (r1, r2, r3) := by rw [if_neg (show ¬ (false = true) by decide)] at H; exact H
                          clear H
                          have H := H1
                          clear H1
                          have HC54 := Aside0.mk H
                          clear H
                          go_upto_region 15 with (fail)
                          go_cut [72] (fun v72 wc => ∃ (kq : Nat) (x72_53 : Bool), v72 = .bool x72_53 ∧ Aside0 (dedup_Look.j4 kq x72_53 a1_0 a1_1 a1_2 a1_3 l1_4 x117000_31 x117001_31 x117002_31 x117003_31 x117004_31 = some (r1, r2, r3)) ∧ Aside0 (kq ≤ kj39) ∧ Aside0 (wc.heap[gb114]? = some (.cells #[.int .i64 a1_0, .int .i64 a1_1, .int .i64 a1_2, .int .i64 a1_3, (.slice A1_4 l1_4.length c1_4)] 25 (0, 0))) ∧ Aside0 (wc.heap[gb116]? = some (.cells #[.int .i64 x117000_31, .int .i64 x117001_31, .int .i64 x117002_31, .int .i64 x117003_31, .int .i64 x117004_31] 44 (0, 0))) ∧ Aside0 (Below w.heap.size w wc))
                          case first =>
                            have H := HC54.out
                            clear HC54
                            by_cases c55 : x117003_31 > 0
                            · rw [if_pos c55] at H
                              have c55b0 : decide (0 < x117003_31) = true := decide_eq_true c55
                              clear c55
                              (first | rw [c55b0] | rw [c55b9] | (simp only [i64_w, i32_w]; rw [c55b0]) | skip)
                              have H' := Aside0.mk H
                              clear H
                              have hnb56 := NB116_114.out
                              have hnc56 := NB114_116.out
                              have hcz57_0 : wc.cell? ⟨gb116, 0, none⟩ = some (.int .i64 x117000_31) := (blk_cell BK116.out 0).trans rfl
                              have hcz57_1 : wc.cell? ⟨gb116, 1, none⟩ = some (.int .i64 x117001_31) := (blk_cell BK116.out 1).trans rfl
                              have hcz57_2 : wc.cell? ⟨gb116, 2, none⟩ = some (.int .i64 x117002_31) := (blk_cell BK116.out 2).trans rfl
                              have hcz57_3 : wc.cell? ⟨gb116, 3, none⟩ = some (.int .i64 x117003_31) := (blk_cell BK116.out 3).trans rfl
                              have hcz57_4 : wc.cell? ⟨gb116, 4, none⟩ = some (.int .i64 x117004_31) := (blk_cell BK116.out 4).trans rfl
                              have hfz57_0 := blk_frozen BK116.out 0
                              have hfz57_1 := blk_frozen BK116.out 1
                              have hfz57_2 := blk_frozen BK116.out 2
                              have hfz57_3 := blk_frozen BK116.out 3
                              have hfz57_4 := blk_frozen BK116.out 4
                              have hcz58_0 : wc.cell? ⟨gb114, 0, none⟩ = some (.int .i64 a1_0) := (blk_cell BK114.out 0).trans rfl
                              have hcz58_1 : wc.cell? ⟨gb114, 1, none⟩ = some (.int .i64 a1_1) := (blk_cell BK114.out 1).trans rfl
                              have hcz58_2 : wc.cell? ⟨gb114, 2, none⟩ = some (.int .i64 a1_2) := (blk_cell BK114.out 2).trans rfl
                              have hcz58_3 : wc.cell? ⟨gb114, 3, none⟩ = some (.int .i64 a1_3) := (blk_cell BK114.out 3).trans rfl
                              have hcz58_4 : wc.cell? ⟨gb114, 4, none⟩ = some (.slice A1_4 l1_4.length c1_4) := (blk_cell BK114.out 4).trans rfl
                              have hfz58_0 := blk_frozen BK114.out 0
                              have hfz58_1 := blk_frozen BK114.out 1
                              have hfz58_2 := blk_frozen BK114.out 2
                              have hfz58_3 := blk_frozen BK114.out 3
                              have hfz58_4 := blk_frozen BK114.out 4
                              go_wp2
                              go_meet
                              case rel => exact ⟨_, (((wrap64 (a1_3 - x117003_31)) == x117002_31)), (by first | rfl | (simp; done) | (simp [*]; done)), H', ⟨by have := HJ2.out; have := HJ15.out; have := HJ31.out; have := HJ39.out; first | omega | exact Nat.le_refl _⟩, ⟨by (with_reducible repeat (first | refine blk_drewN ?_ _ | refine blk_drew ?_ | refine blk_alloc ?_ _)); exact BK114.out⟩, ⟨by (with_reducible repeat (first | refine blk_drewN ?_ _ | refine blk_drew ?_ | refine blk_alloc ?_ _)); exact BK116.out⟩, ⟨by repeat (first | (with_reducible first | exact HB.out | apply below_alloc | apply pw_below_drewN | apply below_drew1 | refine below_set ?_ GE114.out | refine below_set ?_ GE116.out) | exact HB.out)⟩⟩
                            · rw [if_neg c55] at H
                              have c55b0 : decide (0 < x117003_31) = false := decide_eq_false c55
                              clear c55
                              (first | rw [c55b0] | rw [c55b9] | (simp only [i64_w, i32_w]; rw [c55b0]) | skip)
                              have H' := Aside0.mk H
                              clear H
                              have hnb59 := NB116_114.out
                              have hnc59 := NB114_116.out
                              have hcz60_0 : wc.cell? ⟨gb116, 0, none⟩ = some (.int .i64 x117000_31) := (blk_cell BK116.out 0).trans rfl
                              have hcz60_1 : wc.cell? ⟨gb116, 1, none⟩ = some (.int .i64 x117001_31) := (blk_cell BK116.out 1).trans rfl
                              have hcz60_2 : wc.cell? ⟨gb116, 2, none⟩ = some (.int .i64 x117002_31) := (blk_cell BK116.out 2).trans rfl
                              have hcz60_3 : wc.cell? ⟨gb116, 3, none⟩ = some (.int .i64 x117003_31) := (blk_cell BK116.out 3).trans rfl
                              have hcz60_4 : wc.cell? ⟨gb116, 4, none⟩ = some (.int .i64 x117004_31) := (blk_cell BK116.out 4).trans rfl
                              have hfz60_0 := blk_frozen BK116.out 0
                              have hfz60_1 := blk_frozen BK116.out 1
                              have hfz60_2 := blk_frozen BK116.out 2
                              have hfz60_3 := blk_frozen BK116.out 3
                              have hfz60_4 := blk_frozen BK116.out 4
                              go_wp2
                              go_meet
                              case rel => exact ⟨_, (false), (by first | rfl | (simp; done) | (simp [*]; done)), H', ⟨by have := HJ2.out; have := HJ15.out; have := HJ31.out; have := HJ39.out; first | omega | exact Nat.le_refl _⟩, ⟨by (with_reducible repeat (first | refine blk_drewN ?_ _ | refine blk_drew ?_ | refine blk_alloc ?_ _)); exact BK114.out⟩, ⟨by (with_reducible repeat (first | refine blk_drewN ?_ _ | refine blk_drew ?_ | refine blk_alloc ?_ _)); exact BK116.out⟩, ⟨by repeat (first | (with_reducible first | exact HB.out | apply below_alloc | apply pw_below_drewN | apply below_drew1 | refine below_set ?_ GE114.out | refine below_set ?_ GE116.out) | exact HB.out)⟩⟩
                          case rest =>
                            clear HC54
                            try clear c1
                            try clear p1
                            try clear q1
                            try clear hx1
                            try clear c2
                            try clear p2
                            try clear c3
                            try clear c4
                            try clear c5
                            try clear c6
                            try clear c6b0
                            try clear c6b1
                            try clear p6
                            try clear c11
                            try clear p11
                            try clear q11
                            try clear hx11
                            try clear c12
                            try clear c13
                            try clear c13b0
                            try clear c13b1
                            try clear c19
                            try clear c20
                            try clear c21
                            try clear c23
                            try clear c24
                            try clear c24b0
                            try clear c25
                            try clear c25b0
                            try clear c26
                            try clear c28
                            try clear c28b0
                            try clear c29
                            try clear c33
                            try clear c36
                            try clear c36b0
                            try clear c37
                            try clear c41
                            try clear c41b0
                            try clear c42
                            try clear c42b0
                            try clear c42b1
                            try clear c43
                            try clear c46
                            try clear c49
                            try clear c51
                            try clear c52
                            try clear c55
                            try clear c55b0
                            try clear c56
                            try clear c59
                            try clear hcz10_0
                            try clear hcz10_1
                            try clear hcz10_2
                            try clear hcz10_3
                            try clear hcz10_4
                            try clear hcz14_0
                            try clear hcz14_1
                            try clear hcz14_2
                            try clear hcz14_3
                            try clear hcz14_4
                            try clear hcz17_0
                            try clear hcz17_1
                            try clear hcz17_2
                            try clear hcz17_3
                            try clear hcz17_4
                            try clear hcz20_0
                            try clear hcz20_1
                            try clear hcz20_2
                            try clear hcz20_3
                            try clear hcz20_4
                            try clear hcz21_0
                            try clear hcz21_1
                            try clear hcz21_2
                            try clear hcz21_3
                            try clear hcz21_4
                            try clear hcz27_0
                            try clear hcz27_1
                            try clear hcz27_2
                            try clear hcz27_3
                            try clear hcz27_4
                            try clear hcz30_0
                            try clear hcz30_1
                            try clear hcz30_2
                            try clear hcz30_3
                            try clear hcz30_4
                            try clear hcz31_0
                            try clear hcz31_1
                            try clear hcz31_2
                            try clear hcz31_3
                            try clear hcz31_4
                            try clear hcz34_0
                            try clear hcz34_1
                            try clear hcz34_2
                            try clear hcz34_3
                            try clear hcz34_4
                            try clear hcz35_0
                            try clear hcz35_1
                            try clear hcz35_2
                            try clear hcz35_3
                            try clear hcz35_4
                            try clear hcz38_0
                            try clear hcz38_1
                            try clear hcz38_2
                            try clear hcz38_3
                            try clear hcz38_4
                            try clear hcz39_0
                            try clear hcz39_1
                            try clear hcz39_2
                            try clear hcz39_3
                            try clear hcz39_4
                            try clear hcz44_0
                            try clear hcz44_1
                            try clear hcz44_2
                            try clear hcz44_3
                            try clear hcz44_4
                            try clear hcz45_0
                            try clear hcz45_1
                            try clear hcz45_2
                            try clear hcz45_3
                            try clear hcz45_4
                            try clear hcz47_0
                            try clear hcz47_1
                            try clear hcz47_2
                            try clear hcz47_3
                            try clear hcz47_4
                            try clear hcz48_0
                            try clear hcz48_1
                            try clear hcz48_2
                            try clear hcz48_3
                            try clear hcz48_4
                            try clear hcz50_0
                            try clear hcz50_1
                            try clear hcz50_2
                            try clear hcz50_3
                            try clear hcz50_4
                            try clear hcz53_0
                            try clear hcz53_1
                            try clear hcz53_2
                            try clear hcz53_3
                            try clear hcz53_4
                            try clear hcz57_0
                            try clear hcz57_1
                            try clear hcz57_2
                            try clear hcz57_3
                            try clear hcz57_4
                            try clear hcz58_0
                            try clear hcz58_1
                            try clear hcz58_2
                            try clear hcz58_3
                            try clear hcz58_4
                            try clear hcz60_0
                            try clear hcz60_1
                            try clear hcz60_2
                            try clear hcz60_3
                            try clear hcz60_4
                            try clear hcz7_0
                            try clear hcz7_1
                            try clear hcz7_2
                            try clear hcz7_3
                            try clear hcz7_4
                            try clear hcz9_0
                            try clear hcz9_1
                            try clear hcz9_2
                            try clear hcz9_3
                            try clear hcz9_4
                            try clear hfz10_0
                            try clear hfz10_1
                            try clear hfz10_2
                            try clear hfz10_3
                            try clear hfz10_4
                            try clear hfz14_0
                            try clear hfz14_1
                            try clear hfz14_2
                            try clear hfz14_3
                            try clear hfz14_4
                            try clear hfz17_0
                            try clear hfz17_1
                            try clear hfz17_2
                            try clear hfz17_3
                            try clear hfz17_4
                            try clear hfz20_0
                            try clear hfz20_1
                            try clear hfz20_2
                            try clear hfz20_3
                            try clear hfz20_4
                            try clear hfz21_0
                            try clear hfz21_1
                            try clear hfz21_2
                            try clear hfz21_3
                            try clear hfz21_4
                            try clear hfz27_0
                            try clear hfz27_1
                            try clear hfz27_2
                            try clear hfz27_3
                            try clear hfz27_4
                            try clear hfz30_0
                            try clear hfz30_1
                            try clear hfz30_2
                            try clear hfz30_3
                            try clear hfz30_4
                            try clear hfz31_0
                            try clear hfz31_1
                            try clear hfz31_2
                            try clear hfz31_3
                            try clear hfz31_4
                            try clear hfz34_0
                            try clear hfz34_1
                            try clear hfz34_2
                            try clear hfz34_3
                            try clear hfz34_4
                            try clear hfz35_0
                            try clear hfz35_1
                            try clear hfz35_2
                            try clear hfz35_3
                            try clear hfz35_4
                            try clear hfz38_0
                            try clear hfz38_1
                            try clear hfz38_2
                            try clear hfz38_3
                            try clear hfz38_4
                            try clear hfz39_0
                            try clear hfz39_1
                            try clear hfz39_2
                            try clear hfz39_3
                            try clear hfz39_4
                            try clear hfz44_0
                            try clear hfz44_1
                            try clear hfz44_2
                            try clear hfz44_3
                            try clear hfz44_4
                            try clear hfz45_0
                            try clear hfz45_1
                            try clear hfz45_2
                            try clear hfz45_3
                            try clear hfz45_4
                            try clear hfz47_0
                            try clear hfz47_1
                            try clear hfz47_2
                            try clear hfz47_3
                            try clear hfz47_4
                            try clear hfz48_0
                            try clear hfz48_1
                            try clear hfz48_2
                            try clear hfz48_3
                            try clear hfz48_4
                            try clear hfz50_0
                            try clear hfz50_1
                            try clear hfz50_2
                            try clear hfz50_3
                            try clear hfz50_4
                            try clear hfz53_0
                            try clear hfz53_1
                            try clear hfz53_2
                            try clear hfz53_3
                            try clear hfz53_4
                            try clear hfz57_0
                            try clear hfz57_1
                            try clear hfz57_2
                            try clear hfz57_3
                            try clear hfz57_4
                            try clear hfz58_0
                            try clear hfz58_1
                            try clear hfz58_2
                            try clear hfz58_3
                            try clear hfz58_4
                            try clear hfz60_0
                            try clear hfz60_1
                            try clear hfz60_2
                            try clear hfz60_3
                            try clear hfz60_4
                            try clear hfz7_0
                            try clear hfz7_1
                            try clear hfz7_2
                            try clear hfz7_3
                            try clear hfz7_4
                            try clear hfz9_0
                            try clear hfz9_1
                            try clear hfz9_2
                            try clear hfz9_3
                            try clear hfz9_4
                            try clear hx119_0
                            try clear hx119_1
                            try clear hx119_2
                            try clear hx119_3
                            try clear hx119_4
                            try clear p1
                            try clear p11
                            try clear p119
                            try clear p2
                            try clear q1
                            try clear q11
                            try clear q119
                            obtain ⟨kq, x72_53, rfl, HA, HJ53, BK114, BK116, HB⟩ := hcut
                            cases kq with
                            | zero => exact absurd HA.out (by simp [dedup_Look.j4])
                            | succ kj53 =>
                              have H := HA.out
                              clear HA
                              simp only [dedup_Look.j4] at H
                              by_cases c61 : x72_53 = true
                              · subst c61
                                have H1 : (some (0, false, 0)) = some (r1, r2, r3) := by rw [if_pos rfl] at H; exact H
                                clear H
                                have H := H1
                                clear H1
                                simp only [Option.some.injEq, Prod.mk.injEq] at H
                                obtain ⟨rfl, rfl, rfl⟩ := H
                                go_wp2
                                go_ret3
                                exact ⟨by first | rfl | (simp [errW_none, errW_some] <;> rfl) | (simp [*, errW_none, errW_some] <;> rfl), by repeat (first | (with_reducible first | exact HB.out | apply below_alloc | apply pw_below_drewN | apply below_drew1 | refine below_set ?_ GE114.out | refine below_set ?_ GE116.out) | exact HB.out)⟩
                              · replace c61 := Bool.eq_false_iff.mpr c61
                                subst c61
                                have H1 : (if x117003_31 ≤ 0 then (if a1_3 = 0 then (some (0, false, 0)) else (some (0, false, 7))) else (some (0, false, 7))) = some (r1, r2, r3) := by rw [if_neg (show ¬ (false = true) by decide)] at H; exact H
                                clear H
                                have H := H1
                                clear H1
                                by_cases c62 : x117003_31 ≤ 0
                                · rw [if_pos c62] at H
                                  have c62b0 : decide (x117003_31 ≤ 0) = true := decide_eq_true c62
                                  clear c62
                                  by_cases c63 : a1_3 = 0
                                  · rw [if_pos c63] at H
                                    have c63b0 : (a1_3 == 0) = true := beq_iff_eq.mpr c63
                                    have c63b1 : (a1_3 != 0) = false := bne_eq_false_iff_eq.mpr c63
                                    clear c63
                                    simp only [Option.some.injEq, Prod.mk.injEq] at H
                                    obtain ⟨rfl, rfl, rfl⟩ := H
                                    have hnb64 := NB116_114.out
                                    have hnc64 := NB114_116.out
                                    have hcz65_0 : wc.cell? ⟨gb116, 0, none⟩ = some (.int .i64 x117000_31) := (blk_cell BK116.out 0).trans rfl
                                    have hcz65_1 : wc.cell? ⟨gb116, 1, none⟩ = some (.int .i64 x117001_31) := (blk_cell BK116.out 1).trans rfl
                                    have hcz65_2 : wc.cell? ⟨gb116, 2, none⟩ = some (.int .i64 x117002_31) := (blk_cell BK116.out 2).trans rfl
                                    have hcz65_3 : wc.cell? ⟨gb116, 3, none⟩ = some (.int .i64 x117003_31) := (blk_cell BK116.out 3).trans rfl
                                    have hcz65_4 : wc.cell? ⟨gb116, 4, none⟩ = some (.int .i64 x117004_31) := (blk_cell BK116.out 4).trans rfl
                                    have hfz65_0 := blk_frozen BK116.out 0
                                    have hfz65_1 := blk_frozen BK116.out 1
                                    have hfz65_2 := blk_frozen BK116.out 2
                                    have hfz65_3 := blk_frozen BK116.out 3
                                    have hfz65_4 := blk_frozen BK116.out 4
                                    have hcz66_0 : wc.cell? ⟨gb114, 0, none⟩ = some (.int .i64 a1_0) := (blk_cell BK114.out 0).trans rfl
                                    have hcz66_1 : wc.cell? ⟨gb114, 1, none⟩ = some (.int .i64 a1_1) := (blk_cell BK114.out 1).trans rfl
                                    have hcz66_2 : wc.cell? ⟨gb114, 2, none⟩ = some (.int .i64 a1_2) := (blk_cell BK114.out 2).trans rfl
                                    have hcz66_3 : wc.cell? ⟨gb114, 3, none⟩ = some (.int .i64 a1_3) := (blk_cell BK114.out 3).trans rfl
                                    have hcz66_4 : wc.cell? ⟨gb114, 4, none⟩ = some (.slice A1_4 l1_4.length c1_4) := (blk_cell BK114.out 4).trans rfl
                                    have hfz66_0 := blk_frozen BK114.out 0
                                    have hfz66_1 := blk_frozen BK114.out 1
                                    have hfz66_2 := blk_frozen BK114.out 2
                                    have hfz66_3 := blk_frozen BK114.out 3
                                    have hfz66_4 := blk_frozen BK114.out 4
                                    go_wp2
                                    go_ret3
                                    exact ⟨by first | rfl | (simp [errW_none, errW_some] <;> rfl) | (simp [*, errW_none, errW_some] <;> rfl), by repeat (first | (with_reducible first | exact HB.out | apply below_alloc | apply pw_below_drewN | apply below_drew1 | refine below_set ?_ GE114.out | refine below_set ?_ GE116.out) | exact HB.out)⟩
                                  · rw [if_neg c63] at H
                                    have c63b0 : (a1_3 == 0) = false := beq_eq_false_iff_ne.mpr c63
                                    have c63b1 : (a1_3 != 0) = true := bne_iff_ne.mpr c63
                                    simp only [Option.some.injEq, Prod.mk.injEq] at H
                                    obtain ⟨rfl, rfl, rfl⟩ := H
                                    have hnb67 := NB116_114.out
                                    have hnc67 := NB114_116.out
                                    have hcz68_0 : wc.cell? ⟨gb116, 0, none⟩ = some (.int .i64 x117000_31) := (blk_cell BK116.out 0).trans rfl
                                    have hcz68_1 : wc.cell? ⟨gb116, 1, none⟩ = some (.int .i64 x117001_31) := (blk_cell BK116.out 1).trans rfl
                                    have hcz68_2 : wc.cell? ⟨gb116, 2, none⟩ = some (.int .i64 x117002_31) := (blk_cell BK116.out 2).trans rfl
                                    have hcz68_3 : wc.cell? ⟨gb116, 3, none⟩ = some (.int .i64 x117003_31) := (blk_cell BK116.out 3).trans rfl
                                    have hcz68_4 : wc.cell? ⟨gb116, 4, none⟩ = some (.int .i64 x117004_31) := (blk_cell BK116.out 4).trans rfl
                                    have hfz68_0 := blk_frozen BK116.out 0
                                    have hfz68_1 := blk_frozen BK116.out 1
                                    have hfz68_2 := blk_frozen BK116.out 2
                                    have hfz68_3 := blk_frozen BK116.out 3
                                    have hfz68_4 := blk_frozen BK116.out 4
                                    have hcz69_0 : wc.cell? ⟨gb114, 0, none⟩ = some (.int .i64 a1_0) := (blk_cell BK114.out 0).trans rfl
                                    have hcz69_1 : wc.cell? ⟨gb114, 1, none⟩ = some (.int .i64 a1_1) := (blk_cell BK114.out 1).trans rfl
                                    have hcz69_2 : wc.cell? ⟨gb114, 2, none⟩ = some (.int .i64 a1_2) := (blk_cell BK114.out 2).trans rfl
                                    have hcz69_3 : wc.cell? ⟨gb114, 3, none⟩ = some (.int .i64 a1_3) := (blk_cell BK114.out 3).trans rfl
                                    have hcz69_4 : wc.cell? ⟨gb114, 4, none⟩ = some (.slice A1_4 l1_4.length c1_4) := (blk_cell BK114.out 4).trans rfl
                                    have hfz69_0 := blk_frozen BK114.out 0
                                    have hfz69_1 := blk_frozen BK114.out 1
                                    have hfz69_2 := blk_frozen BK114.out 2
                                    have hfz69_3 := blk_frozen BK114.out 3
                                    have hfz69_4 := blk_frozen BK114.out 4
                                    go_wp2
                                    go_ret3
                                    exact ⟨by first | rfl | (simp [errW_none, errW_some] <;> rfl) | (simp [*, errW_none, errW_some] <;> rfl), by repeat (first | (with_reducible first | exact HB.out | apply below_alloc | apply pw_below_drewN | apply below_drew1 | refine below_set ?_ GE114.out | refine below_set ?_ GE116.out) | exact HB.out)⟩
                                · rw [if_neg c62] at H
                                  have c62b0 : decide (x117003_31 ≤ 0) = false := decide_eq_false c62
                                  clear c62
                                  simp only [Option.some.injEq, Prod.mk.injEq] at H
                                  obtain ⟨rfl, rfl, rfl⟩ := H
                                  have hnb70 := NB116_114.out
                                  have hnc70 := NB114_116.out
                                  have hcz71_0 : wc.cell? ⟨gb116, 0, none⟩ = some (.int .i64 x117000_31) := (blk_cell BK116.out 0).trans rfl
                                  have hcz71_1 : wc.cell? ⟨gb116, 1, none⟩ = some (.int .i64 x117001_31) := (blk_cell BK116.out 1).trans rfl
                                  have hcz71_2 : wc.cell? ⟨gb116, 2, none⟩ = some (.int .i64 x117002_31) := (blk_cell BK116.out 2).trans rfl
                                  have hcz71_3 : wc.cell? ⟨gb116, 3, none⟩ = some (.int .i64 x117003_31) := (blk_cell BK116.out 3).trans rfl
                                  have hcz71_4 : wc.cell? ⟨gb116, 4, none⟩ = some (.int .i64 x117004_31) := (blk_cell BK116.out 4).trans rfl
                                  have hfz71_0 := blk_frozen BK116.out 0
                                  have hfz71_1 := blk_frozen BK116.out 1
                                  have hfz71_2 := blk_frozen BK116.out 2
                                  have hfz71_3 := blk_frozen BK116.out 3
                                  have hfz71_4 := blk_frozen BK116.out 4
                                  go_wp2
                                  go_ret3
                                  exact ⟨by first | rfl | (simp [errW_none, errW_some] <;> rfl) | (simp [*, errW_none, errW_some] <;> rfl), by repeat (first | (with_reducible first | exact HB.out | apply below_alloc | apply pw_below_drewN | apply below_drew1 | refine below_set ?_ GE114.out | refine below_set ?_ GE116.out) | exact HB.out)⟩

end Go.Proofs.Ythoegjpcjclbjaa.P
